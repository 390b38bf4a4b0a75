import PyProof.Rows.All
import HandS.ForMost
import HandS.ForExc
import HandS.Wide
import HandS.WideBits
import HandS.Gcd
import HandS.IsInst
import HandS.Style
import HandS.Deep
import HandS.TupAny
import HandS.TryOnly
import HandS.Flow
import HandS.RaiseMore
import HandS.EndBits
import HandS.Dict
import PyProof.P3Eq
import PyProof.ReprLen
import HandS.Text
import HandS.FStr
import HandS.More
import HandS.Star
import PySem.Challenge.RW_wheretrue_k16_signs_and_chains
set_option Elab.async false
set_option linter.all false
set_option maxRecDepth 100000
set_option maxHeartbeats 4000000
set_option Elab.async false
set_option linter.all false
set_option maxRecDepth 100000
namespace VL
open PySem PySem.Spec PyProof.Rows L2

abbrev D := PyData
abbrev Fg := PySem.W.Frag
abbrev Sg := L2.St
set_option autoImplicit false

/-! ### data in a heap -/
/-- the data of a list that was made new; of a list that stays as it is -/
def tg (l : List D) : D := .dict [(.int 0, .list l)]
def tf (l : List D) : D := .dict [(.int 1, .list l)]
/-- a dict with text keys -/
def dkD (ks : List Str) (ds : List D) : D := .dict ((PyData.str "", PyData.none) :: (ks.map fun k => PyData.str k).zip ds)
/-- a list that is never changed -/
def OldL (K : Fg) (H : Hp) (a : Addr) (xs : List V) : Prop :=
  (∃ o, H a = some (.frz o (.lst xs))) ∨
    ∃ (o : Obj) (its : Array Value) (n : Nat), K.lookup a = some o ∧ o.cls = .type "list" ∧ o.dict = none ∧ o.data = .seq its n ∧ its.size ≤ sizeLine ∧ Vals xs its.toList
mutual
inductive Rp (K : Fg) (H : Hp) : D → V → Prop
  | non : Rp K H .none .non
  | bl (b : Bool) : Rp K H (.bool b) (.bl b)
  | int (i : Int) : Rp K H (.int i) (.int i)
  | str (x : Str) : Rp K H (.str x) (.str x)
  | lst {a : Addr} {xs : List V} {ds : List D} : SqL K H a xs → RpL K H ds xs → Rp K H (.list ds) (.ref a)
  | tup {a : Addr} {xs : List V} {ds : List D} : SqT K H a xs → RpL K H ds xs → Rp K H (.tuple ds) (.ref a)
  | nl {a : Addr} {xs : List V} {ds : List D} : H a = some (.lst xs) → RpL K H ds xs → Rp K H (tg ds) (.ref a)
  | fl {a : Addr} {xs : List V} {ds : List D} : OldL K H a xs → RpL K H ds xs → Rp K H (tf ds) (.ref a)
  | dk {a : Addr} {ks : List Str} {vs : List V} {ds : List D} : H a = some (.dK (mergeK [] ((ks.zip vs).map fun p => ((Sum.inr p.1 : Key), p.2)))) → vs.length = ks.length → RpL K H ds vs → Rp K H (dkD ks ds) (.ref a)
inductive RpL (K : Fg) (H : Hp) : List D → List V → Prop
  | nil : RpL K H [] []
  | cons {v : V} {vs : List V} {d : D} {ds : List D} : Rp K H d v → RpL K H ds vs → RpL K H (d :: ds) (v :: vs)
end

theorem Rd.mono {H H' : Hp} {a : Addr} {u : HO} (e : Same H H') (h : Rd H a u) : Rd H' a u := by
  rcases h with h | ⟨o, h⟩
  · exact .inl (e _ _ h)
  · exact .inr ⟨o, e _ _ h⟩
theorem OldL.mono {K : Fg} {H H' : Hp} {a : Addr} {xs : List V} (e : Same H H') (h : OldL K H a xs) : OldL K H' a xs := by
  rcases h with ⟨o, h⟩ | h
  · exact .inl ⟨o, e _ _ h⟩
  · exact .inr h
theorem OldL.seq {K : Fg} {H : Hp} {a : Addr} {xs : List V} (h : OldL K H a xs) : SqL K H a xs := by
  rcases h with ⟨o, h⟩ | h
  · exact .inl (.inr ⟨o, h⟩)
  · exact .inr h
theorem SqT.mono {K : Fg} {H H' : Hp} {a : Addr} {xs : List V} (e : Same H H') (h : SqT K H a xs) : SqT K H' a xs := by
  rcases h with h | h
  · exact .inl (Rd.mono e h)
  · exact .inr h
section
variable {K : Fg} {H H' : Hp}
mutual
theorem Rp.mono (e : Same H H') : ∀ {d : D} {v : V}, Rp K H d v → Rp K H' d v
  | _, _, .non => .non
  | _, _, .bl b => .bl b
  | _, _, .int i => .int i
  | _, _, .str x => .str x
  | _, _, .lst h r => .lst (Same.seq e h) (RpL.mono e r)
  | _, _, .tup h r => .tup (SqT.mono e h) (RpL.mono e r)
  | _, _, .nl h r => .nl (e _ _ h) (RpL.mono e r)
  | _, _, .fl h r => .fl (OldL.mono e h) (RpL.mono e r)
  | _, _, .dk h l r => .dk (e _ _ h) l (RpL.mono e r)
theorem RpL.mono (e : Same H H') : ∀ {d : List D} {v : List V}, RpL K H d v → RpL K H' d v
  | _, _, .nil => .nil
  | _, _, .cons h r => .cons (Rp.mono e h) (RpL.mono e r)
end
theorem nodict_all : ∀ {l : List D}, PyData.hasDictAll l = false → ∀ d ∈ l, d.hasDict = false
  | [], _, d, hd => by simp at hd
  | x :: l, h, d, hd => by
    unfold PyData.hasDictAll at h
    rw [Bool.or_eq_false_iff] at h
    rcases List.mem_cons.mp hd with rfl | hd
    · exact h.1
    · exact nodict_all h.2 d hd
theorem nodict_list {l : List D} (h : (PyData.list l).hasDict = false) : ∀ d ∈ l, d.hasDict = false := nodict_all (by unfold PyData.hasDict at h; exact h)
theorem nodict_tup {l : List D} (h : (PyData.tuple l).hasDict = false) : ∀ d ∈ l, d.hasDict = false := nodict_all (by unfold PyData.hasDict at h; exact h)
theorem nodict_of {d : D} (h : SeqAt.shaped d = true) : d.hasDict = false := PyData.hasDict_of_canLay d (SeqAt.canLay_of_shaped h)
mutual
theorem Rp.dp : ∀ {d : D} {v : V}, Rp K H d v → d.hasDict = false → Dp K H v d
  | _, _, .non, _ => .non
  | _, _, .bl b, _ => .bl b
  | _, _, .int i, _ => .int i
  | _, _, .str x, _ => .str x
  | _, _, .lst h r, n => .lst h (RpL.dp r (nodict_list n))
  | _, _, .tup h r, n => .tup h (RpL.dp r (nodict_tup n))
  | _, _, .nl h r, n => by simp [tg, PyData.hasDict] at n
  | _, _, .fl h r, n => by simp [tf, PyData.hasDict] at n
  | _, _, .dk h l r, n => by simp [dkD, PyData.hasDict] at n
theorem RpL.dp : ∀ {d : List D} {v : List V}, RpL K H d v → (∀ x ∈ d, x.hasDict = false) → DpAll K H v d
  | _, _, .nil, _ => .nil
  | _, _, .cons h r, n => .cons (Rp.dp h (n _ (by simp))) (RpL.dp r (fun x hx => n x (by simp [hx])))
end
theorem RpL.length : ∀ {ds : List D} {vs : List V}, RpL K H ds vs → ds.length = vs.length
  | _, _, .nil => rfl
  | _, _, .cons _ r => congrArg (· + 1) (RpL.length r)
theorem RpL.get : ∀ {ds : List D} {vs : List V} {i : Nat} {d : D}, RpL K H ds vs → ds[i]? = some d → ∃ v, vs[i]? = some v ∧ Rp K H d v
  | _, _, _, _, .nil, e => by simp at e
  | _, _, 0, _, .cons h _, e => by simp at e; subst e; exact ⟨_, rfl, h⟩
  | _, _, i + 1, _, .cons _ r, e => by
    obtain ⟨v, h1, h2⟩ := RpL.get (i := i) r (by simpa using e)
    exact ⟨v, by simpa using h1, h2⟩
theorem RpL.append : ∀ {ds es : List D} {vs ws : List V}, RpL K H ds vs → RpL K H es ws → RpL K H (ds ++ es) (vs ++ ws)
  | _, _, _, _, .nil, s => s
  | _, _, _, _, .cons h r, s => .cons h (RpL.append r s)
theorem RpL.take : ∀ {ds : List D} {vs : List V} (n : Nat), RpL K H ds vs → RpL K H (ds.take n) (vs.take n)
  | _, _, 0, _ => .nil
  | _, _, _ + 1, .nil => .nil
  | _, _, n + 1, .cons h r => .cons h (RpL.take n r)
theorem RpL.drop : ∀ {ds : List D} {vs : List V} (n : Nat), RpL K H ds vs → RpL K H (ds.drop n) (vs.drop n)
  | _, _, 0, r => r
  | _, _, _ + 1, .nil => .nil
  | _, _, n + 1, .cons _ r => RpL.drop n r
theorem RpL.set {d : D} {v : V} (q : Rp K H d v) : ∀ {ds : List D} {vs : List V} (i : Nat), RpL K H ds vs → RpL K H (ds.set i d) (vs.set i v)
  | _, _, _, .nil => .nil
  | _, _, 0, .cons _ r => .cons q r
  | _, _, i + 1, .cons h r => .cons h (RpL.set q i r)
theorem RpL.reverse {ds : List D} {vs : List V} (r : RpL K H ds vs) : RpL K H ds.reverse vs.reverse := by
  induction ds generalizing vs with
  | nil => cases r; exact .nil
  | cons d ds ih =>
    cases r with
    | cons h r =>
      rw [List.reverse_cons, List.reverse_cons]
      exact (ih r).append (.cons h .nil)
theorem RpL.dropLast {ds : List D} {vs : List V} (r : RpL K H ds vs) : RpL K H ds.dropLast vs.dropLast := by
  rw [List.dropLast_eq_take, List.dropLast_eq_take, r.length]
  exact r.take _
theorem RpL.replicate {ds : List D} {vs : List V} (r : RpL K H ds vs) : ∀ n : Nat, RpL K H (List.replicate n ds).flatten (List.replicate n vs).flatten
  | 0 => .nil
  | n + 1 => by
    rw [List.replicate_succ, List.replicate_succ, List.flatten_cons, List.flatten_cons]
    exact r.append (RpL.replicate r n)
theorem RpL.ints : ∀ {ns : List Int} {vs : List V}, RpL K H (ns.map PyData.int) vs → vs = ns.map V.int
  | [], _, r => by cases r; rfl
  | n :: ns, _, r => by
    cases r with
    | cons h r => cases h; rw [RpL.ints r]; rfl
theorem RpL.of_ints : ∀ (ns : List Int), RpL K H (ns.map PyData.int) (ns.map V.int)
  | [] => .nil
  | n :: ns => .cons (.int n) (RpL.of_ints ns)
end

/-! ### the frozen part and the whole -/
/-- from (Hs, H) to (Hs', H'): nothing that stood is changed, what is newly frozen is new -/
structure Ext (Hs H Hs' H' : Hp) : Prop where
  sub : Same Hs' H'
  same : Same H H'
  grow : Same Hs Hs'
  fresh : ∀ p o, Hs' p = some o → Hs p = none → H p = none
theorem Ext.refl {Hs H : Hp} (h : Same Hs H) : Ext Hs H Hs H := ⟨h, .refl _, .refl _, fun p o a b => by rw [a] at b; cases b⟩
theorem Ext.trans {Hs H Hs1 H1 Hs2 H2 : Hp} (a : Ext Hs H Hs1 H1) (b : Ext Hs1 H1 Hs2 H2) : Ext Hs H Hs2 H2 where
  sub := b.sub
  same := a.same.trans b.same
  grow := a.grow.trans b.grow
  fresh := fun p o h1 h2 => by
    cases e : Hs1 p with
    | none => exact a.same.free (b.fresh p o h1 e)
    | some u => exact a.fresh p u e h2
/-- a new object, frozen at once -/
theorem Ext.new {Hs H : Hp} {p : Addr} {o : HO} (h : Same Hs H) (hp : H p = none) : Ext Hs H (upd Hs p o) (upd H p o) where
  sub := fun b u e => by
    by_cases hb : b = p
    · subst hb; rw [upd_same] at e ⊢; exact e
    · rw [upd_ne hb] at e ⊢; exact h b u e
  same := fun b u e => by rw [upd_ne (ne_of_none e hp)]; exact e
  grow := fun b u e => by rw [upd_ne (ne_of_none (h b u e) hp)]; exact e
  fresh := fun b u e n => by
    by_cases hb : b = p
    · subst hb; exact hp
    · rw [upd_ne hb] at e; rw [e] at n; cases n
/-- a new object, not frozen -/
theorem Ext.hid {Hs H : Hp} {p : Addr} {o : HO} (h : Same Hs H) (hp : H p = none) : Ext Hs H Hs (upd H p o) where
  sub := fun b u e => by rw [upd_ne (ne_of_none (h b u e) hp)]; exact h b u e
  same := fun b u e => by rw [upd_ne (ne_of_none e hp)]; exact e
  grow := .refl _
  fresh := fun b u e n => by rw [e] at n; cases n
/-- what was new and not frozen is frozen -/
theorem Ext.frz {Hs H Hs' H' : Hp} {p : Addr} {o : HO} (e : Ext Hs H Hs' H') (h0 : H p = none) (h1 : H' p = some o) (h2 : Hs' p = none) : Ext Hs H (upd Hs' p o) H' where
  sub := fun b u q => by
    by_cases hb : b = p
    · subst hb; rw [upd_same] at q; cases q; exact h1
    · rw [upd_ne hb] at q; exact e.sub b u q
  same := e.same
  grow := e.grow.trans fun b u q => by rw [upd_ne (ne_of_none q h2)]; exact q
  fresh := fun b u q n => by
    by_cases hb : b = p
    · subst hb; exact h0
    · rw [upd_ne hb] at q; exact e.fresh b u q n

/-! ### slots -/
inductive SD where
  | no
  | sh (d : D)
  | ow (l : List D)
  | bo (l : List D)
abbrev Ev := List SD
/-- the heap at the start, without the list that is lent; that list's address -/
structure Gx where
  h : Hp
  b : Nat → Option Addr

def RelS (K : Fg) (G : Gx) (Hs H : Hp) (i : Nat) : SD → Option (Option V) → Prop
  | .no, _ => True
  | .sh d, x => ∃ v, x = some (some v) ∧ Rp K Hs d v
  | .ow l, x => ∃ p vs, x = some (some (.ref p)) ∧ G.h p = none ∧ Hs p = none ∧ H p = some (.lst vs) ∧ RpL K Hs l vs ∧ ∀ j, G.b j ≠ some p
  | .bo l, x => ∃ p vs, x = some (some (.ref p)) ∧ G.b i = some p ∧ H p = some (.lst vs) ∧ RpL K Hs l vs

structure RelE (K : Fg) (S : Hp) (G : Gx) (Hs H : Hp) (σ : Sg) (ρ : Ev) : Prop where
  sub : Same Hs H
  old : Same G.h H
  ext : Same S Hs
  new : ∀ p o, Hs p = some o → S p = none → G.h p = none
  len : ρ.length = σ.length
  slot : ∀ (i : Nat) (r : SD), ρ[i]? = some r → RelS K G Hs H i r σ[i]?
  bor : ∀ (i : Nat) (p : Addr), G.b i = some p → G.h p = none ∧ Hs p = none ∧ H p ≠ none
  one : ∀ (i j : Nat) (p : Addr), G.b i = some p → G.b j = some p → i = j
  dis : ∀ (i j : Nat) (l m : List D) (p : Addr), ρ[i]? = some (.ow l) → ρ[j]? = some (.ow m) → σ[i]? = some (some (.ref p)) → σ[j]? = some (some (.ref p)) → i = j

section
variable {K : Fg} {S Hs H Hs' H' : Hp} {G : Gx} {σ : Sg} {ρ : Ev}
theorem RelE.step (r : RelE K S G Hs H σ ρ) (e : Ext Hs H Hs' H') : RelE K S G Hs' H' σ ρ where
  sub := e.sub
  old := r.old.trans e.same
  ext := r.ext.trans e.grow
  new := fun p o a b => by
    cases q : Hs p with
    | none => exact r.old.free (e.fresh p o a q)
    | some u => exact r.new p u q b
  len := r.len
  slot := fun i s hs => by
    have q := r.slot i s hs
    cases s with
    | no => trivial
    | sh d =>
      obtain ⟨v, e1, e2⟩ := q
      exact ⟨v, e1, e2.mono e.grow⟩
    | ow l =>
      obtain ⟨p, vs, e1, e2, e3, e4, e5, e6⟩ := q
      refine ⟨p, vs, e1, e2, ?_, e.same _ _ e4, e5.mono e.grow, e6⟩
      cases q : Hs' p with
      | none => rfl
      | some u =>
        have := e.fresh p u q e3
        rw [e4] at this; cases this
    | bo l =>
      obtain ⟨p, vs, e1, e2, e3, e4⟩ := q
      exact ⟨p, vs, e1, e2, e.same _ _ e3, e4.mono e.grow⟩
  dis := r.dis
  bor := fun i p hp => by
    obtain ⟨h1, h2, h3⟩ := r.bor i p hp
    refine ⟨h1, ?_, fun z => h3 (e.same.free z)⟩
    cases q : Hs' p with
    | none => rfl
    | some u => exact (h3 (e.fresh p u q h2)).elim
  one := r.one
theorem RelE.get {i : Nat} {d : D} (r : RelE K S G Hs H σ ρ) (h : ρ[i]? = some (.sh d)) : ∃ v, σ[i]? = some (some v) ∧ Rp K Hs d v := r.slot i _ h
theorem RelE.own' {i : Nat} {l : List D} (r : RelE K S G Hs H σ ρ) (h : ρ[i]? = some (.ow l)) : ∃ p vs, σ[i]? = some (some (.ref p)) ∧ G.h p = none ∧ Hs p = none ∧ H p = some (.lst vs) ∧ RpL K Hs l vs ∧ ∀ j, G.b j ≠ some p := r.slot i _ h
theorem RelE.own {i : Nat} {l : List D} (r : RelE K S G Hs H σ ρ) (h : ρ[i]? = some (.ow l)) : ∃ p vs, σ[i]? = some (some (.ref p)) ∧ G.h p = none ∧ Hs p = none ∧ H p = some (.lst vs) ∧ RpL K Hs l vs :=
  let ⟨p, vs, e1, e2, e3, e4, e5, _⟩ := r.own' h
  ⟨p, vs, e1, e2, e3, e4, e5⟩
theorem RelE.lent {i : Nat} {l : List D} (r : RelE K S G Hs H σ ρ) (h : ρ[i]? = some (.bo l)) : ∃ p vs, σ[i]? = some (some (.ref p)) ∧ G.b i = some p ∧ H p = some (.lst vs) ∧ RpL K Hs l vs := r.slot i _ h

theorem set_get {α : Type} {l : List α} {i j : Nat} {x y : α} (h : (l.set i x)[j]? = some y) : (j = i ∧ i < l.length ∧ y = x) ∨ (j ≠ i ∧ l[j]? = some y) := by
  by_cases e : j = i
  · subst e
    by_cases hl : j < l.length
    · rw [List.getElem?_set_self hl] at h
      exact .inl ⟨rfl, hl, (Option.some.inj h).symm⟩
    · rw [List.getElem?_eq_none (by simpa using hl)] at h; cases h
  · rw [List.getElem?_set_ne (Ne.symm e)] at h
    exact .inr ⟨e, h⟩
/-- a slot is forgotten, or what stands there is shared data -/
theorem RelE.set {i : Nat} {d : D} {v : V} (r : RelE K S G Hs H σ ρ) (h : Rp K Hs d v) : RelE K S G Hs H (σ.set i (some v)) (ρ.set i (.sh d)) where
  sub := r.sub
  old := r.old
  ext := r.ext
  new := r.new
  len := by simpa using r.len
  slot := fun j s hs => by
    rcases set_get hs with ⟨rfl, hl, rfl⟩ | ⟨hj, hs⟩
    · exact ⟨v, by rw [List.getElem?_set_self (by rw [← r.len]; exact hl)], h⟩
    · rw [List.getElem?_set_ne (Ne.symm hj)]
      exact r.slot j s hs
  dis := fun j k l m p a b c d' => by
    rcases set_get a with ⟨_, _, e⟩ | ⟨hj, a⟩
    · cases e
    · rcases set_get b with ⟨_, _, e⟩ | ⟨hk, b⟩
      · cases e
      · rw [List.getElem?_set_ne (Ne.symm hj)] at c
        rw [List.getElem?_set_ne (Ne.symm hk)] at d'
        exact r.dis j k l m p a b c d'
  bor := r.bor
  one := r.one
theorem RelE.setNo {i : Nat} {v : Option V} (r : RelE K S G Hs H σ ρ) : RelE K S G Hs H (σ.set i v) (ρ.set i .no) where
  sub := r.sub
  old := r.old
  ext := r.ext
  new := r.new
  len := by simpa using r.len
  slot := fun j s hs => by
    rcases set_get hs with ⟨rfl, hl, rfl⟩ | ⟨hj, hs⟩
    · trivial
    · rw [List.getElem?_set_ne (Ne.symm hj)]
      exact r.slot j s hs
  dis := fun j k l m p a b c d' => by
    rcases set_get a with ⟨_, _, e⟩ | ⟨hj, a⟩
    · cases e
    · rcases set_get b with ⟨_, _, e⟩ | ⟨hk, b⟩
      · cases e
      · rw [List.getElem?_set_ne (Ne.symm hj)] at c
        rw [List.getElem?_set_ne (Ne.symm hk)] at d'
        exact r.dis j k l m p a b c d'
  bor := r.bor
  one := r.one
/-- a new list of one's own -/
theorem RelE.setOw {i : Nat} {l : List D} {p : Addr} {vs : List V} (r : RelE K S G Hs H σ ρ) (e : Ext Hs H Hs' H') (h0 : H p = none) (h1 : Hs' p = none) (h2 : H' p = some (.lst vs)) (h3 : RpL K Hs' l vs) :
    RelE K S G Hs' H' (σ.set i (some (.ref p))) (ρ.set i (.ow l)) := by
  have r' := r.step e
  have nb : ∀ j, G.b j ≠ some p := fun j z => (r.bor j p z).2.2 h0
  have away : ∀ (j : Nat) (m : List D), ρ[j]? = some (.ow m) → σ[j]? = some (some (.ref p)) → False := fun j m hj hs => by
    obtain ⟨q, ws, e1, _, _, e4, _⟩ := r.own hj
    rw [hs] at e1; cases e1
    rw [h0] at e4; cases e4
  refine ⟨r'.sub, r'.old, r'.ext, r'.new, by simpa using r.len, fun j s hs => ?_, r'.bor, r'.one, fun j k l m q a b c d' => ?_⟩
  · rcases set_get hs with ⟨rfl, hl, rfl⟩ | ⟨hj, hs⟩
    · exact ⟨p, vs, by rw [List.getElem?_set_self (by rw [← r.len]; exact hl)], r.old.free h0, h1, h2, h3, nb⟩
    · rw [List.getElem?_set_ne (Ne.symm hj)]
      exact r'.slot j s hs
  · rcases set_get a with ⟨rfl, hl, e⟩ | ⟨hj, a'⟩
    · rcases set_get b with ⟨rfl, _, e⟩ | ⟨hk, b'⟩
      · rfl
      · rw [List.getElem?_set_self (by rw [← r.len]; exact hl)] at c
        rw [List.getElem?_set_ne (Ne.symm hk)] at d'
        cases c
        exact (away k m b' d').elim
    · rcases set_get b with ⟨rfl, hl, e⟩ | ⟨hk, b'⟩
      · rw [List.getElem?_set_self (by rw [← r.len]; exact hl)] at d'
        rw [List.getElem?_set_ne (Ne.symm hj)] at c
        cases d'
        exact (away j l a' c).elim
      · rw [List.getElem?_set_ne (Ne.symm hj)] at c
        rw [List.getElem?_set_ne (Ne.symm hk)] at d'
        exact r.dis j k l m q a' b' c d'
/-- a list of one's own is changed -/
theorem RelE.wr {i : Nat} {l l' : List D} {p : Addr} {ws : List V} (r : RelE K S G Hs H σ ρ) (hi : ρ[i]? = some (.ow l)) (hs : σ[i]? = some (some (.ref p))) (h : RpL K Hs l' ws) :
    RelE K S G Hs (upd H p (.lst ws)) σ (ρ.set i (.ow l')) := by
  obtain ⟨q, us, e1, e2, e3, e4, e5, e6⟩ := r.own' hi
  rw [hs] at e1; cases e1
  refine ⟨fun b u e => ?_, fun b u e => ?_, r.ext, r.new, by simpa using r.len, fun j s hj => ?_, fun jj a ha => ?_, r.one, fun j k m n q a b c d' => ?_⟩
  · rw [upd_ne (ne_of_none e e3)]; exact r.sub b u e
  · rw [upd_ne (ne_of_none e e2)]; exact r.old b u e
  · rcases set_get hj with ⟨rfl, hl, rfl⟩ | ⟨hj', hj⟩
    · exact ⟨p, ws, hs, e2, e3, upd_same, h, e6⟩
    · have q := r.slot j s hj
      cases s with
      | no => trivial
      | sh d => exact q
      | ow m =>
        obtain ⟨q, xs, f1, f2, f3, f4, f5, f6⟩ := q
        refine ⟨q, xs, f1, f2, f3, ?_, f5, f6⟩
        rw [upd_ne]
        · exact f4
        · rintro rfl
          exact hj' (r.dis j i m l q hj hi f1 hs)
      | bo m =>
        obtain ⟨q, xs, f1, f2, f3, f4⟩ := q
        refine ⟨q, xs, f1, f2, ?_, f4⟩
        rw [upd_ne]
        · exact f3
        · rintro rfl
          exact e6 j f2
  · obtain ⟨h1, h2, h3⟩ := r.bor jj a ha
    refine ⟨h1, h2, ?_⟩
    rw [upd_ne]
    · exact h3
    · rintro rfl
      exact e6 jj ha
  · have go : ∀ (j : Nat) (m : List D), (ρ.set i (.ow l'))[j]? = some (.ow m) → ∃ m', ρ[j]? = some (.ow m') := fun j m h => by
      rcases set_get h with ⟨rfl, _, _⟩ | ⟨_, h⟩
      · exact ⟨l, hi⟩
      · exact ⟨m, h⟩
    obtain ⟨m', a'⟩ := go j m a
    obtain ⟨n', b'⟩ := go k n b
    exact r.dis j k m' n' q a' b' c d'
/-- a list of one's own is frozen -/
theorem RelE.fz {i : Nat} {l : List D} (r : RelE K S G Hs H σ ρ) (hi : ρ[i]? = some (.ow l)) : ∃ Hs', Same Hs Hs' ∧ RelE K S G Hs' H σ (ρ.set i (.sh (.list l))) := by
  obtain ⟨p, vs, e1, e2, e3, e4, e5, e6⟩ := r.own' hi
  have g : Same Hs (upd Hs p (.lst vs)) := fun b u q => by rw [upd_ne (ne_of_none q e3)]; exact q
  refine ⟨upd Hs p (.lst vs), g, fun b u q => ?_, r.old, r.ext.trans g, fun b u q n => ?_, by simpa using r.len, fun j s hj => ?_, fun jj a ha => ?_, r.one, fun j k m n q a b c d' => ?_⟩
  · by_cases hb : b = p
    · subst hb; rw [upd_same] at q; cases q; exact e4
    · rw [upd_ne hb] at q; exact r.sub b u q
  · by_cases hb : b = p
    · subst hb; exact e2
    · rw [upd_ne hb] at q; exact r.new b u q n
  · rcases set_get hj with ⟨rfl, hl, rfl⟩ | ⟨hj', hj⟩
    · exact ⟨_, e1, .lst (.inl (.inl upd_same)) (e5.mono g)⟩
    · have q := r.slot j s hj
      cases s with
      | no => trivial
      | sh d =>
        obtain ⟨v, q1, q2⟩ := q
        exact ⟨v, q1, q2.mono g⟩
      | ow m =>
        obtain ⟨q, xs, f1, f2, f3, f4, f5, f6⟩ := q
        refine ⟨q, xs, f1, f2, ?_, f4, f5.mono g, f6⟩
        rw [upd_ne]
        · exact f3
        · rintro rfl
          exact hj' (r.dis j i m l q hj hi f1 e1)
      | bo m =>
        obtain ⟨q, xs, f1, f2, f3, f4⟩ := q
        exact ⟨q, xs, f1, f2, f3, f4.mono g⟩
  · obtain ⟨h1, h2, h3⟩ := r.bor jj a ha
    refine ⟨h1, ?_, h3⟩
    rw [upd_ne]
    · exact h2
    · rintro rfl
      exact e6 jj ha
  · rcases set_get a with ⟨_, _, e⟩ | ⟨hj, a⟩
    · cases e
    · rcases set_get b with ⟨_, _, e⟩ | ⟨hk, b⟩
      · cases e
      · exact r.dis j k m n q a b c d'
end

/-! ### outcomes -/
/-- an exception: its class's name, its fields -/
structure Xn where
  name : Str
  flds : List (Str × D) := []
inductive R (α : Type) where
  | ok (a : α)
  | ex (x : Xn)
  | bad
def R.bind {α β : Type} (r : R α) (f : α → R β) : R β := match r with
  | .ok a => f a
  | .ex x => .ex x
  | .bad => .bad
instance : Monad R where
  pure := .ok
  bind := R.bind
inductive Out where
  | nx (ρ : Ev)
  | rt (r : SD)
  | rtB (r : SD) (ρ : Ev)
  | bk (ρ : Ev)
  | ct (ρ : Ev)
  | ex (x : Xn) (ρ : Ev)
  | bad
end VL

set_option Elab.async false
set_option linter.all false
set_option maxRecDepth 100000
set_option autoImplicit false
namespace VL
open PySem PySem.Spec PyProof.Rows L2

/-! ### what is wanted behind an evaluation -/
/-- the exception told by x, as it lies -/
def XRp (K : Fg) (mg : Str → Option Value) (H : Hp) (x : Xn) (cls : Value) (dd : Option Addr) : Prop :=
  mg x.name = some cls ∧ (x.flds = [] ∨ ∃ a vs, dd = some a ∧ H a = some (.xd vs) ∧ vs.map (·.1) = x.flds.map (·.1) ∧ RpL K H (x.flds.map (·.2)) (vs.map (·.2)))

def Post {α : Type} (K : Fg) (mg : Str → Option Value) (W : WX) (Hs H : Hp) (σ : Sg) : R α → (α → Hp → Hp → Prop) → Prop
  | .ok a, P => ∀ Hs' H', Ext Hs H Hs' H' → P a Hs' H'
  | .ex x, _ => ∀ Hs' H' cls dd, Ext Hs H Hs' H' → XRp K mg H' x cls dd → W cls dd σ H'
  | .bad, _ => False

section
variable {K : Fg} {mg : Str → Option Value} {W : WX} {Hs H Hs1 H1 : Hp} {σ : Sg} {α β : Type}
theorem Post.up {r : R α} {P : α → Hp → Hp → Prop} (e : Ext Hs H Hs1 H1) (h : Post K mg W Hs H σ r P) : Post K mg W Hs1 H1 σ r P := by
  cases r with
  | ok a => exact fun Hs' H' e' => h Hs' H' (e.trans e')
  | ex x => exact fun Hs' H' cls dd e' hx => h Hs' H' cls dd (e.trans e') hx
  | bad => exact h
theorem Post.imp {r : R α} {P P' : α → Hp → Hp → Prop} (h : Post K mg W Hs H σ r P) (hp : ∀ a Hs' H', Ext Hs H Hs' H' → P a Hs' H' → P' a Hs' H') : Post K mg W Hs H σ r P' := by
  cases r with
  | ok a => exact fun Hs' H' e' => hp _ _ _ e' (h Hs' H' e')
  | ex x => exact h
  | bad => exact h
theorem Post.bind {r : R α} {f : α → R β} {P : β → Hp → Hp → Prop} (h : Post K mg W Hs H σ (r.bind f) P) : Post K mg W Hs H σ r (fun a Hs' H' => Post K mg W Hs' H' σ (f a) P) := by
  cases r with
  | ok a => exact fun Hs' H' e => Post.up e h
  | ex x => exact h
  | bad => exact h
theorem Post.now {a : α} {P : α → Hp → Hp → Prop} (hs : Same Hs H) (h : Post K mg W Hs H σ (.ok a) P) : P a Hs H := h Hs H (.refl hs)
end

/-! ### the readings -/
/-- read at once: a list whose items are frozen, or frozen data -/
def Pk (K : Fg) (Hs H : Hp) (d : D) (v : V) : Prop := Rp K Hs d v ∨ ∃ l a xs, d = .list l ∧ v = .ref a ∧ SqL K H a xs ∧ RpL K Hs l xs
theorem Pk.up {K : Fg} {Hs H Hs1 H1 : Hp} {d : D} {v : V} (h : Pk K Hs H d v) (e : Ext Hs H Hs1 H1) : Pk K Hs1 H1 d v := by
  rcases h with h | ⟨l, a, xs, h1, h2, h3, h4⟩
  · exact .inl (h.mono e.grow)
  · exact .inr ⟨l, a, xs, h1, h2, Same.seq e.same h3, h4.mono e.grow⟩
theorem Pk.rp {K : Fg} {Hs H : Hp} {d : D} {v : V} (h : Pk K Hs H d v) (e : Same Hs H) : Rp K H d v := by
  rcases h with h | ⟨l, a, xs, rfl, rfl, h3, h4⟩
  · exact h.mono e
  · exact .lst h3 (h4.mono e)
theorem Pk.list {K : Fg} {Hs H : Hp} {l : List D} {v : V} (h : Pk K Hs H (.list l) v) (e : Same Hs H) : ∃ a xs, v = .ref a ∧ SqL K H a xs ∧ RpL K Hs l xs := by
  rcases h with h | ⟨l', a, xs, h1, h2, h3, h4⟩
  · cases h with
    | lst h1 h2 => exact ⟨_, _, rfl, Same.seq e h1, h2⟩
  · cases h1
    exact ⟨a, xs, h2, h3, h4⟩
theorem Pk.tup {K : Fg} {Hs H : Hp} {l : List D} {v : V} (h : Pk K Hs H (.tuple l) v) (e : Same Hs H) : ∃ a xs, v = .ref a ∧ SqT K H a xs ∧ RpL K Hs l xs := by
  rcases h with h | ⟨l', a, xs, h1, h2, h3, h4⟩
  · cases h with
    | tup h1 h2 => exact ⟨_, _, rfl, SqT.mono e h1, h2⟩
  · cases h1
theorem Pk.int {K : Fg} {Hs H : Hp} {i : Int} {v : V} (h : Pk K Hs H (.int i) v) : v = .int i := by
  rcases h with h | ⟨l', a, xs, h1, h2, h3, h4⟩
  · cases h; rfl
  · cases h1
theorem Pk.bl {K : Fg} {Hs H : Hp} {i : Bool} {v : V} (h : Pk K Hs H (.bool i) v) : v = .bl i := by
  rcases h with h | ⟨l', a, xs, h1, h2, h3, h4⟩
  · cases h; rfl
  · cases h1
theorem Pk.str {K : Fg} {Hs H : Hp} {i : Str} {v : V} (h : Pk K Hs H (.str i) v) : v = .str i := by
  rcases h with h | ⟨l', a, xs, h1, h2, h3, h4⟩
  · cases h; rfl
  · cases h1
theorem Pk.non {K : Fg} {Hs H : Hp} {v : V} (h : Pk K Hs H .none v) : v = .non := by
  rcases h with h | ⟨l', a, xs, h1, h2, h3, h4⟩
  · cases h; rfl
  · cases h1

def tE (K : Fg) (mg : Str → Option Value) (W : WX) (f : Ev → R D) : TE := fun σ H Q => ∃ S G Hs ρ, RelE K S G Hs H σ ρ ∧ Post K mg W Hs H σ (f ρ) (fun d Hs' H' => ∀ v, Rp K Hs' d v → Q v H')
/-- read at once -/
def tPk (K : Fg) (mg : Str → Option Value) (W : WX) (f : Ev → R D) : TE := fun σ H Q => ∃ S G Hs ρ, RelE K S G Hs H σ ρ ∧ Post K mg W Hs H σ (f ρ) (fun d Hs' H' => ∀ v, Pk K Hs' H' d v → Q v H')
/-- a new list -/
def tO (K : Fg) (mg : Str → Option Value) (W : WX) (f : Ev → R (List D)) : TE := fun σ H Q => ∃ S G Hs ρ, RelE K S G Hs H σ ρ ∧
  Post K mg W Hs H σ (f ρ) (fun l Hs' H' => ∀ p vs, H p = none → Hs' p = none → H' p = some (.lst vs) → RpL K Hs' l vs → Q (.ref p) H')
def tT (K : Fg) (mg : Str → Option Value) (W : WX) (f : Ev → R Bool) : TT := fun σ H Q => ∃ S G Hs ρ, RelE K S G Hs H σ ρ ∧ Post K mg W Hs H σ (f ρ) (fun b _ H' => Q b H')
def tA (K : Fg) (mg : Str → Option Value) (W : WX) (f : Ev → R (List D)) : TA := fun σ H Q => ∃ S G Hs ρ, RelE K S G Hs H σ ρ ∧ Post K mg W Hs H σ (f ρ) (fun ds Hs' H' => ∀ vs, RpL K Hs' ds vs → Q vs H')

def VE (X : Cx) (W : WX) (e : Expr) (f : Ev → R D) : Prop := PE X e (tE X.K X.mg W f)
def VP (X : Cx) (W : WX) (e : Expr) (f : Ev → R D) : Prop := PE X e (tPk X.K X.mg W f)
def VO (X : Cx) (W : WX) (e : Expr) (f : Ev → R (List D)) : Prop := PE X e (tO X.K X.mg W f)
def VT (X : Cx) (W : WX) (e : Expr) (f : Ev → R Bool) : Prop := PT X e (tT X.K X.mg W f)
def VW (X : Cx) (W : WX) (e : Expr) (f : Ev → R Bool) : Prop := PW X e (tT X.K X.mg W f)
def VA (X : Cx) (W : WX) (es : List Expr) (f : Ev → R (List D)) : Prop := PA X es (tA X.K X.mg W f)

theorem PE.imp {X : Cx} {e : Expr} {t t' : TE} (h : PE X e t) (i : ∀ σ H Q, t' σ H Q → t σ H Q) : PE X e t' := ⟨fun pins s σ H Q I q => h.run pins s σ H Q I (i σ H Q q)⟩
theorem PT.imp {X : Cx} {e : Expr} {t t' : TT} (h : PT X e t) (i : ∀ σ H Q, t' σ H Q → t σ H Q) : PT X e t' := ⟨fun pins s σ H Q I q => h.run pins s σ H Q I (i σ H Q q)⟩
theorem PW.imp {X : Cx} {e : Expr} {t t' : TT} (h : PW X e t) (i : ∀ σ H Q, t' σ H Q → t σ H Q) : PW X e t' := ⟨fun wh pins s σ H Q I q => h.run wh pins s σ H Q I (i σ H Q q)⟩
theorem PA.imp {X : Cx} {es : List Expr} {t t' : TA} (h : PA X es t) (i : ∀ σ H Q, t' σ H Q → t σ H Q) : PA X es t' := ⟨fun pos pins s σ H Q I q => h.run pos pins s σ H Q I (i σ H Q q)⟩
theorem PS.imp {X : Cx} {st : Stmt} {t t' : TS} (h : PS X st t) (i : ∀ D σ H, t' D σ H → t D σ H) : PS X st t' := ⟨fun pins s σ H D I q => h.run pins s σ H D I (i D σ H q)⟩
theorem PSs.imp {X : Cx} {st : List Stmt} {t t' : TS} (h : PSs X st t) (i : ∀ D σ H, t' D σ H → t D σ H) : PSs X st t' := ⟨fun pins s σ H D I q => h.run pins s σ H D I (i D σ H q)⟩
theorem PG.imp {X : Cx} {tg : Expr} {t t' : TG} (h : PG X tg t) (i : ∀ v σ H Q, t' v σ H Q → t v σ H Q) : PG X tg t' := ⟨fun pins s σ H v u Q I r q => h.run pins s σ H v u Q I r (i v σ H Q q)⟩
theorem PI.imp {X : Cx} {tg iter : Expr} {t t' : TI} (h : PI X tg iter t) (i : ∀ σ H Q, t' σ H Q → t σ H Q) : PI X tg iter t' := ⟨fun pins s σ H Q I q => h.run pins s σ H Q I (i σ H Q q)⟩

/-- a computation whose exception is not wanted -/
def noex {α : Type} : R α → R α
  | .ok a => .ok a
  | _ => .bad
def ofO {α : Type} : Option α → R α
  | some a => .ok a
  | none => .bad
theorem bind_ok {α β : Type} (a : α) (f : α → R β) : (R.ok a).bind f = f a := rfl
/-! ### combinators -/
def cst {α : Type} (a : α) : Ev → R α := fun _ => .ok a
def eVar (i : Nat) : Ev → R D := fun ρ => match ρ[i]? with
  | some (.sh d) => .ok d
  | _ => .bad
/-- .. or a list of one's own, read at once -/
def eOwn (i : Nat) : Ev → R D := fun ρ => match ρ[i]? with
  | some (.sh d) => .ok d
  | some (.ow l) => .ok (.list l)
  | some (.bo l) => .ok (.list l)
  | _ => .bad
def e1 {α β : Type} (F : α → Option β) (f : Ev → R α) : Ev → R β := fun ρ => (f ρ).bind fun x => ofO (F x)
def e2 {α β γ : Type} (F : α → β → Option γ) (f : Ev → R α) (g : Ev → R β) : Ev → R γ := fun ρ => (f ρ).bind fun x => (g ρ).bind fun y => ofO (F x y)
def eCons (f : Ev → R D) (g : Ev → R (List D)) : Ev → R (List D) := fun ρ => (f ρ).bind fun x => (g ρ).bind fun xs => .ok (x :: xs)
def eLst (f : Ev → R (List D)) : Ev → R D := fun ρ => (f ρ).bind fun l => .ok (.list l)
def eIf {α : Type} (c : Ev → R Bool) (f g : Ev → R α) : Ev → R α := fun ρ => (c ρ).bind fun b => if b then f ρ else g ρ
def eAnd (f g : Ev → R Bool) : Ev → R Bool := fun ρ => (f ρ).bind fun b => if b then g ρ else .ok false
def eOr (f g : Ev → R Bool) : Ev → R Bool := fun ρ => (f ρ).bind fun b => if b then .ok true else g ρ
def eNot (f : Ev → R Bool) : Ev → R Bool := fun ρ => (f ρ).bind fun b => .ok (!b)

section
variable {X : Cx} {W : WX} {e a b c : Expr} {es : List Expr} {pos : Pos} {f g : Ev → R D} {fl : Ev → R (List D)} {fb gb : Ev → R Bool}

theorem VE.vp (h : VE X W e f) : VP X W e f := PE.imp h fun σ H Q ⟨S, G, Hs, ρ, r, p⟩ => ⟨S, G, Hs, ρ, r, p.imp fun _ _ _ e q v hv => q v (.inl hv)⟩
theorem VO.ve (h : VO X W e fl) : VE X W e (eLst fl) := PE.imp h fun σ H Q ⟨S, G, Hs, ρ, r, p⟩ => ⟨S, G, Hs, ρ, r, by
  unfold eLst at p
  cases q : fl ρ with
  | bad => rw [q] at p; exact p
  | ex x => rw [q] at p; exact p
  | ok l =>
    rw [q] at p
    refine fun Hs' H' e p' vs h0 h1 h2 h3 => ?_
    exact p _ _ (e.frz h0 h2 h1) _ (.lst (.inl (.inl upd_same)) (h3.mono fun b u z => by rw [upd_ne (ne_of_none z h1)]; exact z))⟩

/-! ### names, constants -/
theorem ve_pe {v : V} {d : D} (h : PE X e (tC v)) (hd : ∀ K H, Rp K H d v) : VE X W e (cst d) := PE.imp h fun σ H Q ⟨S, G, Hs, ρ, r, p⟩ => p.now r.sub v (hd _ _)
theorem ve_int {i j pos} : VE X W (.Constant (.int i) j pos) (cst (.int i)) := ve_pe pe_int fun _ _ => .int i
theorem ve_bl {i j pos} : VE X W (.Constant (.bool i) j pos) (cst (.bool i)) := ve_pe pe_bl fun _ _ => .bl i
theorem ve_var (i : Nat) {x : Str} {pos : Pos} (h : PE X (.Name x pos) (tVar i)) : VE X W (.Name x pos) (eVar i) := PE.imp h fun σ H Q ⟨S, G, Hs, ρ, r, p⟩ => by
  unfold eVar at p
  cases q : ρ[i]? with
  | none => rw [q] at p; exact p.elim
  | some s =>
    rw [q] at p
    cases s with
    | no => exact p.elim
    | ow l => exact p.elim
    | bo l => exact p.elim
    | sh d =>
      obtain ⟨v, e1, e2⟩ := r.get q
      exact ⟨v, e1, p.now r.sub v e2⟩
theorem vp_var (i : Nat) {x : Str} {pos : Pos} (h : PE X (.Name x pos) (tVar i)) : VP X W (.Name x pos) (eOwn i) := PE.imp h fun σ H Q ⟨S, G, Hs, ρ, r, p⟩ => by
  unfold eOwn at p
  cases q : ρ[i]? with
  | none => rw [q] at p; exact p.elim
  | some s =>
    rw [q] at p
    cases s with
    | no => exact p.elim
    | ow l =>
      obtain ⟨a, vs, e1, _, _, e4, e5⟩ := r.own q
      exact ⟨_, e1, p.now r.sub _ (.inr ⟨l, a, vs, rfl, rfl, .inl (.inl e4), e5⟩)⟩
    | bo l =>
      obtain ⟨a, vs, e1, _, e4, e5⟩ := r.lent q
      exact ⟨_, e1, p.now r.sub _ (.inr ⟨l, a, vs, rfl, rfl, .inl (.inl e4), e5⟩)⟩
    | sh d =>
      obtain ⟨v, e1, e2⟩ := r.get q
      exact ⟨v, e1, p.now r.sub v (.inl e2)⟩

/-! ### operators -/
def OpD (K : Fg) (r : R2) (F : D → D → Option D) : Prop := ∀ (Hs H : Hp) (x y : D) (u v : V) (Q : VK) (d : D), Same Hs H → F x y = some d → Pk K Hs H x u → Pk K Hs H y v →
  (∀ Hs' H' w, Ext Hs H Hs' H' → Rp K Hs' d w → Q w H') → r u v H Q
def OpO (K : Fg) (r : R2) (F : D → D → Option (List D)) : Prop := ∀ (Hs H : Hp) (x y : D) (u v : V) (Q : VK) (l : List D), Same Hs H → F x y = some l → Pk K Hs H x u → Pk K Hs H y v →
  (∀ Hs' H' p vs, Ext Hs H Hs' H' → H p = none → Hs' p = none → H' p = some (.lst vs) → RpL K Hs' l vs → Q (.ref p) H') → r u v H Q
theorem sim_op {K : Fg} {mg : Str → Option Value} {r : R2} {F : D → D → Option D} (hd : OpD K r F) : ∀ σ H Q, tE K mg W (e2 F f g) σ H Q → tOp r (tPk K mg W f) (tPk K mg W g) σ H Q := fun σ H Q ⟨S, G, Hs, ρ, r, p⟩ => by
  refine ⟨S, G, Hs, ρ, r, (Post.bind p).imp fun x Hs1 H1 e q u hu => ?_⟩
  refine ⟨S, G, Hs1, ρ, r.step e, (Post.bind q).imp fun y Hs2 H2 e' q' v hv => ?_⟩
  cases z : F x y with
  | none => rw [z] at q'; exact q'.elim
  | some d =>
    rw [z] at q'
    exact hd Hs2 H2 x y u v Q d e'.sub z (hu.up e') hv fun Hs' H' w e'' hw => q' Hs' H' e'' w hw
theorem sim_opO {K : Fg} {mg : Str → Option Value} {r : R2} {F : D → D → Option (List D)} (hd : OpO K r F) : ∀ σ H Q, tO K mg W (e2 F f g) σ H Q → tOp r (tPk K mg W f) (tPk K mg W g) σ H Q := fun σ H Q ⟨S, G, Hs, ρ, r, p⟩ => by
  refine ⟨S, G, Hs, ρ, r, (Post.bind p).imp fun x Hs1 H1 e q u hu => ?_⟩
  refine ⟨S, G, Hs1, ρ, r.step e, (Post.bind q).imp fun y Hs2 H2 e' q' v hv => ?_⟩
  cases z : F x y with
  | none => rw [z] at q'; exact q'.elim
  | some d =>
    rw [z] at q'
    exact hd Hs2 H2 x y u v Q d e'.sub z (hu.up e') hv fun Hs' H' w vs e'' h0 h1 h2 h3 => q' Hs' H' e'' w vs ((e.trans e').same.free h0) h1 h2 h3
theorem ve_op {op : Operator} {r : R2} {F : D → D → Option D} (ho : OpR X (binaryOp op) r) (hd : OpD X.K r F) (ha : VP X W a f) (hb : VP X W b g) : VE X W (.BinOp a op b pos) (e2 F f g) := PE.imp (pe_op ho ha hb) (sim_op hd)
theorem vo_op {op : Operator} {r : R2} {F : D → D → Option (List D)} (ho : OpR X (binaryOp op) r) (hd : OpO X.K r F) (ha : VP X W a f) (hb : VP X W b g) : VO X W (.BinOp a op b pos) (e2 F f g) := PE.imp (pe_op ho ha hb) (sim_opO hd)
theorem ve_cmp {op : CmpOp} {r : R2} {F : D → D → Option D} (ho : OpR X (compareOp op) r) (hd : OpD X.K r F) (ha : VP X W a f) (hb : VP X W b g) (hm : behindInMarks op b = false) : VE X W (.Compare a [op] [b] pos) (e2 F f g) := PE.imp (pe_cmpR ho ha hb hm) (sim_op hd)
theorem ve_ix {r : R2} {F : D → D → Option D} (hr : IxR X r) (hd : OpD X.K r F) (ha : VP X W a f) (hb : VP X W b g) (hs : PlainIx b) : VE X W (.Subscript a b pos) (e2 F f g) := PE.imp (pe_ix hr ha hb hs) (sim_op hd)
/-- one place -/
def UnD (K : Fg) (r : V → Hp → VK → Prop) (F : D → Option D) : Prop := ∀ (Hs H : Hp) (x : D) (u : V) (Q : VK) (d : D), Same Hs H → F x = some d → Pk K Hs H x u →
  (∀ Hs' H' w, Ext Hs H Hs' H' → Rp K Hs' d w → Q w H') → r u H Q
theorem sim_un {K : Fg} {mg : Str → Option Value} {r : V → Hp → VK → Prop} {F : D → Option D} (hd : UnD K r F) : ∀ σ H Q, tE K mg W (e1 F f) σ H Q → tUn r (tPk K mg W f) σ H Q := fun σ H Q ⟨S, G, Hs, ρ, r, p⟩ => by
  refine ⟨S, G, Hs, ρ, r, (Post.bind p).imp fun x Hs1 H1 e q u hu => ?_⟩
  cases z : F x with
  | none => rw [z] at q; exact q.elim
  | some d =>
    rw [z] at q
    exact hd Hs1 H1 x u Q d e.sub z hu fun Hs' H' w e'' hw => q Hs' H' e'' w hw
theorem ve_un {op : UnaryOp} {r : V → Hp → VK → Prop} {F : D → Option D} (ho : UnR X (unaryOp op) r) (hd : UnD X.K r F) (ha : VP X W a f) : VE X W (.UnaryOp op a pos) (e1 F f) := PE.imp (pe_un ho ha) (sim_un hd)

/-! ### tests -/
def bOf : D → Option Bool
  | .bool b => some b
  | _ => none
def truD : D → Option Bool
  | .none => some false
  | .bool b => some b
  | .int i => some (i != 0)
  | .str x => if x.length ≤ sizeLine then some ((x.length : Int) != 0) else none
  | .list l => some (!l.isEmpty)
  | .tuple l => some (!l.isEmpty)
  | .dict _ => none
theorem truV_of {K : Fg} {Hs H : Hp} {d : D} {v : V} {k : Bool} (hs : Same Hs H) (h : Pk K Hs H d v) (e : truD d = some k) : TruV K v H k := by
  have emp : ∀ {l : List D} {xs : List V}, RpL K Hs l xs → (!l.isEmpty) = !xs.isEmpty := fun {l xs} r => by cases r <;> rfl
  cases d with
  | none => cases h.non; exact (Option.some.inj e).symm
  | bool b => cases h.bl; exact (Option.some.inj e).symm
  | int i => cases h.int; exact (Option.some.inj e).symm
  | str x =>
    cases h.str
    have e' : (if x.length ≤ sizeLine then some ((x.length : Int) != 0) else none) = some k := e
    split at e'
    · rename_i hz
      exact ⟨hz, (Option.some.inj e').symm⟩
    · cases e'
  | list l =>
    obtain ⟨a, xs, rfl, h1, h2⟩ := h.list hs
    exact .inl ⟨xs, h1, by rw [← emp h2]; exact (Option.some.inj e).symm⟩
  | tuple l =>
    obtain ⟨a, xs, rfl, h1, h2⟩ := h.tup hs
    exact .inr (.inl ⟨xs, h1, by rw [← emp h2]; exact (Option.some.inj e).symm⟩)
  | dict _ => cases e
theorem vt_tru (ha : VP X W a f) (he : ∀ whole, isTrue a X.env whole = (do let v ← whole; standAt a.pos; holding [v] (truthy v))) : VT X W a (e1 truD f) := PT.imp (pt_truth ha he) fun σ H Q ⟨S, G, Hs, ρ, r, p⟩ => by
  refine ⟨S, G, Hs, ρ, r, (Post.bind p).imp fun x Hs1 H1 e q u hu => ?_⟩
  cases z : truD x with
  | none => rw [z] at q; exact q.elim
  | some k =>
    rw [z] at q
    exact ⟨k, truV_of e.sub hu z, q.now e.sub⟩
/-- a comparison as a test -/
theorem vt_cmp {op : CmpOp} {r : R2} {F : D → D → Option D} (ho : OpR X (compareOp op) r) (hd : OpD X.K r F) (ha : VP X W a f) (hb : VP X W b g) (hm : behindInMarks op b = false) : VT X W (.Compare a [op] [b] pos) (e1 bOf (e2 F f g)) := by
  refine PT.imp (pt_cmpR ho ha hb hm) fun σ H Q ⟨S, G, Hs, ρ, r, p⟩ => ?_
  refine sim_op hd σ H _ ⟨S, G, Hs, ρ, r, (Post.bind p).imp fun x Hs1 H1 e q v hv => ?_⟩
  cases x with
  | bool k => cases hv; exact ⟨k, rfl, q.now e.sub⟩
  | none => exact q.elim
  | int _ => exact q.elim
  | str _ => exact q.elim
  | list _ => exact q.elim
  | tuple _ => exact q.elim
  | dict _ => exact q.elim
theorem sim_and {K : Fg} {mg : Str → Option Value} : ∀ σ H Q, tT K mg W (eAnd fb gb) σ H Q → tAnd (tT K mg W fb) (tT K mg W gb) σ H Q := fun σ H Q ⟨S, G, Hs, ρ, r, p⟩ => by
  refine ⟨S, G, Hs, ρ, r, (Post.bind p).imp fun k Hs1 H1 e q => ?_⟩
  cases k with
  | true => exact ⟨S, G, Hs1, ρ, r.step e, q⟩
  | false => exact q.now e.sub
theorem sim_or {K : Fg} {mg : Str → Option Value} : ∀ σ H Q, tT K mg W (eOr fb gb) σ H Q → tOr (tT K mg W fb) (tT K mg W gb) σ H Q := fun σ H Q ⟨S, G, Hs, ρ, r, p⟩ => by
  refine ⟨S, G, Hs, ρ, r, (Post.bind p).imp fun k Hs1 H1 e q => ?_⟩
  cases k with
  | false => exact ⟨S, G, Hs1, ρ, r.step e, q⟩
  | true => exact q.now e.sub
theorem VW.vt (h : VW X W e fb) : VT X W e fb := PW.pt h
theorem vw_and1 (ha : VT X W a fb) : VW X W (.BoolOp .And [a] pos) fb := pw_and1 ha
theorem vw_or1 (ha : VT X W a fb) : VW X W (.BoolOp .Or [a] pos) fb := pw_or1 ha
theorem vw_and {rest : List Expr} (ha : VT X W a fb) (hb : VW X W (.BoolOp .And (b :: rest) pos) gb) : VW X W (.BoolOp .And (a :: b :: rest) pos) (eAnd fb gb) := PW.imp (pw_and ha hb) sim_and
theorem vw_or {rest : List Expr} (ha : VT X W a fb) (hb : VW X W (.BoolOp .Or (b :: rest) pos) gb) : VW X W (.BoolOp .Or (a :: b :: rest) pos) (eOr fb gb) := PW.imp (pw_or ha hb) sim_or
theorem vt_not (ha : VT X W a fb) : VT X W (.UnaryOp .Not a pos) (eNot fb) := PT.imp (pt_not ha) fun σ H Q ⟨S, G, Hs, ρ, r, p⟩ =>
  ⟨S, G, Hs, ρ, r, (Post.bind p).imp fun k Hs1 H1 e q => q.now e.sub⟩
theorem ve_ifExp (hc : VT X W c fb) (ha : VE X W a f) (hb : VE X W b g) : VE X W (.IfExp c a b pos) (eIf fb f g) := PE.imp (pe_ifExp hc ha hb) fun σ H Q ⟨S, G, Hs, ρ, r, p⟩ => by
  refine ⟨S, G, Hs, ρ, r, (Post.bind p).imp fun k Hs1 H1 e q => ?_⟩
  cases k with
  | true => exact ⟨S, G, Hs1, ρ, r.step e, q⟩
  | false => exact ⟨S, G, Hs1, ρ, r.step e, q⟩

/-! ### arguments, displays -/
theorem va_nil : VA X W [] (cst []) := PA.imp pa_nil fun σ H Q ⟨S, G, Hs, ρ, r, p⟩ => p.now r.sub [] .nil
theorem va_cons (ha : VE X W e f) (hr : VA X W es fl) (hs : starEach (e :: es) X.env = (false, eval e X.env) :: starEach es X.env := by rfl) : VA X W (e :: es) (eCons f fl) := PA.imp (pa_cons ha hr hs) fun σ H Q ⟨S, G, Hs, ρ, r, p⟩ => by
  refine ⟨S, G, Hs, ρ, r, (Post.bind p).imp fun x Hs1 H1 e q u hu => ?_⟩
  refine ⟨S, G, Hs1, ρ, r.step e, (Post.bind q).imp fun xs Hs2 H2 e' q' us hus => ?_⟩
  exact q'.now e'.sub (u :: us) (.cons (hu.mono e'.grow) hus)
def lim (l : List D) : Option (List D) := if l.length ≤ sizeLine then some l else none
theorem lim_some {l l' : List D} (h : lim l = some l') : l' = l ∧ l.length ≤ sizeLine := by
  unfold lim at h
  split at h
  · rename_i z
    exact ⟨(Option.some.inj h).symm, z⟩
  · cases h
def tupD (l : List D) : Option D := (lim l).map .tuple
theorem ve_tup {x1 : Nat} (h : VA X W es fl) : VE X W (.Tuple es x1 pos) (e1 tupD fl) := PE.imp (pe_tup h) fun σ H Q ⟨S, G, Hs, ρ, r, p⟩ => by
  refine ⟨S, G, Hs, ρ, r, (Post.bind p).imp fun l Hs1 H1 e q us hus => ?_⟩
  unfold tupD at q
  cases z : lim l with
  | none => rw [z] at q; exact q.elim
  | some l' =>
    rw [z] at q
    obtain ⟨rfl, hz⟩ := lim_some z
    refine ⟨by rw [← hus.length]; exact hz, fun p hp => ?_⟩
    have x := Ext.new (o := .tup us) e.sub hp
    exact q _ _ x _ (.tup (.inl (.inl upd_same)) (hus.mono x.grow))
theorem vo_lst (h : VA X W es fl) : VO X W (.List es pos) (e1 lim fl) := PE.imp (pe_lst h) fun σ H Q ⟨S, G, Hs, ρ, r, p⟩ => by
  refine ⟨S, G, Hs, ρ, r, (Post.bind p).imp fun l Hs1 H1 e q us hus => ?_⟩
  cases z : lim l with
  | none => rw [z] at q; exact q.elim
  | some l' =>
    rw [z] at q
    obtain ⟨rfl, hz⟩ := lim_some z
    refine ⟨by rw [← hus.length]; exact hz, fun p hp => ?_⟩
    have x := Ext.hid (o := .lst us) e.sub hp
    refine q _ _ x p us (e.same.free hp) ?_ upd_same hus
    cases y : Hs1 p with
    | none => rfl
    | some o => rw [e.sub _ _ y] at hp; cases hp
end
end VL

set_option Elab.async false
set_option linter.all false
set_option maxRecDepth 100000
set_option autoImplicit false
namespace VL
open PySem PySem.Spec PyProof.Rows L2

/-! ### operators by data -/
/-- a two-place operator of the machine computes F on data -/
def DOp (X : Cx) (f : Value → Value → Sem Value) (F : D → D → Option D) : Prop := ∃ r, OpR X f r ∧ OpD X.K r F
def DOpO (X : Cx) (f : Value → Value → Sem Value) (F : D → D → Option (List D)) : Prop := ∃ r, OpR X f r ∧ OpO X.K r F

section
variable {X : Cx} {pins : List (Addr × Obj)} {σ : Sg} {H : Hp} {s : Shared} {a b : Addr} {xs zs : List V}
/-- a list that is read, its very object -/
theorem rd_obj (I : Inv X pins σ H s) (h : SqL X.K H a xs) : xs.length ≤ sizeLine ∧ ∃ (its : List Value) (n : Nat) (sl : Array (Option Value)), Vals xs its ∧ xs.length = its.length ∧ s.heap.get? a = some { cls := .type "list", dict := none, data := .seq its.toArray n, slots := sl } := by
  obtain ⟨its, r, ⟨o, n, e, hc, hd, hs⟩, z⟩ := I.list h
  obtain ⟨c, d, dt, sl⟩ := o
  simp only at hc hd hs
  subst hc hd hs
  exact ⟨z, its, n, sl, r, r.length, e⟩
end
open PySem.AutoSeq1 (wpAny_loadPart') in
theorem list_mulW (l : Addr) (items : Array Value) (n : Nat) (sl : Array (Option Value)) (x : Int) (u : Tok) (hc0 : ¬(!Builtin.List.listFitsIndex x) = true) (hc1 : ¬items.size * x.toNat > (2 ^ 63 - 1) / 8) (hc2 : ¬Builtin.List.listTooLong (items.size * x.toNat) = true) :
    Meets (Builtin.«list.__mul__» ⟨[.ref l, .int x u], []⟩) (fun _ R s => s.heap.get? l = some { cls := .type "list", dict := none, data := .seq items n, slots := sl } ∧ R (.ok (.ret (Value.ref s.heap.objs.size))) { s with heap := s.heap.push { cls := Value.type "list", data := Data.seq (List.foldl (fun x1 x2 => x1 ++ x2) #[] (List.replicate (if items.isEmpty = true then 0 else x.toNat) items)) }, toks := s.toks }) :=
  .of_wp fun prog w A R s h => by
    obtain ⟨hp, g, d, tk, os⟩ := s; obtain ⟨hl, h⟩ := h
    have hsz := PySem.AutoListH.joined_fits hc2
    wp_walk using wpAny_loadPart' hl
    refine wpAny_ite_false (decide_eq_false (Nat.not_lt.mpr hsz)) ?_; wp_walk using wpAny_loadPart' hl; exact ⟨_, rfl, h⟩
open PySem.AutoSeq1 (wpAny_loadPart') in
theorem int_rmulW (a : Int) (t : Tok) (l : Addr) (items : Array Value) (n : Nat) (sl : Array (Option Value)) :
    Meets (Builtin.«int.__rmul__» ⟨[.int a t, .ref l], []⟩) (fun _ R s => s.heap.get? l = some { cls := .type "list", dict := none, data := .seq items n, slots := sl } ∧ R (.ok (.ret Value.notImplemented)) s) :=
  .of_wp fun prog w A R s h => by obtain ⟨hp, g, d, tk, os⟩ := s; obtain ⟨hl, h⟩ := h; wp_walk using wpAny_loadPart' hl; exact ⟨_, rfl, h⟩
section
variable {X : Cx}
def rCatS (K : Fg) : R2 := fun x y H Q => ∃ l b xs zs, x = .ref l ∧ y = .ref b ∧ SqL K H l xs ∧ SqL K H b zs ∧ xs.length + zs.length ≤ sizeLine ∧ ∀ p, H p = none → Q (.ref p) (upd H p (.lst (xs ++ zs)))
theorem op_catR : OpR X (binaryOp .Add) (rCatS X.K) := by
  intro pins s σ H x y v u Q I rx ry h
  obtain ⟨l, b, xs, zs, rfl, rfl, hH, hB, hz, q⟩ := h
  cases rx
  cases ry
  obtain ⟨z, its, n, sl, r, hl, e⟩ := rd_obj I hH
  obtain ⟨z2, its2, n2, sl2, r2, hl2, e2⟩ := rd_obj I hB
  have ea : its.toArray ++ its2.toArray = (its ++ its2).toArray := by simp
  refine concat_meets ⟨_, e, rfl⟩ ⟨_, e2, rfl⟩ noFill_list_add seq_list_add PySem.F.slot_list_add PySem.F.entry_list_add (PySem.F.args_list_add_2 _ _) (list_addW l b its.toArray its2.toArray n n2 none none sl sl2 (by rw [List.size_toArray, List.size_toArray]; omega)) ⟨e, e2, ?_⟩
  rw [ea]
  exact ⟨.ref _, _, I.lnew (t' := s.toks) (r.append r2) (by rw [List.length_append]; omega), rfl, q _ I.fresh⟩
def rRepR (K : Fg) : R2 := fun x y H Q => ∃ l k xs, x = .ref l ∧ y = .int k ∧ SqL K H l xs ∧ -(2 ^ 63) ≤ k ∧ k < 2 ^ 63 ∧ xs.length * k.toNat ≤ sizeLine ∧
  ∀ p, H p = none → Q (.ref p) (upd H p (.lst (List.replicate k.toNat xs).flatten))
theorem op_repR : OpR X (binaryOp .Mult) (rRepR X.K) := by
  intro pins s σ H x y v u Q I rx ry h
  obtain ⟨l, k, xs, rfl, rfl, hH, h1, h2, hz, q⟩ := h
  cases rx
  obtain ⟨t, rfl⟩ := ry
  obtain ⟨z, its, n, sl, r, hl, e⟩ := rd_obj I hH
  have hlen : its.toArray.size * k.toNat ≤ sizeLine := by rw [List.size_toArray, ← hl]; exact hz
  have hcap : ¬ its.toArray.size * k.toNat > (2 ^ 63 - 1) / 8 := by
    have : (sizeLine : Nat) ≤ (2 ^ 63 - 1) / 8 := by decide
    omega
  have hfit : ¬ (!Builtin.List.listFitsIndex k) = true := by
    rw [fitsIndex_both h1 h2]
    exact Bool.false_ne_true
  have hlong : ¬ Builtin.List.listTooLong (its.toArray.size * k.toNat) = true := by
    rw [notLongL hlen]
    exact Bool.false_ne_true
  have hnew : List.foldl (fun x1 x2 => x1 ++ x2) #[] (List.replicate (if its.toArray.isEmpty = true then 0 else k.toNat) its.toArray) = (List.replicate k.toNat its).flatten.toArray := by
    have f0 : ∀ m : Nat, List.foldl (fun x1 x2 => x1 ++ x2) #[] (List.replicate m its.toArray) = (List.replicate m its).flatten.toArray := fun m => by
      have := foldl_rep its m []
      rw [List.nil_append] at this
      exact this
    rw [f0]
    cases its with
    | nil => simp
    | cons a r' => rw [if_neg (by simp)]
  refine wpAny_binaryOp_repeat_ref (T := "list") (U := "int") (by decide) ⟨_, e, rfl⟩ (fun s' => typeIs_int s' k t) noFill_list_mul F.fills_int_mul F.slot_int_rmul repeat_list F.slot_int_index.lookup
    (call_meets F.slot_int_rmul (typeIs_int s k t) F.entry_int_rmul (F.args_int_rmul_2 _ _) (int_rmulW k t l its.toArray n sl)
      ⟨e, rfl, ⟨_, e, rfl⟩, call_meets F.slot_list_mul ⟨_, e, rfl⟩ F.entry_list_mul (F.args_list_mul_2 _ _) (list_mulW l its.toArray n sl k t hfit hcap hlong) ⟨e, ?_⟩⟩)
  rw [hnew]
  exact ⟨.ref _, _, I.lnew (t' := s.toks) (r.rep k.toNat) (by rw [PyProof.Rows.lm_len_rep_flat, Nat.mul_comm]; exact hz), rfl, q _ I.fresh⟩
end

/-! ### the data functions -/
def okMul (i j : Int) : Bool := decide ((Builtin.Int.intBits i : Int) + (Builtin.Int.intBits j : Int) ≤ 134217728)
def okDiv (i j : Int) : Bool := decide (j ≠ 0) && !(Builtin.divisionGoesByPylong i j)
def okPow (i j : Int) : Bool := decide (0 ≤ j ∧ j ≤ 1000000 ∧ i.natAbs < 2 ^ 64)
def catD (a b : List D) : Option (List D) := if a.length + b.length ≤ sizeLine then some (a ++ b) else none
def repD (a : List D) (k : Int) : Option (List D) := if -(2 ^ 63) ≤ k ∧ k < 2 ^ 63 ∧ a.length * k.toNat ≤ sizeLine then some (List.replicate k.toNat a).flatten else none
def addD : D → D → Option D
  | .int i, .int j => some (.int (i + j))
  | .str a, .str b => if a.length + b.length ≤ sizeLine then some (.str (a ++ b)) else none
  | .list a, .list b => (catD a b).map .list
  | _, _ => none
def addO : D → D → Option (List D)
  | .list a, .list b => catD a b
  | _, _ => none
def subD : D → D → Option D
  | .int i, .int j => some (.int (i - j))
  | _, _ => none
def mulD : D → D → Option D
  | .int i, .int j => if okMul i j then some (.int (i * j)) else none
  | .list a, .int k => (repD a k).map .list
  | _, _ => none
def mulO : D → D → Option (List D)
  | .list a, .int k => repD a k
  | _, _ => none
def fdivD : D → D → Option D
  | .int i, .int j => if okDiv i j then some (.int (i.fdiv j)) else none
  | _, _ => none
def modD : D → D → Option D
  | .int i, .int j => if j ≠ 0 then some (.int (i.fmod j)) else none
  | _, _ => none
def powD : D → D → Option D
  | .int i, .int j => if okPow i j then some (.int (i ^ j.toNat)) else none
  | _, _ => none
def ltD : D → D → Option D
  | .int i, .int j => some (.bool (decide (i < j)))
  | _, _ => none
def leD : D → D → Option D
  | .int i, .int j => some (.bool (decide (i ≤ j)))
  | _, _ => none
def gtD : D → D → Option D
  | .int i, .int j => some (.bool (decide (j < i)))
  | _, _ => none
def geD : D → D → Option D
  | .int i, .int j => some (.bool (decide (j ≤ i)))
  | _, _ => none
def eqS : D → D → Option Bool
  | .str x, .str y => some (decide (x = y))
  | _, _ => none
def eqD (a b : D) : Option D := if SeqAt.shaped a && SeqAt.shaped b then some (.bool (PyData.eqv a b)) else (eqS a b).map .bool
def neD (a b : D) : Option D := if SeqAt.shaped a && SeqAt.shaped b then some (.bool (!PyData.eqv a b)) else (eqS a b).map fun b => .bool (!b)
def negD : D → Option D
  | .int i => some (.int (-i))
  | _ => none
def ixD : D → D → Option D
  | .list l, .int i => atI l i
  | .tuple l, .int i => atI l i
  | .str z, .int i => if z.length ≤ sizeLine then (atI z.cps.toList i).map fun c => .str ⟨#[c]⟩ else none
  | _, _ => none
def flatD : D → Bool
  | .none | .bool _ | .int _ | .str _ => true
  | _ => false
def inD (x y : D) : Option Bool := match y with
  | .list ds => if SeqAt.shaped x && SeqAt.shaped (.list ds) then some (ds.any fun z => PyData.eqv z x) else if flatD x && ds.all flatD then some (ds.any fun z => PyData.eqv z x) else none
  | .tuple ds => if flatD x && ds.all flatD then some (ds.any fun z => PyData.eqv z x) else none
  | .str j => match x with
    | .str i => some (!(Builtin.Str.occurrences j i 0 j.length 1).isEmpty)
    | _ => none
  | _ => none
def nmemD (x y : D) : Option D := (inD x y).map fun b => .bool (!b)

section
variable {K : Fg} {Hs H : Hp}
theorem RpL.at {ds : List D} {vs : List V} {i : Int} {d : D} (r : RpL K H ds vs) (e : atI ds i = some d) : ∃ v, atI vs i = some v ∧ Rp K H d v := by
  unfold atI at e ⊢
  rw [← r.length]
  cases q : ixN ds.length i with
  | none => rw [q] at e; cases e
  | some j =>
    rw [q] at e
    exact r.get e
/-- a new list, frozen or not -/
theorem new_lst {p : Addr} {l : List D} {vs : List V} (h : Same Hs H) (n : H p = none) (r : RpL K Hs l vs) : Ext Hs H (upd Hs p (.lst vs)) (upd H p (.lst vs)) ∧ Rp K (upd Hs p (.lst vs)) (.list l) (.ref p) :=
  ⟨.new h n, .lst (.inl (.inl upd_same)) (r.mono (Ext.new h n).grow)⟩
theorem new_own {p : Addr} {l : List D} {vs : List V} (h : Same Hs H) (n : H p = none) (r : RpL K Hs l vs) : Ext Hs H Hs (upd H p (.lst vs)) ∧ Hs p = none ∧ (upd H p (.lst vs)) p = some (.lst vs) ∧ RpL K Hs l vs :=
  ⟨.hid h n, h.free n, upd_same, r⟩
theorem flatV_of {d : D} {v : V} (h : Rp K H d v) (f : flatD d = true) : flatV v = true := by
  cases h <;> first | rfl | cases f
theorem eqV_of {d e : D} {v u : V} (h : Rp K H d v) (h' : Rp K H e u) (f : flatD d = true) (f' : flatD e = true) : eqV v u = PyData.eqv d e := by
  cases h <;> cases h' <;> first | rfl | cases f | cases f' | simp [eqV, PyData.eqv]
theorem inV_of {e : D} {u : V} (h' : Rp K H e u) (f' : flatD e = true) : ∀ {ds : List D} {vs : List V}, RpL K H ds vs → ds.all flatD = true → vs.all flatV = true ∧ inV u vs = ds.any fun z => PyData.eqv z e
  | _, _, .nil, _ => ⟨rfl, rfl⟩
  | d :: ds, v :: vs, .cons h r, f => by
    rw [List.all_cons, Bool.and_eq_true] at f
    obtain ⟨a, b⟩ := inV_of h' f' r f.2
    refine ⟨by rw [List.all_cons, flatV_of h f.1, a]; rfl, ?_⟩
    unfold inV at b ⊢
    rw [List.any_cons, List.any_cons, b, eqV_of h h' f.1 f']
end

section
variable {X : Cx}
/-- ints only -/
theorem dop_int {f : Value → Value → Sem Value} {C : Int → Int → Prop} {g : Int → Int → V} {F : D → D → Option D} (ho : OpR X f (rI C g))
    (hF : ∀ x y d, F x y = some d → ∃ i j, x = .int i ∧ y = .int j ∧ C i j ∧ ∀ K H, Rp K H d (g i j)) : DOp X f F := ⟨_, ho, fun Hs H x y u v Q d hs e hx hy k => by
  obtain ⟨i, j, rfl, rfl, hc, hr⟩ := hF x y d e
  exact ⟨i, j, hx.int, hy.int, hc, k _ _ _ (.refl hs) (hr _ _)⟩⟩
theorem dop_int0 {f : Value → Value → Sem Value} {g : Int → Int → V} {F : D → D → Option D} (ho : OpR X f (rI0 g))
    (hF : ∀ x y d, F x y = some d → ∃ i j, x = .int i ∧ y = .int j ∧ ∀ K H, Rp K H d (g i j)) : DOp X f F := ⟨_, ho, fun Hs H x y u v Q d hs e hx hy k => by
  obtain ⟨i, j, rfl, rfl, hr⟩ := hF x y d e
  exact ⟨i, j, hx.int, hy.int, k _ _ _ (.refl hs) (hr _ _)⟩⟩
theorem d_add : DOp X (binaryOp .Add) addD := ⟨_, op_add.or (op_add_str.or op_catR), fun Hs H x y u v Q d hs e hx hy k => by
  unfold addD at e
  split at e
  · cases e
    exact .inl ⟨_, _, hx.int, hy.int, k _ _ _ (.refl hs) (.int _)⟩
  · split at e
    · rename_i hz
      cases e
      exact .inr (.inl ⟨_, _, hx.str, hy.str, hz, k _ _ _ (.refl hs) (.str _)⟩)
    · cases e
  · unfold catD at e
    split at e
    · rename_i hz
      cases e
      obtain ⟨p, xs, rfl, h1, h2⟩ := hx.list hs
      obtain ⟨p', ys, rfl, h3, h4⟩ := hy.list hs
      refine .inr (.inr ⟨p, p', xs, ys, rfl, rfl, h1, h3, by rw [← h2.length, ← h4.length]; exact hz, fun q hq => ?_⟩)
      obtain ⟨e1, e2⟩ := new_lst hs hq (h2.append h4)
      exact k _ _ _ e1 e2
    · cases e
  · cases e⟩
theorem d_addO : DOpO X (binaryOp .Add) addO := ⟨_, op_catR, fun Hs H x y u v Q d hs e hx hy k => by
  unfold addO at e
  split at e
  · unfold catD at e
    split at e
    · rename_i hz
      cases e
      obtain ⟨p, xs, rfl, h1, h2⟩ := hx.list hs
      obtain ⟨p', ys, rfl, h3, h4⟩ := hy.list hs
      refine ⟨p, p', xs, ys, rfl, rfl, h1, h3, by rw [← h2.length, ← h4.length]; exact hz, fun q hq => ?_⟩
      obtain ⟨e1, e2, e3, e4⟩ := new_own hs hq (h2.append h4)
      exact k _ _ _ _ e1 hq e2 e3 e4
    · cases e
  · cases e⟩
theorem d_sub : DOp X (binaryOp .Sub) subD := dop_int0 op_sub fun x y d e => by
  unfold subD at e
  split at e
  · cases e; exact ⟨_, _, rfl, rfl, fun _ _ => .int _⟩
  · cases e
theorem d_mul : DOp X (binaryOp .Mult) mulD := ⟨_, op_mulX.or op_repR, fun Hs H x y u v Q d hs e hx hy k => by
  unfold mulD at e
  split at e
  · split at e
    · rename_i hz
      cases e
      unfold okMul at hz
      have hz' := of_decide_eq_true hz
      exact .inl ⟨_, _, hx.int, hy.int, hz', k _ _ _ (.refl hs) (.int _)⟩
    · cases e
  · unfold repD at e
    split at e
    · rename_i hz
      cases e
      obtain ⟨p, xs, rfl, h1, h2⟩ := hx.list hs
      refine .inr ⟨p, _, xs, rfl, hy.int, h1, hz.1, hz.2.1, by rw [← h2.length]; exact hz.2.2, fun q hq => ?_⟩
      obtain ⟨e1, e2⟩ := new_lst hs hq (h2.replicate _)
      exact k _ _ _ e1 e2
    · cases e
  · cases e⟩
theorem d_mulO : DOpO X (binaryOp .Mult) mulO := ⟨_, op_repR, fun Hs H x y u v Q d hs e hx hy k => by
  unfold mulO at e
  split at e
  · unfold repD at e
    split at e
    · rename_i hz
      cases e
      obtain ⟨p, xs, rfl, h1, h2⟩ := hx.list hs
      refine ⟨p, _, xs, rfl, hy.int, h1, hz.1, hz.2.1, by rw [← h2.length]; exact hz.2.2, fun q hq => ?_⟩
      obtain ⟨e1, e2, e3, e4⟩ := new_own hs hq (h2.replicate _)
      exact k _ _ _ _ e1 hq e2 e3 e4
    · cases e
  · cases e⟩
def CDivD (i j : Int) : Prop := okDiv i j = true
theorem op_fdivD : OpR X (binaryOp .FloorDiv) (rI CDivD fun i j => .int (i.fdiv j)) := opI fun i j _ _ _ _ _ hc q => by
  unfold CDivD okDiv at hc
  rw [Bool.and_eq_true] at hc
  exact floordiv_int (of_decide_eq_true hc.1) q (.inl (by simpa using hc.2))
theorem d_fdiv : DOp X (binaryOp .FloorDiv) fdivD := dop_int op_fdivD fun x y d e => by
  unfold fdivD at e
  split at e
  · split at e
    · rename_i hz
      cases e; exact ⟨_, _, rfl, rfl, hz, fun _ _ => .int _⟩
    · cases e
  · cases e
theorem d_mod : DOp X (binaryOp .Mod) modD := dop_int op_modN fun x y d e => by
  unfold modD at e
  split at e
  · split at e
    · rename_i hz
      cases e; exact ⟨_, _, rfl, rfl, hz, fun _ _ => .int _⟩
    · cases e
  · cases e
theorem d_pow : DOp X (binaryOp .Pow) powD := dop_int op_pow fun x y d e => by
  unfold powD at e
  split at e
  · split at e
    · rename_i hz
      unfold okPow at hz
      have hz' := of_decide_eq_true hz
      cases e; exact ⟨_, _, rfl, rfl, hz', fun _ _ => .int _⟩
    · cases e
  · cases e
theorem d_lt : DOp X (compareOp .Lt) ltD := dop_int0 op_lt fun x y d e => by
  unfold ltD at e
  split at e
  · cases e; exact ⟨_, _, rfl, rfl, fun _ _ => .bl _⟩
  · cases e
theorem d_gt : DOp X (compareOp .Gt) gtD := dop_int0 op_gt fun x y d e => by
  unfold gtD at e
  split at e
  · cases e; exact ⟨_, _, rfl, rfl, fun _ _ => .bl _⟩
  · cases e
theorem d_ge : DOp X (compareOp .GtE) geD := dop_int0 op_ge fun x y d e => by
  unfold geD at e
  split at e
  · cases e; exact ⟨_, _, rfl, rfl, fun _ _ => .bl _⟩
  · cases e
theorem eqS_some {a b : D} {r : Bool} (h : eqS a b = some r) : ∃ x y, a = .str x ∧ b = .str y ∧ r = decide (x = y) := by
  cases a <;> cases b <;> simp [eqS] at h
  exact ⟨_, _, rfl, rfl, h.symm⟩
theorem dec_str (x y : Str) : decide (V.str x = V.str y) = decide (x = y) := by
  by_cases h : x = y
  · subst h; simp
  · rw [decide_eq_false h, decide_eq_false (fun z => h (V.str.inj z))]
theorem d_eq (hu : X.A.units + 64 < cLine) : DOp X (compareOp .Eq) eqD := ⟨_, (op_eqD hu).or op_eq, fun Hs H x y u v Q d hs e hx hy k => by
  unfold eqD at e
  split at e
  · rename_i hz
    cases e
    rw [Bool.and_eq_true] at hz
    exact .inl ⟨x, y, (hx.rp hs).dp (nodict_of hz.1), (hy.rp hs).dp (nodict_of hz.2), hz.1, hz.2, k _ _ _ (.refl hs) (.bl _)⟩
  · obtain ⟨r, e1, rfl⟩ := Option.map_eq_some_iff.mp e
    obtain ⟨a, b, rfl, rfl, rfl⟩ := eqS_some e1
    right
    rw [hx.str, hy.str]
    exact ⟨rfl, by rw [dec_str]; exact k _ _ _ (.refl hs) (.bl _)⟩⟩
theorem d_ne (hu : X.A.units + 64 < cLine) : DOp X (compareOp .NotEq) neD := ⟨_, (op_neD hu).or op_ne, fun Hs H x y u v Q d hs e hx hy k => by
  unfold neD at e
  split at e
  · rename_i hz
    cases e
    rw [Bool.and_eq_true] at hz
    exact .inl ⟨x, y, (hx.rp hs).dp (nodict_of hz.1), (hy.rp hs).dp (nodict_of hz.2), hz.1, hz.2, k _ _ _ (.refl hs) (.bl _)⟩
  · obtain ⟨r, e1, rfl⟩ := Option.map_eq_some_iff.mp e
    obtain ⟨a, b, rfl, rfl, rfl⟩ := eqS_some e1
    right
    rw [hx.str, hy.str]
    exact ⟨rfl, by rw [dec_str]; exact k _ _ _ (.refl hs) (.bl _)⟩⟩
theorem inD_cases {x y : D} {b : Bool} (e : inD x y = some b) :
    (∃ ds, y = .list ds ∧ SeqAt.shaped x = true ∧ SeqAt.shaped (.list ds) = true ∧ b = ds.any fun z => PyData.eqv z x) ∨
    (∃ ds, (y = .tuple ds ∨ y = .list ds) ∧ flatD x = true ∧ ds.all flatD = true ∧ b = ds.any fun z => PyData.eqv z x) ∨ (∃ i j, x = .str i ∧ y = .str j ∧ b = !(Builtin.Str.occurrences j i 0 j.length 1).isEmpty) := by
  unfold inD at e
  split at e
  · split at e
    · rename_i hz
      cases e
      rw [Bool.and_eq_true] at hz
      exact .inl ⟨_, rfl, hz.1, hz.2, rfl⟩
    · split at e
      · rename_i hz
        cases e
        rw [Bool.and_eq_true] at hz
        exact .inr (.inl ⟨_, .inr rfl, hz.1, hz.2, rfl⟩)
      · cases e
  · split at e
    · rename_i hz
      cases e
      rw [Bool.and_eq_true] at hz
      exact .inr (.inl ⟨_, .inl rfl, hz.1, hz.2, rfl⟩)
    · cases e
  · split at e
    · cases e
      exact .inr (.inr ⟨_, _, rfl, rfl, rfl⟩)
    · cases e
  · cases e
theorem d_notin (hu : X.A.units + 65 < cLine) : DOp X (compareOp .NotIn) nmemD := ⟨_, (op_notInD hu).or (op_notIn_seq.or op_notIn_str), fun Hs H x y u v Q d hs e hx hy k => by
  obtain ⟨b, e', rfl⟩ := Option.map_eq_some_iff.mp (show (inD x y).map _ = some d from e)
  rcases inD_cases e' with ⟨ds, rfl, h1, h2, rfl⟩ | ⟨ds, hyd, h1, h2, rfl⟩ | ⟨i, j, rfl, rfl, rfl⟩
  · exact .inl ⟨x, ds, (hx.rp hs).dp (nodict_of h1), (hy.rp hs).dp (nodict_of h2), h1, h2, k _ _ _ (.refl hs) (.bl _)⟩
  · obtain ⟨a, xs, rfl, h3, h4⟩ : ∃ a xs, v = .ref a ∧ (SqL X.K H a xs ∨ SqT X.K H a xs) ∧ RpL X.K Hs ds xs := by
      rcases hyd with rfl | rfl
      · obtain ⟨a, xs, e1, e2, e3⟩ := hy.tup hs
        exact ⟨a, xs, e1, .inr e2, e3⟩
      · obtain ⟨a, xs, e1, e2, e3⟩ := hy.list hs
        exact ⟨a, xs, e1, .inl e2, e3⟩
    have hx' := hx.rp hs
    obtain ⟨f1, f2⟩ := inV_of hx' h1 (h4.mono hs) h2
    refine .inr (.inl ⟨a, xs, rfl, h3, flatV_of hx' h1, f1, ?_⟩)
    rw [f2]
    exact k _ _ _ (.refl hs) (.bl _)
  · exact .inr (.inr ⟨i, j, hx.str, hy.str, k _ _ _ (.refl hs) (.bl _)⟩)⟩

def DIx (X : Cx) (F : D → D → Option D) : Prop := ∃ r, IxR X r ∧ OpD X.K r F
theorem d_ix : DIx X ixD := ⟨_, ix_seq, fun Hs H x y u v Q d hs e hx hy k => by
  unfold ixD at e
  split at e
  · obtain ⟨a, xs, rfl, h1, h2⟩ := hx.list hs
    obtain ⟨w, e1, e2⟩ := h2.at e
    exact .inl ⟨a, xs, _, w, rfl, hy.int, h1, e1, k _ _ _ (.refl hs) e2⟩
  · obtain ⟨a, xs, rfl, h1, h2⟩ := hx.tup hs
    obtain ⟨w, e1, e2⟩ := h2.at e
    exact .inr (.inl ⟨a, xs, _, w, rfl, hy.int, h1, e1, k _ _ _ (.refl hs) e2⟩)
  · split at e
    · rename_i hz
      obtain ⟨c, e1, rfl⟩ := Option.map_eq_some_iff.mp e
      exact .inr (.inr ⟨_, _, c, hx.str, hy.int, hz, e1, k _ _ _ (.refl hs) (.str _)⟩)
    · cases e
  · cases e⟩
def DUn (X : Cx) (f : Value → Sem Value) (F : D → Option D) : Prop := ∃ r, UnR X f r ∧ UnD X.K r F
theorem d_neg : DUn X (unaryOp .USub) negD := ⟨_, un_neg, fun Hs H x u Q d hs e hx k => by
  unfold negD at e
  split at e
  · cases e
    exact ⟨_, hx.int, k _ _ _ (.refl hs) (.int _)⟩
  · cases e⟩
end

section
variable {X : Cx} {W : WX} {a b c e : Expr} {es : List Expr} {pos : Pos} {f g h : Ev → R D} {F F' : D → D → Option D}
theorem v_op {op : Operator} (ho : DOp X (binaryOp op) F) (ha : VP X W a f) (hb : VP X W b g) : VE X W (.BinOp a op b pos) (e2 F f g) := let ⟨_, h1, h2⟩ := ho; ve_op h1 h2 ha hb
theorem v_opO {op : Operator} {F : D → D → Option (List D)} (ho : DOpO X (binaryOp op) F) (ha : VP X W a f) (hb : VP X W b g) : VO X W (.BinOp a op b pos) (e2 F f g) := let ⟨_, h1, h2⟩ := ho; vo_op h1 h2 ha hb
theorem v_cmp {op : CmpOp} (ho : DOp X (compareOp op) F) (ha : VP X W a f) (hb : VP X W b g) (hm : behindInMarks op b = false := by first | exact nomark _ | rfl) : VE X W (.Compare a [op] [b] pos) (e2 F f g) := let ⟨_, h1, h2⟩ := ho; ve_cmp h1 h2 ha hb hm
theorem t_cmp {op : CmpOp} (ho : DOp X (compareOp op) F) (ha : VP X W a f) (hb : VP X W b g) (hm : behindInMarks op b = false := by first | exact nomark _ | rfl) : VT X W (.Compare a [op] [b] pos) (e1 bOf (e2 F f g)) := let ⟨_, h1, h2⟩ := ho; vt_cmp h1 h2 ha hb hm
theorem v_ix (ho : DIx X F) (ha : VP X W a f) (hb : VP X W b g) (hs : PlainIx b := by exact fun _ _ => rfl) : VE X W (.Subscript a b pos) (e2 F f g) := let ⟨_, h1, h2⟩ := ho; ve_ix h1 h2 ha hb hs
theorem v_un {op : UnaryOp} {F : D → Option D} (ho : DUn X (unaryOp op) F) (ha : VP X W a f) : VE X W (.UnaryOp op a pos) (e1 F f) := let ⟨_, h1, h2⟩ := ho; ve_un h1 h2 ha
theorem t_tru (ha : VP X W a f) (he : ∀ whole, isTrue a X.env whole = (do let v ← whole; standAt a.pos; holding [v] (truthy v)) := by intro _; rfl) : VT X W a (e1 truD f) := vt_tru ha he
end
end VL

set_option Elab.async false
set_option linter.all false
set_option maxRecDepth 100000
set_option autoImplicit false
namespace VL
open PySem PySem.Spec PyProof.Rows L2

/-! ### arguments that are read at once -/
def PkL (K : Fg) (Hs H : Hp) : List D → List V → Prop
  | [], [] => True
  | d :: ds, v :: vs => Pk K Hs H d v ∧ PkL K Hs H ds vs
  | _, _ => False
theorem PkL.one {K : Fg} {Hs H : Hp} {d : D} {vs : List V} (h : PkL K Hs H [d] vs) : ∃ v, vs = [v] ∧ Pk K Hs H d v := by
  cases vs with
  | nil => exact h.elim
  | cons v r =>
    cases r with
    | nil => exact ⟨v, rfl, h.1⟩
    | cons w r => exact h.2.elim
theorem PkL.two {K : Fg} {Hs H : Hp} {d e : D} {vs : List V} (h : PkL K Hs H [d, e] vs) : ∃ v w, vs = [v, w] ∧ Pk K Hs H d v ∧ Pk K Hs H e w := by
  cases vs with
  | nil => exact h.elim
  | cons v r =>
    cases r with
    | nil => exact h.2.elim
    | cons w r =>
      cases r with
      | nil => exact ⟨v, w, rfl, h.1, h.2.1⟩
      | cons _ r => exact h.2.2.elim
theorem Pk.tupRp {K : Fg} {Hs H : Hp} {l : List D} {v : V} (h : Pk K Hs H (.tuple l) v) : Rp K Hs (.tuple l) v := by
  rcases h with h | ⟨l', a, xs, h1, h2, h3, h4⟩
  · exact h
  · cases h1
def tAp (K : Fg) (mg : Str → Option Value) (W : WX) (f : Ev → R (List D)) : TA := fun σ H Q => ∃ S G Hs ρ, RelE K S G Hs H σ ρ ∧ Post K mg W Hs H σ (f ρ) (fun ds Hs' H' => ∀ vs, PkL K Hs' H' ds vs → Q vs H')
def VAp (X : Cx) (W : WX) (es : List Expr) (f : Ev → R (List D)) : Prop := PA X es (tAp X.K X.mg W f)
section
variable {X : Cx} {W : WX} {e a b c : Expr} {es : List Expr} {pos : Pos} {f g : Ev → R D} {fl : Ev → R (List D)}
theorem vap_nil : VAp X W [] (cst []) := PA.imp pa_nil fun σ H Q ⟨S, G, Hs, ρ, r, p⟩ => p.now r.sub [] trivial
theorem vap_cons (ha : VP X W e f) (hr : VAp X W es fl) (hs : starEach (e :: es) X.env = (false, eval e X.env) :: starEach es X.env := by rfl) : VAp X W (e :: es) (eCons f fl) := PA.imp (pa_cons ha hr hs) fun σ H Q ⟨S, G, Hs, ρ, r, p⟩ => by
  refine ⟨S, G, Hs, ρ, r, (Post.bind p).imp fun x Hs1 H1 e q u hu => ?_⟩
  refine ⟨S, G, Hs1, ρ, r.step e, (Post.bind q).imp fun xs Hs2 H2 e' q' us hus => ?_⟩
  exact q'.now e'.sub (u :: us) ⟨hu.up e', hus⟩

/-! ### built-in functions -/
def CalD (X : Cx) (f : Value) (F : List D → Option D) : Prop := ∃ r, CallR X f r ∧ ∀ (Hs H : Hp) (ds : List D) (vs : List V) (Q : VK) (d : D), Same Hs H → F ds = some d → PkL X.K Hs H ds vs →
  (∀ Hs' H' w, Ext Hs H Hs' H' → Rp X.K Hs' d w → Q w H') → r vs H Q
def CalO (X : Cx) (f : Value) (F : List D → Option (List D)) : Prop := ∃ r, CallR X f r ∧ ∀ (Hs H : Hp) (ds : List D) (vs : List V) (Q : VK) (l : List D), Same Hs H → F ds = some l → PkL X.K Hs H ds vs →
  (∀ Hs' H' p vs, Ext Hs H Hs' H' → H p = none → Hs' p = none → H' p = some (.lst vs) → RpL X.K Hs' l vs → Q (.ref p) H') → r vs H Q
theorem sim_cal {K : Fg} {mg : Str → Option Value} {r : List V → Hp → VK → Prop} {F : List D → Option D} (h : ∀ (Hs H : Hp) (ds : List D) (vs : List V) (Q : VK) (d : D), Same Hs H → F ds = some d → PkL K Hs H ds vs →
    (∀ Hs' H' w, Ext Hs H Hs' H' → Rp K Hs' d w → Q w H') → r vs H Q) : ∀ σ H Q, tE K mg W (e1 F fl) σ H Q → tCB r (tAp K mg W fl) σ H Q := fun σ H Q ⟨S, G, Hs, ρ, r, p⟩ => by
  refine ⟨S, G, Hs, ρ, r, (Post.bind p).imp fun ds Hs1 H1 e q vs hv => ?_⟩
  cases z : F ds with
  | none => rw [z] at q; exact q.elim
  | some d =>
    rw [z] at q
    exact h Hs1 H1 ds vs Q d e.sub z hv fun Hs' H' w e'' hw => q Hs' H' e'' w hw
theorem sim_calO {K : Fg} {mg : Str → Option Value} {r : List V → Hp → VK → Prop} {F : List D → Option (List D)} (h : ∀ (Hs H : Hp) (ds : List D) (vs : List V) (Q : VK) (d : List D), Same Hs H → F ds = some d → PkL K Hs H ds vs →
    (∀ Hs' H' p vs, Ext Hs H Hs' H' → H p = none → Hs' p = none → H' p = some (.lst vs) → RpL K Hs' d vs → Q (.ref p) H') → r vs H Q) : ∀ σ H Q, tO K mg W (e1 F fl) σ H Q → tCB r (tAp K mg W fl) σ H Q := fun σ H Q ⟨S, G, Hs, ρ, r, p⟩ => by
  refine ⟨S, G, Hs, ρ, r, (Post.bind p).imp fun ds Hs1 H1 e q vs hv => ?_⟩
  cases z : F ds with
  | none => rw [z] at q; exact q.elim
  | some d =>
    rw [z] at q
    exact h Hs1 H1 ds vs Q d e.sub z hv fun Hs' H' p vs e'' h0 h1 h2 h3 => q Hs' H' e'' p vs (e.same.free h0) h1 h2 h3
variable {x : Str} {p : Pos} {bid T : String} {F : List D → Option D} {G : List D → Option (List D)}
theorem v_blt (hc : CalD X (.builtin bid) F) (hg : Gl X x) (hm : X.mg x = none) (hv : bootBuiltins x = some (.builtin bid)) (ha : VAp X W (e :: es) fl) (hn : x ≠ "__name__" := by decide) (hdb : (x == ("__debug__" : Str)) = false := by decide)
    (he : starEach (e :: es) X.env = (false, eval e X.env) :: starEach es X.env := by rfl) (hpl : (backTo pos (starEach es X.env)).any (·.1) = false := by rfl) : VE X W (.Call (.Name x p) (e :: es) [] pos) (e1 F fl) :=
  let ⟨_, h1, h2⟩ := hc; PE.imp (pe_callB h1 hg hm hv ha hn hdb he hpl) (sim_cal h2)
theorem v_typ (hc : CalD X (.type T) F) (hg : Gl X x) (hm : X.mg x = none) (hv : bootBuiltins x = some (.type T)) (ha : VAp X W (e :: es) fl) (hn : x ≠ "__name__" := by decide) (hdb : (x == ("__debug__" : Str)) = false := by decide)
    (he : starEach (e :: es) X.env = (false, eval e X.env) :: starEach es X.env := by rfl) (hpl : (backTo pos (starEach es X.env)).any (·.1) = false := by rfl) : VE X W (.Call (.Name x p) (e :: es) [] pos) (e1 F fl) :=
  let ⟨_, h1, h2⟩ := hc; PE.imp (pe_callTy h1 hg hm hv ha hn hdb he hpl) (sim_cal h2)
theorem v_typO (hc : CalO X (.type T) G) (hg : Gl X x) (hm : X.mg x = none) (hv : bootBuiltins x = some (.type T)) (ha : VAp X W (e :: es) fl) (hn : x ≠ "__name__" := by decide) (hdb : (x == ("__debug__" : Str)) = false := by decide)
    (he : starEach (e :: es) X.env = (false, eval e X.env) :: starEach es X.env := by rfl) (hpl : (backTo pos (starEach es X.env)).any (·.1) = false := by rfl) : VO X W (.Call (.Name x p) (e :: es) [] pos) (e1 G fl) :=
  let ⟨_, h1, h2⟩ := hc; PE.imp (pe_callTy h1 hg hm hv ha hn hdb he hpl) (sim_calO h2)
theorem v_fun (hc : CalD X (.builtin bid) F) (hg : Gl X x) (hm : X.mg x = some (.builtin bid)) (ha : VAp X W (e :: es) fl) (hdb : (x == ("__debug__" : Str)) = false := by decide)
    (he : starEach (e :: es) X.env = (false, eval e X.env) :: starEach es X.env := by rfl) (hpl : (backTo pos (starEach es X.env)).any (·.1) = false := by rfl) : VE X W (.Call (.Name x p) (e :: es) [] pos) (e1 F fl) :=
  let ⟨_, h1, h2⟩ := hc; PE.imp (pe_callBfun h1 hg hm ha hdb he hpl) (sim_cal h2)

def gcdD : List D → Option D
  | [.int a, .int b] => some (.int ((Nat.gcd a.natAbs b.natAbs : Nat) : Int))
  | _ => none
theorem c_gcd : CalD X (.builtin "math.gcd") gcdD := ⟨_, cr_gcd, fun Hs H ds vs Q d hs e hv k => by
  unfold gcdD at e
  split at e
  · cases e
    obtain ⟨v, w, rfl, h1, h2⟩ := hv.two
    exact ⟨_, _, by rw [h1.int, h2.int], k _ _ _ (.refl hs) (.int _)⟩
  · cases e⟩
def lenD : List D → Option D
  | [.list l] => some (.int l.length)
  | [.tuple l] => some (.int l.length)
  | [.str z] => if z.length ≤ sizeLine then some (.int z.length) else none
  | _ => none
theorem c_len : CalD X (.builtin "len") lenD := ⟨_, call_len_seq.or call_len_str, fun Hs H ds vs Q d hs e hv k => by
  unfold lenD at e
  split at e
  · cases e
    obtain ⟨v, rfl, h⟩ := hv.one
    obtain ⟨a, xs, rfl, h1, h2⟩ := h.list hs
    refine .inl ⟨a, xs, rfl, .inl h1, ?_⟩
    rw [← h2.length]
    exact k _ _ _ (.refl hs) (.int _)
  · cases e
    obtain ⟨v, rfl, h⟩ := hv.one
    obtain ⟨a, xs, rfl, h1, h2⟩ := h.tup hs
    refine .inl ⟨a, xs, rfl, .inr h1, ?_⟩
    rw [← h2.length]
    exact k _ _ _ (.refl hs) (.int _)
  · split at e
    · rename_i hz
      cases e
      obtain ⟨v, rfl, h⟩ := hv.one
      exact .inr ⟨_, by rw [h.str], hz, k _ _ _ (.refl hs) (.int _)⟩
    · cases e
  · cases e⟩
def intD : List D → Option D
  | [.int i] => some (.int i)
  | [.bool b] => some (.int (if b then 1 else 0))
  | _ => none
theorem c_int : CalD X (.type "int") intD := ⟨_, call_int1, fun Hs H ds vs Q d hs e hv k => by
  unfold intD at e
  split at e
  · cases e
    obtain ⟨v, rfl, h⟩ := hv.one
    exact .inl ⟨_, by rw [h.int], k _ _ _ (.refl hs) (.int _)⟩
  · cases e
    obtain ⟨v, rfl, h⟩ := hv.one
    exact .inr ⟨_, by rw [h.bl], k _ _ _ (.refl hs) (.int _)⟩
  · cases e⟩
def absD : List D → Option D
  | [.int i] => some (.int (if i < 0 then -i else i))
  | _ => none
theorem c_abs : CalD X (.builtin "abs") absD := ⟨_, call_abs, fun Hs H ds vs Q d hs e hv k => by
  unfold absD at e
  split at e
  · cases e
    obtain ⟨v, rfl, h⟩ := hv.one
    exact ⟨_, by rw [h.int], k _ _ _ (.refl hs) (.int _)⟩
  · cases e⟩
def blsD : List D → Option (List Bool)
  | [] => some []
  | .bool b :: r => (blsD r).map (b :: ·)
  | _ :: _ => none
def intsD : List D → Option (List Int)
  | [] => some []
  | .int b :: r => (intsD r).map (b :: ·)
  | _ :: _ => none
theorem intsD_rp {K : Fg} {H : Hp} : ∀ {l : List D} {bs : List Int} {vs : List V}, intsD l = some bs → RpL K H l vs → vs = bs.map V.int
  | [], bs, vs, e, r => by cases e; cases r; rfl
  | .int b :: l, bs, vs, e, r => by
    obtain ⟨bs', e', rfl⟩ := Option.map_eq_some_iff.mp (show (intsD l).map _ = some bs from e)
    cases r with
    | cons h r => cases h; rw [intsD_rp e' r]; rfl
  | .none :: _, _, _, e, _ => by cases e
  | .bool _ :: _, _, _, e, _ => by cases e
  | .str _ :: _, _, _, e, _ => by cases e
  | .list _ :: _, _, _, e, _ => by cases e
  | .tuple _ :: _, _, _, e, _ => by cases e
  | .dict _ :: _, _, _, e, _ => by cases e
theorem blsD_map : ∀ bs : List Bool, blsD (bs.map .bool) = some bs
  | [] => rfl
  | b :: bs => by show (blsD (bs.map .bool)).map _ = _; rw [blsD_map bs]; rfl
theorem intsD_map : ∀ bs : List Int, intsD (bs.map .int) = some bs
  | [] => rfl
  | b :: bs => by show (intsD (bs.map .int)).map _ = _; rw [intsD_map bs]; rfl
def allD : List D → Option D
  | [.list l] => (blsD l).map fun bs => .bool (bs.all id)
  | _ => none
def anyD : List D → Option D
  | [.list l] => (blsD l).map fun bs => .bool (bs.any id)
  | _ => none
def sumD : List D → Option D
  | [.list l] => (intsD l).map fun bs => .int bs.sum
  | _ => none
def maxI : Int → List Int → Int
  | m, [] => m
  | m, x :: r => maxI (if m < x then x else m) r
theorem maxI_ge : ∀ (l : List Int) (m : Int), m ≤ maxI m l ∧ (∀ x ∈ l, x ≤ maxI m l) ∧ (maxI m l = m ∨ maxI m l ∈ l)
  | [], m => ⟨Int.le_refl _, (fun _ h => by cases h), .inl rfl⟩
  | x :: r, m => by
    obtain ⟨h1, h2, h3⟩ := maxI_ge r (if m < x then x else m)
    have e : maxI m (x :: r) = maxI (if m < x then x else m) r := rfl
    rw [e]
    refine ⟨?_, fun y hy => ?_, ?_⟩
    · split at h1 <;> rename_i z <;> simp only [z, if_true, if_false] <;> omega
    · rcases List.mem_cons.mp hy with rfl | hy
      · split at h1 <;> rename_i z <;> simp only [z, if_true, if_false] <;> omega
      · exact h2 y hy
    · rcases h3 with h3 | h3
      · by_cases z : m < x
        · right; rw [h3, if_pos z]; exact List.mem_cons_self
        · left; rw [h3, if_neg z]
      · right; exact List.mem_cons_of_mem _ h3
def maxD : List D → Option D
  | [.list l] => (intsD l).bind fun bs => match bs with
    | [] => none
    | m :: r => some (.int (maxI m r))
  | [.int i, .int j] => some (.int (if j > i then j else i))
  | _ => none
theorem c_max (hc : X.calm = true) : CalD X (.builtin "max") maxD := ⟨_, (cr_max hc).or (call_max2 hc), fun Hs H ds vs Q d hs e hv k => by
  unfold maxD at e
  split at e
  · obtain ⟨bs, e', e⟩ := Option.bind_eq_some_iff.mp e
    obtain ⟨v, rfl, h⟩ := hv.one
    obtain ⟨a, xs, rfl, h1, h2⟩ := h.list hs
    rw [intsD_rp e' h2] at h1
    cases bs with
    | nil => cases e
    | cons m r =>
      cases e
      refine .inl ⟨a, m :: r, rfl, h1, Nat.succ_pos _, fun y hy hge => ?_⟩
      obtain ⟨g1, g2, g3⟩ := maxI_ge r m
      have : y = maxI m r := by
        have a1 := hge m List.mem_cons_self
        have a2 : maxI m r ≤ y := by
          rcases g3 with g | g
          · rw [g]; exact a1
          · exact hge _ (List.mem_cons_of_mem _ g)
        have a3 : y ≤ maxI m r := by
          rcases List.mem_cons.mp hy with rfl | hy
          · exact g1
          · exact g2 y hy
        omega
      rw [this]
      exact k _ _ _ (.refl hs) (.int _)
  · cases e
    obtain ⟨v, w, rfl, h1, h2⟩ := hv.two
    exact .inr ⟨_, _, by rw [h1.int, h2.int], k _ _ _ (.refl hs) (.int _)⟩
  · cases e⟩
def listO : List D → Option (List D)
  | [.list l] => some l
  | [.tuple l] => some l
  | _ => none
theorem c_listO : CalO X (.type "list") listO := ⟨_, call_list_of, fun Hs H ds vs Q d hs e hv k => by
  unfold listO at e
  split at e
  · cases e
    obtain ⟨v, rfl, h⟩ := hv.one
    obtain ⟨a, xs, rfl, h1, h2⟩ := h.list hs
    refine ⟨a, xs, rfl, .inl h1, fun q hq => ?_⟩
    obtain ⟨e1, e2, e3, e4⟩ := new_own hs hq h2
    exact k _ _ _ _ e1 hq e2 e3 e4
  · cases e
    obtain ⟨v, rfl, h⟩ := hv.one
    obtain ⟨a, xs, rfl, h1, h2⟩ := h.tup hs
    refine ⟨a, xs, rfl, .inr h1, fun q hq => ?_⟩
    obtain ⟨e1, e2, e3, e4⟩ := new_own hs hq h2
    exact k _ _ _ _ e1 hq e2 e3 e4
  · cases e⟩
def tupleD : List D → Option D
  | [.list l] => some (.tuple l)
  | [.tuple l] => some (.tuple l)
  | _ => none
/-! ### isinstance of a built-in type -/
def tyD : D → String
  | .none => "NoneType"
  | .bool _ => "bool"
  | .int _ => "int"
  | .str _ => "str"
  | .list _ => "list"
  | .tuple _ => "tuple"
  | .dict _ => "dict"
def isiD (n : String) (d : D) : Option D := match d with
  | .dict _ => none
  | d => (kitB (tyD d) n).map .bool
theorem tyX_of {K : Fg} {Hs H : Hp} {d : D} {v : V} (hs : Same Hs H) (h : Pk K Hs H d v) (nd : ∀ l, d ≠ .dict l) : TyX K H v (.type (tyD d)) := by
  cases d with
  | none => cases h.non; exact .base .non
  | bool b => cases h.bl; exact .base (.bl _)
  | int b => cases h.int; exact .base (.int _)
  | str b => cases h.str; exact .base (.str _)
  | list l =>
    obtain ⟨a, xs, rfl, h1, h2⟩ := h.list hs
    rcases h1 with (h1 | ⟨o, h1⟩) | ⟨o, its, n, h1, h2, _⟩
    · exact .base (.lst h1)
    · exact .base (.frz h1)
    · exact .kList h1 h2
  | tuple l =>
    obtain ⟨a, xs, rfl, h1, h2⟩ := h.tup hs
    rcases h1 with (h1 | ⟨o, h1⟩) | ⟨o, its, n, h1, h2, _⟩
    · exact .base (.tup h1)
    · exact .fTuple h1
    · exact .kTuple h1 h2
  | dict l => exact (nd l rfl).elim
theorem v_isi {xi xt : Str} {p1 p2 : Pos} {n : String} (hg : Gl X xi) (hm : X.mg xi = none) (hv : bootBuiltins xi = some (.builtin "isinstance")) (ha : VP X W a f) (ht : PE X (.Name xt p2) (tC (.ty n)))
    (hn : xi ≠ "__name__" := by decide) (hdb : (xi == ("__debug__" : Str)) = false := by decide)
    (he : starEach [a, .Name xt p2] X.env = (false, eval a X.env) :: starEach [.Name xt p2] X.env := by rfl) (hpl : (backTo pos (starEach [.Name xt p2] X.env)).any (·.1) = false := by rfl) (he2 : starEach [.Name xt p2] X.env = (false, eval (.Name xt p2) X.env) :: starEach [] X.env := by rfl) :
    VE X W (.Call (.Name xi p1) [a, .Name xt p2] [] pos) (e1 (isiD n) f) := by
  refine PE.imp (pe_callB call_isi hg hm hv (pa_cons ha (pa_cons ht pa_nil he2) he) hn hdb he hpl) fun σ H Q ⟨S, G, Hs, ρ, r, p⟩ => ?_
  refine ⟨S, G, Hs, ρ, r, (Post.bind p).imp fun d Hs1 H1 e q u hu => ?_⟩
  cases z : isiD n d with
  | none => rw [z] at q; exact q.elim
  | some d' =>
    rw [z] at q
    have nd : ∀ l, d ≠ .dict l := fun l w => by rw [w] at z; cases z
    have z' : (kitB (tyD d) n).map PyData.bool = some d' := by
      cases d with
      | dict l => exact (nd l rfl).elim
      | _ => exact z
    obtain ⟨b, h1, rfl⟩ := Option.map_eq_some_iff.mp z'
    exact ⟨u, .ty n, .type (tyD d), .type n, b, rfl, .ty n, tyX_of e.sub hu nd, kit_ty h1, q.now e.sub _ (.bl _)⟩
end

/-! ### slices -/
def cutL (l : List D) (lo hi : Option Int) : List D := (l.drop (HT.sIx l.length 0 lo)).take (HT.sIx l.length l.length hi - HT.sIx l.length 0 lo)
theorem cut_rp {K : Fg} {H : Hp} {l : List D} {vs : List V} (r : RpL K H l vs) (lo hi : Option Int) : RpL K H (cutL l lo hi) (cutV vs lo hi) := by
  unfold cutL cutV
  rw [r.length]
  exact (r.drop _).take _
def sliceD (x : D) (lo hi : Option Int) : Option D := match x with
  | .list l => some (.list (cutL l lo hi))
  | .tuple l => some (.tuple (cutL l lo hi))
  | .str z => if z.length ≤ sizeLine then some (.str (cutS z lo hi)) else none
  | _ => none
def sliceO (x : D) (lo hi : Option Int) : Option (List D) := match x with
  | .list l => some (cutL l lo hi)
  | _ => none
def pNo : Ev → R (Option Int) := cst none
def intOf : D → Option (Option Int)
  | .int i => some (some i)
  | _ => none
def tPo (K : Fg) (mg : Str → Option Value) (W : WX) (f : Ev → R (Option Int)) : TO := fun σ H Q => ∃ S G Hs ρ, RelE K S G Hs H σ ρ ∧ Post K mg W Hs H σ (f ρ) (fun o Hs' H' => Q o H')
def VPo (X : Cx) (W : WX) (e : Option Expr) (f : Ev → R (Option Int)) : Prop := PO X e (tPo X.K X.mg W f)
theorem PO.imp {X : Cx} {e : Option Expr} {t t' : TO} (h : PO X e t) (i : ∀ σ H Q, t' σ H Q → t σ H Q) : PO X e t' := ⟨fun pins s σ H Q I q => h.run pins s σ H Q I (i σ H Q q)⟩
def e3 {α β γ δ : Type} (F : α → β → γ → Option δ) (f : Ev → R α) (g : Ev → R β) (h : Ev → R γ) : Ev → R δ := fun ρ => (f ρ).bind fun x => (g ρ).bind fun y => (h ρ).bind fun z => ofO (F x y z)
section
variable {X : Cx} {W : WX} {e a b c : Expr} {lo hi : Option Expr} {p2 pos : Pos} {f g : Ev → R D} {gl gh : Ev → R (Option Int)}
theorem vpo_none : VPo X W none pNo := PO.imp po_none fun σ H Q ⟨S, G, Hs, ρ, r, p⟩ => p.now r.sub
theorem vpo_some (h : VE X W e f) : VPo X W (some e) (e1 intOf f) := PO.imp (po_some h) fun σ H Q ⟨S, G, Hs, ρ, r, p⟩ => by
  refine ⟨S, G, Hs, ρ, r, (Post.bind p).imp fun x Hs1 H1 e q u hu => ?_⟩
  cases x with
  | int i => cases hu; exact ⟨i, rfl, q.now e.sub⟩
  | none => exact q.elim
  | bool _ => exact q.elim
  | str _ => exact q.elim
  | list _ => exact q.elim
  | tuple _ => exact q.elim
  | dict _ => exact q.elim
theorem sl_any : SlR X (fun x lo hi H Q => rSlL X.K x lo hi H Q ∨ rSlA X.K x lo hi H Q ∨ rSlS x lo hi H Q) := sl_list.or (sl_tupA.or sl_str)
theorem cutV_whole {xs : List V} {lo hi : Option Int} (h : HT.sIx xs.length 0 lo = 0 ∧ HT.sIx xs.length xs.length hi = xs.length) : cutV xs lo hi = xs := by
  unfold cutV
  rw [h.1, h.2, Nat.sub_zero, List.drop_zero, List.take_length]
theorem v_slice (he : VP X W e f) (hl : VPo X W lo gl) (hu : VPo X W hi gh) : VE X W (.Subscript e (.Slice lo hi none p2) pos) (e3 sliceD f gl gh) := PE.imp (pe_slice sl_any he hl hu) fun σ H Q ⟨S, G, Hs, ρ, r, p⟩ => by
  refine ⟨S, G, Hs, ρ, r, (Post.bind p).imp fun x Hs1 H1 e q u hu => ?_⟩
  refine ⟨S, G, Hs1, ρ, r.step e, (Post.bind q).imp fun l Hs2 H2 e' q' => ?_⟩
  refine ⟨S, G, Hs2, ρ, (r.step e).step e', (Post.bind q').imp fun h Hs3 H3 e'' q'' => ?_⟩
  have hu3 := (hu.up e').up e''
  cases z : sliceD x l h with
  | none => rw [z] at q''; exact q''.elim
  | some d =>
    rw [z] at q''
    unfold sliceD at z
    split at z
    · cases z
      obtain ⟨a, xs, rfl, h1, h2⟩ := hu3.list e''.sub
      refine .inl ⟨a, xs, rfl, h1, fun p hp => ?_⟩
      obtain ⟨x1, x2⟩ := new_lst e''.sub hp (cut_rp h2 l h)
      exact q'' _ _ x1 _ x2
    · cases z
      have w := hu3.tupRp
      cases w with
      | @tup a xs _ h1 h2 =>
        refine .inr (.inl ⟨a, xs, rfl, SqT.mono e''.sub h1, fun hw => ?_, fun _ p hp => ?_⟩)
        · refine q''.now e''.sub _ (.tup h1 ?_)
          have := cut_rp h2 l h
          rw [cutV_whole hw] at this
          exact this
        · have x := Ext.new (o := .tup (cutV xs l h)) e''.sub hp
          exact q'' _ _ x _ (.tup (.inl (.inl upd_same)) ((cut_rp h2 l h).mono x.grow))
    · split at z
      · rename_i hz
        cases z
        exact .inr (.inr ⟨_, hu3.str, hz, q''.now e''.sub _ (.str _)⟩)
      · cases z
    · cases z
end
end VL

set_option Elab.async false
set_option linter.all false
set_option maxRecDepth 100000
set_option autoImplicit false
namespace VL
open PySem PySem.Spec PyProof.Rows L2

section
variable {X : Cx} {W : WX} {e a b c : Expr} {lo hi : Option Expr} {p2 pos : Pos} {f g : Ev → R D} {gl gh : Ev → R (Option Int)}
/-- xs[::-1] -/
def revO : D → Option (List D)
  | .list l => some l.reverse
  | _ => none
theorem v_revO {k : Nat} {p1 p3 p4 : Pos} (he : VP X W e f) : VO X W (.Subscript e (.Slice none none (some (.UnaryOp .USub (.Constant (.int 1) k p1) p3)) p4) pos) (e1 revO f) := PE.imp (pe_revL he) fun σ H Q ⟨S, G, Hs, ρ, r, p⟩ => by
  refine ⟨S, G, Hs, ρ, r, (Post.bind p).imp fun x Hs1 H1 e q u hu => ?_⟩
  cases z : revO x with
  | none => rw [z] at q; exact q.elim
  | some d =>
    rw [z] at q
    unfold revO at z
    split at z
    · cases z
      obtain ⟨a, xs, rfl, h1, h2⟩ := hu.list e.sub
      refine ⟨a, xs, rfl, h1, fun p hp => ?_⟩
      obtain ⟨x1, x2, x3, x4⟩ := new_own e.sub hp h2.reverse
      exact q _ _ x1 p _ (e.same.free hp) x2 x3 x4
    · cases z
end

/-! ### statements -/
/-- what a def's end hands back -/
def RpO (K : Fg) (G Hs H : Hp) : SD → V → Prop
  | .no, _ => False
  | .bo _, _ => False
  | .sh d, v => Rp K Hs d v
  | .ow l, v => ∃ p vs, v = .ref p ∧ G p = none ∧ Hs p = none ∧ H p = some (.lst vs) ∧ RpL K Hs l vs
def OutOk (K : Fg) (mg : Str → Option Value) (W : WX) (S : Hp) (G : Gx) (Hs : Hp) (D : Ends) : Out → Prop
  | .nx ρ => ∀ Hs' H' σ', Same Hs Hs' → RelE K S G Hs' H' σ' ρ → D.nx σ' H'
  | .bk ρ => ∀ Hs' H' σ', Same Hs Hs' → RelE K S G Hs' H' σ' ρ → D.bk σ' H'
  | .ct ρ => ∀ Hs' H' σ', Same Hs Hs' → RelE K S G Hs' H' σ' ρ → D.ct σ' H'
  | .rt r => ∀ Hs' H' v, Ext S G.h Hs' H' → RpO K G.h Hs' H' r v → D.rt v H'
  | .rtB r ρ => ∀ Hs' H' v σ', Same Hs Hs' → RelE K S G Hs' H' σ' ρ → RpO K G.h Hs' H' r v → (∀ l, r = .ow l → ∀ i p, G.b i = some p → v ≠ .ref p) → D.rt v H'
  | .ex x ρ => ∀ Hs' H' σ' cls dd, Same Hs Hs' → RelE K S G Hs' H' σ' ρ → XRp K mg H' x cls dd → W cls dd σ' H'
  | .bad => False
def tS (K : Fg) (mg : Str → Option Value) (W : WX) (F : Ev → Out) : TS := fun D σ H => ∃ S G Hs ρ, RelE K S G Hs H σ ρ ∧ OutOk K mg W S G Hs D (F ρ)
def VS (X : Cx) (W : WX) (st : Stmt) (F : Ev → Out) : Prop := PS X st (tS X.K X.mg W F)
def VSs (X : Cx) (W : WX) (st : List Stmt) (F : Ev → Out) : Prop := PSs X st (tS X.K X.mg W F)

theorem OutOk.up {K : Fg} {mg : Str → Option Value} {W : WX} {S Hs Hs1 : Hp} {G : Gx} {D : Ends} {o : Out} (h : OutOk K mg W S G Hs D o) (e : Same Hs Hs1) : OutOk K mg W S G Hs1 D o := by
  cases o with
  | nx ρ => exact fun Hs' H' σ' a => h Hs' H' σ' (e.trans a)
  | bk ρ => exact fun Hs' H' σ' a => h Hs' H' σ' (e.trans a)
  | ct ρ => exact fun Hs' H' σ' a => h Hs' H' σ' (e.trans a)
  | rt r => exact h
  | rtB r ρ => exact fun Hs' H' v σ' a => h Hs' H' v σ' (e.trans a)
  | ex x ρ => exact fun Hs' H' σ' cls dd a => h Hs' H' σ' cls dd (e.trans a)
  | bad => exact h
theorem RelE.ext' {K : Fg} {S Hs H : Hp} {G : Gx} {σ : Sg} {ρ : Ev} (r : RelE K S G Hs H σ ρ) : Ext S G.h Hs H := ⟨r.sub, r.old, r.ext, r.new⟩

/-- an evaluation ahead -/
def liftE {α : Type} (r : R α) (ρ : Ev) (k : α → Out) : Out := match r with
  | .ok a => k a
  | .ex x => .ex x ρ
  | .bad => .bad
theorem lift_post {α : Type} {K : Fg} {mg : Str → Option Value} {W : WX} {S Hs H : Hp} {G : Gx} {σ : Sg} {ρ : Ev} {D : Ends} {r : R α} {k : α → Out} (rl : RelE K S G Hs H σ ρ) (h : OutOk K mg W S G Hs D (liftE r ρ k)) :
    Post K mg W Hs H σ r (fun a Hs' H' => OutOk K mg W S G Hs' D (k a)) := by
  cases r with
  | ok a => exact fun Hs' H' e => OutOk.up h e.grow
  | ex x => exact fun Hs' H' cls dd e hx => h Hs' H' σ cls dd e.grow (rl.step e) hx
  | bad => exact h

def seqO (o : Out) (k : Ev → Out) : Out := match o with
  | .nx ρ => k ρ
  | o => o
def sNil : Ev → Out := .nx
def sSeq (F G : Ev → Out) : Ev → Out := fun ρ => seqO (F ρ) G
section
variable {X : Cx} {W : WX} {e a b c : Expr} {es : List Expr} {pos : Pos} {f g : Ev → R D} {fl : Ev → R (List D)} {fb : Ev → R Bool} {st : Stmt} {rest : List Stmt} {F F' : Ev → Out}
theorem sim_seq {K : Fg} {mg : Str → Option Value} : ∀ D σ H, tS K mg W (sSeq F F') D σ H → tSeq (tS K mg W F) (tS K mg W F') D σ H := fun D σ H ⟨S, G, Hs, ρ, r, h⟩ => by
  refine ⟨S, G, Hs, ρ, r, ?_⟩
  unfold sSeq seqO at h
  cases q : F ρ with
  | nx ρ' =>
    rw [q] at h
    exact fun Hs' H' σ' a r' => ⟨S, G, Hs', ρ', r', h.up a⟩
  | bk ρ' => rw [q] at h; exact h
  | ct ρ' => rw [q] at h; exact h
  | rt r' => rw [q] at h; exact h
  | rtB r' ρ' => rw [q] at h; exact h
  | ex x ρ' => rw [q] at h; exact h
  | bad => rw [q] at h; exact h
theorem vss_nil : VSs X W [] sNil := PSs.imp pss_nil fun D σ H ⟨S, G, Hs, ρ, r, h⟩ => h Hs H σ (.refl _) r
theorem vss_cons (h1 : VS X W st F) (h2 : VSs X W rest F') : VSs X W (st :: rest) (sSeq F F') := PSs.imp (pss_cons h1 h2) sim_seq
theorem vss_one (h1 : VS X W st F) : VSs X W [st] F := pss_one h1
theorem vs_break : VS X W (.Break pos) .bk := PS.imp ps_break fun D σ H ⟨S, G, Hs, ρ, r, h⟩ => h Hs H σ (.refl _) r
def sRet (f : Ev → R D) : Ev → Out := fun ρ => liftE (f ρ) ρ fun d => .rt (.sh d)
def sRetO (f : Ev → R (List D)) : Ev → Out := fun ρ => liftE (f ρ) ρ fun d => .rt (.ow d)
theorem vs_ret (he : VE X W e f) : VS X W (.Return (some e) pos) (sRet f) := PS.imp (ps_ret he) fun D σ H ⟨S, G, Hs, ρ, r, h⟩ =>
  ⟨S, G, Hs, ρ, r, (lift_post r h).imp fun d Hs' H' e q v hv => q Hs' H' v (r.step e).ext' hv⟩
theorem vs_retO (he : VO X W e fl) : VS X W (.Return (some e) pos) (sRetO fl) := PS.imp (ps_ret he) fun D σ H ⟨S, G, Hs, ρ, r, h⟩ =>
  ⟨S, G, Hs, ρ, r, (lift_post r h).imp fun d Hs' H' e q p vs h0 h1 h2 h3 => q Hs' H' _ (r.step e).ext' ⟨p, vs, rfl, r.old.free h0, h1, h2, h3⟩⟩
/-- return x, x a list of one's own -/
def sRetV (i : Nat) : Ev → Out := fun ρ => match ρ[i]? with
  | some (.ow l) => .rt (.ow l)
  | some (.sh d) => .rt (.sh d)
  | _ => .bad
theorem vs_retV (i : Nat) {x : Str} {p : Pos} (h : PE X (.Name x p) (tVar i)) : VS X W (.Return (some (.Name x p)) pos) (sRetV i) := PS.imp (ps_ret h) fun D σ H ⟨S, G, Hs, ρ, r, h⟩ => by
  unfold sRetV at h
  cases q : ρ[i]? with
  | none => rw [q] at h; exact h.elim
  | some s =>
    rw [q] at h
    cases s with
    | no => exact h.elim
    | sh d =>
      obtain ⟨v, e1, e2⟩ := r.get q
      exact ⟨v, e1, h Hs H v r.ext' e2⟩
    | bo l => exact h.elim
    | ow l =>
      obtain ⟨p, vs, e1, e2, e3, e4, e5⟩ := r.own q
      exact ⟨_, e1, h Hs H _ r.ext' ⟨p, vs, rfl, e2, e3, e4, e5⟩⟩
def sRetN : Ev → Out := fun _ => .rt (.sh .none)
def sIf (c : Ev → R Bool) (F F' : Ev → Out) : Ev → Out := fun ρ => liftE (c ρ) ρ fun b => if b then F ρ else F' ρ
theorem vs_if {p q : List Stmt} (hc : VT X W c fb) (ha : VSs X W p F) (hb : VSs X W q F') : VS X W (.If c p q pos) (sIf fb F F') := PS.imp (ps_if hc ha hb) fun D σ H ⟨S, G, Hs, ρ, r, h⟩ => by
  refine ⟨S, G, Hs, ρ, r, (lift_post r h).imp fun k Hs' H' e q => ?_⟩
  cases k with
  | true => exact ⟨S, G, Hs', ρ, r.step e, q⟩
  | false => exact ⟨S, G, Hs', ρ, r.step e, q⟩
def sDrop (f : Ev → R D) : Ev → Out := fun ρ => liftE (f ρ) ρ fun _ => .nx ρ
/-- a list of one's own is frozen here -/
def sFz (i : Nat) (F : Ev → Out) : Ev → Out := fun ρ => match ρ[i]? with
  | some (.ow l) => F (ρ.set i (.sh (.list l)))
  | _ => F ρ
theorem sim_fz {K : Fg} {mg : Str → Option Value} (i : Nat) : ∀ D σ H, tS K mg W (sFz i F) D σ H → tS K mg W F D σ H := fun D σ H ⟨S, G, Hs, ρ, r, h⟩ => by
  unfold sFz at h
  cases q : ρ[i]? with
  | none => rw [q] at h; exact ⟨S, G, Hs, ρ, r, h⟩
  | some s =>
    rw [q] at h
    cases s with
    | no => exact ⟨S, G, Hs, ρ, r, h⟩
    | bo l => exact ⟨S, G, Hs, ρ, r, h⟩
    | sh d => exact ⟨S, G, Hs, ρ, r, h⟩
    | ow l =>
      obtain ⟨Hs', g, r'⟩ := r.fz q
      exact ⟨S, G, Hs', _, r', OutOk.up h g⟩
theorem vs_fz (i : Nat) (h : VS X W st F) : VS X W st (sFz i F) := PS.imp h (sim_fz i)
/-! ### targets -/
/-- g: what an assigned item makes of the slots; ts: the slots that it may change -/
def tGt (K : Fg) (ts : List Nat) (g : D → Ev → Option Ev) : TG := fun v σ H Q => ∃ S G Hs ρ d ρ', RelE K S G Hs H σ ρ ∧ Rp K Hs d v ∧ g d ρ = some ρ' ∧
  ∀ σ', σ'.length = σ.length → (∀ j, j ∉ ts → σ'[j]? = σ[j]?) → RelE K S G Hs H σ' ρ' → Q σ' H
def VG (X : Cx) (tg : Expr) (ts : List Nat) (g : D → Ev → Option Ev) : Prop := PG X tg (tGt X.K ts g)
def gSet (i : Nat) : D → Ev → Option Ev := fun d ρ => some (ρ.set i (.sh d))
theorem vg_name {i : Nat} {x : Str} (h : PG X (.Name x pos) (gName i)) : VG X (.Name x pos) [i] (gSet i) := PG.imp h fun v σ H Q ⟨S, G, Hs, ρ, d, ρ', r, hd, e, q⟩ => by
  cases e
  refine q _ (by simp) (fun j hj => ?_) (r.set hd)
  rw [List.getElem?_set_ne]
  intro z
  exact hj (by simp [z])
def tGts (K : Fg) (ts : List Nat) (g : List D → Ev → Option Ev) : TGs := fun vs σ H Q => ∃ S G Hs ρ ds ρ', RelE K S G Hs H σ ρ ∧ RpL K Hs ds vs ∧ g ds ρ = some ρ' ∧
  ∀ σ', σ'.length = σ.length → (∀ j, j ∉ ts → σ'[j]? = σ[j]?) → RelE K S G Hs H σ' ρ' → Q σ' H
def VGs (X : Cx) (tg : List Expr) (ts : List Nat) (g : List D → Ev → Option Ev) : Prop := PGs X tg (tGts X.K ts g)
def gsNil : List D → Ev → Option Ev
  | [], ρ => some ρ
  | _ :: _, _ => none
def gsCons (g : D → Ev → Option Ev) (h : List D → Ev → Option Ev) : List D → Ev → Option Ev
  | [], _ => none
  | d :: ds, ρ => (g d ρ).bind (h ds)
theorem PGs.imp {tg : List Expr} {t t' : TGs} (h : PGs X tg t) (i : ∀ v σ H Q, t' v σ H Q → t v σ H Q) : PGs X tg t' := ⟨fun pins s σ H v u Q I r q => h.run pins s σ H v u Q I r (i v σ H Q q)⟩
theorem vgs_nil : VGs X [] [] gsNil := PGs.imp pgs_nil fun v σ H Q ⟨S, G, Hs, ρ, ds, ρ', r, hd, e, q⟩ => by
  cases hd with
  | nil => cases e; exact ⟨rfl, q σ rfl (fun _ _ => rfl) r⟩
  | cons _ _ => cases e
theorem vgs_cons {ts us : List Nat} {g : D → Ev → Option Ev} {k : List D → Ev → Option Ev} (h1 : VG X e ts g) (h2 : VGs X es us k)
    (hs : (assignEach (e :: es) X.env).map (·.2) = assign e X.env :: (assignEach es X.env).map (·.2) := by rfl) : VGs X (e :: es) (ts ++ us) (gsCons g k) := PGs.imp (pgs_cons h1 h2 hs) fun v σ H Q ⟨S, G, Hs, ρ, ds, ρ', r, hd, e, q⟩ => by
  cases hd with
  | nil => cases e
  | cons h r' =>
    obtain ⟨ρ1, e1, e2⟩ := Option.bind_eq_some_iff.mp e
    refine ⟨_, _, rfl, S, G, Hs, ρ, _, ρ1, r, h, e1, fun σ1 l1 f1 r1 => ?_⟩
    refine ⟨S, G, Hs, ρ1, _, ρ', r1, r', e2, fun σ2 l2 f2 r2 => q σ2 (l2.trans l1) (fun j hj => ?_) r2⟩
    rw [List.mem_append, not_or] at hj
    exact (f2 j hj.2).trans (f1 j hj.1)
def gTupD (n : Nat) (k : List D → Ev → Option Ev) : D → Ev → Option Ev := fun d ρ => match d with
  | .tuple l => if l.length = n then k l ρ else none
  | .list l => if l.length = n then k l ρ else none
  | _ => none
theorem PG.or {tg : Expr} {t t' : TG} (h : PG X tg t) (h' : PG X tg t') : PG X tg (fun v σ H Q => t v σ H Q ∨ t' v σ H Q) := ⟨fun pins s σ H v u Q I r q => q.elim (h.run pins s σ H v u Q I r) (h'.run pins s σ H v u Q I r)⟩
theorem vg_tup {k0 n : Nat} {ts : List Nat} {k : List D → Ev → Option Ev} (hc : X.calm = true) (h : VGs X es ts k)
    (hn : (assignEach es X.env).length = n := by rfl) (hst : (assignEach es X.env).findIdx? (·.1) = none := by rfl) : VG X (.Tuple es k0 pos) ts (gTupD n k) := PG.imp (PG.or (pg_tup hc h hn hst) (pg_lst hc h hn hst)) fun v σ H Q ⟨S, G, Hs, ρ, d, ρ', r, hd, e, q⟩ => by
  unfold gTupD at e
  split at e
  · split at e
    · rename_i hz
      cases hd with
      | tup h1 h2 => exact .inl ⟨_, _, rfl, SqT.mono r.sub h1, by rw [← h2.length]; exact hz, S, G, Hs, ρ, _, ρ', r, h2, e, q⟩
    · cases e
  · split at e
    · rename_i hz
      cases hd with
      | lst h1 h2 => exact .inr ⟨_, _, rfl, Same.seq r.sub h1, by rw [← h2.length]; exact hz, S, G, Hs, ρ, _, ρ', r, h2, e, q⟩
    · cases e
  · cases e
/-! ### assignments -/
def sAsg (f : Ev → R D) (g : D → Ev → Option Ev) : Ev → Out := fun ρ => liftE (f ρ) ρ fun d => match g d ρ with
  | some ρ' => .nx ρ'
  | none => .bad
theorem sim_asg {K : Fg} {mg : Str → Option Value} {ts : List Nat} {k : D → Ev → Option Ev} : ∀ D σ H, tS K mg W (sAsg f k) D σ H → tAsg (tE K mg W f) (tGt K ts k) D σ H := fun D σ H ⟨S, G, Hs, ρ, r, h⟩ => by
  refine ⟨S, G, Hs, ρ, r, (lift_post r h).imp fun d Hs' H' e q v hv => ?_⟩
  cases z : k d ρ with
  | none => rw [z] at q; exact q.elim
  | some ρ' =>
    rw [z] at q
    exact ⟨S, G, Hs', ρ, d, ρ', r.step e, hv, z, fun σ' _ _ r' => q Hs' H' σ' (.refl _) r'⟩
theorem vs_asg {tg : Expr} {ts : List Nat} {k : D → Ev → Option Ev} (he : VE X W e f) (hg : VG X tg ts k) (hs : swapsWithSole [tg] e pos.line X.env = pure false := by rfl) (hw : swappedStores [tg] e X.env = pure none := by rfl)
    (h1 : (assignEach [tg] X.env).map (·.2) = [assign tg X.env] := by rfl) : VS X W (.Assign [tg] e pos) (sAsg f k) := PS.imp (ps_asg he hg hs hw h1) sim_asg
def sSet (i : Nat) (f : Ev → R D) : Ev → Out := fun ρ => liftE (f ρ) ρ fun d => .nx (ρ.set i (.sh d))
theorem sim_set {K : Fg} {mg : Str → Option Value} {i : Nat} : ∀ D σ H, tS K mg W (sSet i f) D σ H → tAsg (tE K mg W f) (gName i) D σ H := fun D σ H ⟨S, G, Hs, ρ, r, h⟩ =>
  ⟨S, G, Hs, ρ, r, (lift_post r h).imp fun d Hs' H' e q v hv => q Hs' H' _ (.refl _) ((r.step e).set hv)⟩
def sSetO (i : Nat) (f : Ev → R (List D)) : Ev → Out := fun ρ => liftE (f ρ) ρ fun d => .nx (ρ.set i (.ow d))
theorem sim_setO {K : Fg} {mg : Str → Option Value} {i : Nat} : ∀ D σ H, tS K mg W (sSetO i fl) D σ H → tAsg (tO K mg W fl) (gName i) D σ H := fun D σ H ⟨S, G, Hs, ρ, r, h⟩ =>
  ⟨S, G, Hs, ρ, r, (lift_post r h).imp fun d Hs' H' e q p vs h0 h1 h2 h3 => q Hs' H' _ (.refl _) (r.setOw e h0 h1 h2 h3)⟩
theorem vs_set {i : Nat} {x : Str} {pos' : Pos} (hN : X.N.Nodup) (hi : X.N[i]? = some x) (hx : Loc X.env.scope x) (he : VE X W e f) (hs : swapsWith e (some (.Name x pos')) pos.line X.env = pure false := by rfl) (hf : X.fn x = true ∨ X.env.scope.names.lookup x = some .local := by first | exact .inl rfl | exact .inr rfl | assumption) :
    VS X W (.Assign [.Name x pos'] e pos) (sSet i f) := PS.imp (ps_set hN hi hx he hs hf) sim_set
theorem vs_setO {i : Nat} {x : Str} {pos' : Pos} (hN : X.N.Nodup) (hi : X.N[i]? = some x) (hx : Loc X.env.scope x) (he : VO X W e fl) (hs : swapsWith e (some (.Name x pos')) pos.line X.env = pure false := by rfl) (hf : X.fn x = true ∨ X.env.scope.names.lookup x = some .local := by first | exact .inl rfl | exact .inr rfl | assumption) :
    VS X W (.Assign [.Name x pos'] e pos) (sSetO i fl) := PS.imp (ps_set hN hi hx he hs hf) sim_setO
def sPar (i j : Nat) (fl : Ev → R (List D)) : Ev → Out := fun ρ => liftE (fl ρ) ρ fun ds => match ds with
  | [d, d'] => .nx ((ρ.set i (.sh d)).set j (.sh d'))
  | _ => .bad
theorem vs_par {i j : Nat} {x y : Str} {px py pt : Pos} {kt k2 pt2} (hc : X.calm = true) (hN : X.N.Nodup) (hi : X.N[i]? = some x) (hj : X.N[j]? = some y) (hij : i ≠ j)
    (hx : X.env.scope.names.lookup x = some .local) (hy : X.env.scope.names.lookup y = some .local) (ha : VA X W [a, b] fl)
    (hw : swappedStores [.Tuple [.Name x px, .Name y py] kt pt] (.Tuple [a, b] k2 pt2) X.env = pure (some [x, y]))
    (hs : swapsWithSole [.Tuple [.Name x px, .Name y py] kt pt] (.Tuple [a, b] k2 pt2) pos.line X.env = pure false := by rfl) :
    VS X W (.Assign [.Tuple [.Name x px, .Name y py] kt pt] (.Tuple [a, b] k2 pt2) pos) (sPar i j fl) := PS.imp (ps_par hc hN hi hj hij hx hy ha hw hs) fun D σ H ⟨S, G, Hs, ρ, r, h⟩ => by
  refine ⟨S, G, Hs, ρ, r, (lift_post r h).imp fun ds Hs' H' e q vs hv => ?_⟩
  cases hv with
  | nil => exact q.elim
  | cons h1 hv =>
    cases hv with
    | nil => exact q.elim
    | cons h2 hv =>
      cases hv with
      | cons _ _ => exact q.elim
      | nil => exact ⟨_, _, rfl, q Hs' H' _ (.refl _) (((r.step e).set h1).set h2)⟩
/-- x op= e -/
def sAug (i : Nat) (F : D → D → Option D) (f : Ev → R D) : Ev → Out := fun ρ => liftE ((eVar i ρ).bind fun x => (f ρ).bind fun y => ofO (F x y)) ρ fun d => .nx (ρ.set i (.sh d))
def DIp (X : Cx) (op : Operator) (F : D → D → Option D) : Prop := ∃ r, PIp X op r ∧ OpD X.K r F
def iaddD : D → D → Option D
  | .int i, .int j => some (.int (i + j))
  | _, _ => none
theorem dip_sub : DIp X .Sub subD := ⟨_, ip_sub, fun Hs H x y u v Q d hs e hx hy k => by
  unfold subD at e
  split at e
  · cases e
    exact ⟨_, _, hx.int, hy.int, k _ _ _ (.refl hs) (.int _)⟩
  · cases e⟩
def imulD : D → D → Option D
  | .int i, .int j => if okMul i j then some (.int (i * j)) else none
  | _, _ => none
theorem vs_aug {i : Nat} {x : Str} {op : Operator} {F : D → D → Option D} {pos' : Pos} (hN : X.N.Nodup) (hi : X.N[i]? = some x) (hx : Loc X.env.scope x) (he : VP X W e f) (ho : DIp X op F) (hf : X.fn x = true ∨ X.env.scope.names.lookup x = some .local := by first | exact .inl rfl | exact .inr rfl | assumption) :
    VS X W (.AugAssign (.Name x pos') op e pos) (sAug i F f) := by
  obtain ⟨ti, h1, h2⟩ := ho
  refine PS.imp (ps_aug hN hi hx he h1 hf) fun D σ H ⟨S, G, Hs, ρ, r, h⟩ => ?_
  have p := lift_post r h
  unfold eVar at p
  cases q : ρ[i]? with
  | none => rw [q] at p; exact p.elim
  | some s =>
    rw [q] at p
    cases s with
    | no => exact p.elim
    | ow l => exact p.elim
    | bo l => exact p.elim
    | sh d =>
      obtain ⟨v, e1, e2⟩ := r.get q
      refine ⟨v, e1, S, G, Hs, ρ, r, (Post.bind (show Post X.K X.mg W Hs H σ ((f ρ).bind fun y => ofO (F d y)) _ from p)).imp fun y Hs1 H1 e q w hw => ?_⟩
      cases z : F d y with
      | none => rw [z] at q; exact q.elim
      | some d' =>
        rw [z] at q
        refine h2 Hs1 H1 d y v w _ d' e.sub z (.inl (e2.mono e.grow)) hw fun Hs' H' z e' hz => ?_
        exact q Hs' H' e' Hs' H' _ (.refl _) (((r.step e).step e').set hz)
/-- x.append(e), x a list of one's own -/
def onOw (i : Nat) (ρ : Ev) (k : List D → Out) : Out := match ρ[i]? with
  | some (.ow l) => k l
  | _ => .bad
theorem on_own {K : Fg} {mg : Str → Option Value} {S Hs : Hp} {G : Gx} {En : Ends} {i : Nat} {ρ : Ev} {k : List D → Out} (h : OutOk K mg W S G Hs En (onOw i ρ k)) : ∃ l, ρ[i]? = some (.ow l) ∧ OutOk K mg W S G Hs En (k l) := by
  unfold onOw at h
  split at h
  · exact ⟨_, by assumption, h⟩
  · exact h.elim
def sApp (i : Nat) (f : Ev → R D) : Ev → Out := fun ρ => onOw i ρ fun l => liftE (f ρ) ρ fun d => if l.length < sizeLine then .nx (ρ.set i (.ow (l ++ [d]))) else .bad
theorem vs_app (i : Nat) {x : Str} {p apos cpos : Pos} (ho : PE X (.Name x p) (tVar i)) (he : VE X W e f)
    (hbase : attributeBase (.Name x p) "append" X.env (eval (.Name x p) X.env) = eval (.Name x p) X.env := by rfl)
    (hfew : ((backTo cpos (starEach [e] X.env)).all (fun x => !x.1) && (backToKw cpos (keywordEach [] X.env)).all (fun x => x.1.isSome)
      && decide ([e].length + ([] : List Keyword).length + (if ([] : List Keyword).isEmpty then 0 else 1) < 30)) = true := by rfl)
    (hline : (apos.endLine == cpos.line) = true := by rfl) (hs : starEach [e] X.env = (false, eval e X.env) :: starEach [] X.env := by rfl) (hplain : (backTo cpos (starEach [] X.env)).any (·.1) = false := by rfl)
    (hsw : swapsWith (.Call (.Attribute (.Name x p) "append" apos) [e] [] cpos) none pos.line X.env = pure false := by rfl) :
    VS X W (.Expr (.Call (.Attribute (.Name x p) "append" apos) [e] [] cpos) pos) (sApp i f) := by
  refine PS.imp (ps_expr (pe_bm PySem.F.plainAttrs_list PySem.F.slot_list_append PySem.F.type_list_append mt_append ho (pa_cons he pa_nil hs) hbase hfew hline hs hplain) hsw) fun D σ H ⟨S, G, Hs, ρ, r, h⟩ => ?_
  obtain ⟨l, hl, h⟩ := on_own h
  obtain ⟨a, vs, o1, o2, o3, o4, o5⟩ := r.own hl
  refine ⟨_, o1, .inl ⟨rfl, vs, .inl (.inl o4)⟩, S, G, Hs, ρ, r, (lift_post r h).imp fun d Hs' H' e q v hv => ?_⟩
  split at q
  · rename_i hz
    have r' := r.step e
    refine ⟨a, vs, v, rfl, rfl, e.same _ _ o4, by rw [← o5.length]; exact hz, ?_⟩
    exact q Hs' _ σ (.refl _) (r'.wr hl o1 ((o5.mono e.grow).append (.cons hv .nil)))
  · exact q.elim
def sExt (i : Nat) (f : Ev → R D) : Ev → Out := fun ρ => onOw i ρ fun l => liftE (f ρ) ρ fun d => match d with
  | .list l' => if l.length + l'.length ≤ sizeLine then .nx (ρ.set i (.ow (l ++ l'))) else .bad
  | _ => .bad
/-- x[e] = v -/
def sStore (i : Nat) (fi fv : Ev → R D) : Ev → Out := fun ρ => onOw i ρ fun l => liftE ((fv ρ).bind fun d => (fi ρ).bind fun k => .ok (d, k)) ρ fun (d, k) => match k with
  | .int z => match ixN l.length z with
    | some j => .nx (ρ.set i (.ow (l.set j d)))
    | none => .bad
  | _ => .bad
theorem vs_store (i : Nat) {x : Str} {p spos : Pos} (ho : PE X (.Name x p) (tVar i)) (hi : VE X W a g) (he : VE X W e f)
    (hs : swapsWithSole [.Subscript (.Name x p) a spos] e pos.line X.env = pure false := by rfl) (hw : swappedStores [.Subscript (.Name x p) a spos] e X.env = pure none := by rfl)
    (h1 : (assignEach [.Subscript (.Name x p) a spos] X.env).map (·.2) = [assign (.Subscript (.Name x p) a spos) X.env] := by rfl)
    (ha : ∀ v, assign (.Subscript (.Name x p) a spos) X.env v = (do
      let ov ← holding [v] (eval (.Name x p) X.env)
      let iv ← holding [v, ov] (eval a X.env)
      standAt spos
      holding [v, ov, iv] (setItem ov iv v)
      release [v, ov, iv] []) := by intro _; rfl) : VS X W (.Assign [.Subscript (.Name x p) a spos] e pos) (sStore i g f) := by
  refine PS.imp (ps_asg he (pg_sub ho hi set_list ha) hs hw h1) fun D σ H ⟨S, G, Hs, ρ, r, h⟩ => ?_
  obtain ⟨l, hl, h⟩ := on_own h
  obtain ⟨b, vs, o1, o2, o3, o4, o5⟩ := r.own hl
  refine ⟨S, G, Hs, ρ, r, (Post.bind (lift_post r h)).imp fun d Hs' H' e q v hv => ?_⟩
  refine ⟨_, o1, S, G, Hs', ρ, r.step e, (Post.bind q).imp fun k Hs2 H2 e2 q2 w hw => ?_⟩
  have q3 := q2.now e2.sub
  cases k with
  | int z =>
    cases hw
    cases y : ixN l.length z with
    | none => simp only [y] at q3; exact q3.elim
    | some j =>
      simp only [y] at q3
      refine ⟨b, vs, z, j, rfl, rfl, e2.same _ _ (e.same _ _ o4), by rw [← o5.length]; exact y, ?_⟩
      exact q3 Hs2 _ σ (.refl _) (((r.step e).step e2).wr hl o1 (((o5.mono e.grow).mono e2.grow).set (hv.mono e2.grow) j))
  | none => exact q3.elim
  | bool _ => exact q3.elim
  | str _ => exact q3.elim
  | list _ => exact q3.elim
  | tuple _ => exact q3.elim
  | dict _ => exact q3.elim
def placeD (l : List D) : D → Option (Nat × D)
  | .int z => if 0 ≤ z ∧ z < 2 ^ 63 then (l[z.toNat]?).map fun y => (z.toNat, y) else none
  | _ => none
def sAugIx (i : Nat) (F : D → D → Option D) (fi fv : Ev → R D) : Ev → Out := fun ρ => onOw i ρ fun l => liftE ((fi ρ).bind fun k => ofO (placeD l k)) ρ fun jy => liftE ((fv ρ).bind fun d => ofO (F jy.2 d)) ρ fun d => .nx (ρ.set i (.ow (l.set jy.1 d)))
/-- x = y.pop() -/
def sPop (i j : Nat) : Ev → Out := fun ρ => onOw j ρ fun l => match l.getLast? with
  | some d => .nx ((ρ.set j (.ow l.dropLast)).set i (.sh d))
  | none => .bad
theorem pop_at {K : Fg} {H : Hp} {l : List VL.D} {vs : List V} {d : VL.D} (r : RpL K H l vs) (e : l.getLast? = some d) : ∃ v, vs[vs.length - 1]? = some v ∧ Rp K H d v := by
  rw [List.getLast?_eq_getElem?] at e
  rw [← r.length]
  exact r.get e
end
end VL

set_option Elab.async false
set_option linter.all false
set_option maxRecDepth 100000
set_option autoImplicit false
namespace VL
open PySem PySem.Spec PyProof.Rows L2

/-! ### what is walked -/
def ItD (K : Fg) (J : It) (Hs : Hp) (l : List D) : Prop := ∀ (i : Nat) (Hs' H' : Hp), Same Hs Hs' → Same Hs' H' →
  (∀ d, l[i]? = some d → J.go i H' ∧ ∀ x H'', J.yld i H' x H'' → ∃ Hs'', Ext Hs' H' Hs'' H'' ∧ Rp K Hs'' d x) ∧ (l.length ≤ i → J.stop i H')
def tIt (K : Fg) (mg : Str → Option Value) (W : WX) (f : Ev → R (List D)) : TI := fun σ H Rr => ∃ S G Hs ρ, RelE K S G Hs H σ ρ ∧ Post K mg W Hs H σ (f ρ) (fun l Hs' H' => ∀ J, ItD K J Hs' l → Rr J H')
def VI (X : Cx) (W : WX) (tg iter : Expr) (f : Ev → R (List D)) : Prop := PI X tg iter (tIt X.K X.mg W f)
def seqD : D → Option (List D)
  | .list l => some l
  | .tuple l => some l
  | .str z => some (z.cps.toList.map fun c => .str ⟨#[c]⟩)
  | _ => none
theorem it_list {K : Fg} {Hs : Hp} {a : Addr} {xs : List V} {l : List D} (h : SqL K Hs a xs) (r : RpL K Hs l xs) : ItD K (Itl K a) Hs l := fun i Hs' H' g s => by
  have h' : SqL K H' a xs := Same.seq s (Same.seq g h)
  refine ⟨fun d e => ?_, fun hl => ⟨xs, h', by rw [← r.length]; exact hl⟩⟩
  obtain ⟨v, v1, v2⟩ := r.get e
  refine ⟨⟨xs, v, h', v1⟩, fun x H'' y => ?_⟩
  obtain ⟨rfl, y⟩ := y
  have := y xs h'
  rw [v1] at this
  cases this
  exact ⟨Hs', .refl s, v2.mono g⟩
section
variable {X : Cx} {W : WX} {tg e : Expr} {pos : Pos}
/-- a list, a tuple or a text, walked -/
def iSeq (K : Fg) (tl : TE) : TI := fun σ H Rr => tl σ H fun x H1 => (∃ a, x = .ref a ∧ (∃ xs, SqL K H1 a xs) ∧ Rr (Itl K a) H1) ∨ (∃ a, x = .ref a ∧ (∃ xs, SqT K H1 a xs) ∧ Rr (Itt K a) H1) ∨ (∃ z, x = .str z ∧ Rr (Its z) H1)
theorem pi_seq {tl : TE} (hl : PE X e tl) : PI X tg e (iSeq X.K tl) := by
  refine ⟨fun pins s σ H R I h => ?_⟩
  -- the three rules, by the value that comes
  have k1 : ∀ (a : Addr) (s1 : Shared) (H1 : Hp), Inv X pins σ H1 s1 → (∃ xs, SqL X.K H1 a xs) → R (Itl X.K a) H1 → wpAny (model X.prog X.w) X.A (pyIter (.ref a)) (PIE X pins σ tg R) X.xe s1 := fun a s1 H1 I1 ⟨xs, hq⟩ q => by
    obtain ⟨its, rv, p, hz⟩ := I1.list hq
    refine wpAny_pyIter_list p.isList ?_
    refine ⟨s1.heap.objs.size, [s1.heap.objs.size], _, _, H1, rfl, I1.kept (t' := s1.toks) fun b o e => Heap.get?_push_of_some _ e, turn_list a _, ⟨_, Heap.get?_push_size _ rfl, rfl, rfl⟩, fun b hb => ?_, q⟩
    have e : b = s1.heap.objs.size := by simpa using hb
    subst e
    exact I1.fpOk (Nat.le_refl _) (I1.hok.fresh (Nat.le_refl _))
  have k2 : ∀ (a : Addr) (s1 : Shared) (H1 : Hp), Inv X pins σ H1 s1 → (∃ xs, SqT X.K H1 a xs) → R (Itt X.K a) H1 → wpAny (model X.prog X.w) X.A (pyIter (.ref a)) (PIE X pins σ tg R) X.xe s1 := fun a s1 H1 I1 ⟨xs, hq⟩ q => by
    obtain ⟨its, rv, p, hz⟩ := I1.tuple hq
    refine wpAny_pyIter_tuple (show s1.heap.IsTuple a its.toArray from p) ?_
    refine ⟨s1.heap.objs.size, [s1.heap.objs.size], _, _, H1, rfl, I1.kept (t' := s1.toks) fun b o e => Heap.get?_push_of_some _ e, turn_tuple a _, ⟨_, Heap.get?_push_size _ rfl, rfl, rfl⟩, fun b hb => ?_, q⟩
    have e : b = s1.heap.objs.size := by simpa using hb
    subst e
    exact I1.fpOk (Nat.le_refl _) (I1.hok.fresh (Nat.le_refl _))
  refine thn (hl.run pins s σ H _ I h) fun v s1 ⟨x, H1, I1, r1, q1⟩ => ?_
  rcases q1 with ⟨a, ex, hx, q⟩ | ⟨a, ex, hx, q⟩ | ⟨z, ex, q⟩
  · subst ex; cases r1; exact k1 a s1 H1 I1 hx q
  · subst ex; cases r1; exact k2 a s1 H1 I1 hx q
  · subst ex
    obtain ⟨t, rfl⟩ := r1
    cases ha : z.cps.all (· < 128)
    · exact wpAny_pyIter_wide ha (pi_one (tk := s1.toks) I1 _ (turn_str _ z t "str_iterator" (.inr rfl)) ⟨_, Heap.get?_push_size _ rfl, rfl, rfl⟩ q)
    · exact wpAny_pyIter_ascii ha (pi_one (tk := s1.toks) I1 _ (turn_str _ z t "str_ascii_iterator" (.inl rfl)) ⟨_, Heap.get?_push_size _ rfl, rfl, rfl⟩ q)
end
theorem it_tup {K : Fg} {Hs : Hp} {a : Addr} {xs : List V} {l : List D} (h : SqT K Hs a xs) (r : RpL K Hs l xs) : ItD K (Itt K a) Hs l := fun i Hs' H' g s => by
  have h' : SqT K H' a xs := SqT.mono s (SqT.mono g h)
  refine ⟨fun d e => ?_, fun hl => ⟨xs, h', by rw [← r.length]; exact hl⟩⟩
  obtain ⟨v, v1, v2⟩ := r.get e
  refine ⟨⟨xs, v, h', v1⟩, fun x H'' y => ?_⟩
  obtain ⟨rfl, y⟩ := y
  have := y xs h'
  rw [v1] at this
  cases this
  exact ⟨Hs', .refl s, v2.mono g⟩
theorem it_str {K : Fg} {Hs : Hp} (z : Str) : ItD K (Its z) Hs (z.cps.toList.map fun c => .str ⟨#[c]⟩) := fun i Hs' H' g s => by
  refine ⟨fun d e => ?_, fun hl => by rw [List.length_map, Array.length_toList] at hl; exact hl⟩
  rw [List.getElem?_map] at e
  obtain ⟨c, e1, rfl⟩ := Option.map_eq_some_iff.mp e
  have e2 : z.cps[i]? = some c := by rw [← Array.getElem?_toList]; exact e1
  refine ⟨(Array.getElem?_eq_some_iff.mp e2).1, fun x H'' y => ?_⟩
  obtain ⟨rfl, c', e3, rfl⟩ := y
  rw [e2] at e3
  cases e3
  exact ⟨Hs', .refl s, .str _⟩
/-- lo, lo + c, .. (n of them) -/
def rngL (lo c : Int) (n : Nat) : List D := (List.range n).map fun i => .int (lo + (i : Nat) * c)
theorem rngL_length (lo c : Int) (n : Nat) : (rngL lo c n).length = n := by simp [rngL]
theorem rngL_get {lo c : Int} {n i : Nat} {d : D} (h : (rngL lo c n)[i]? = some d) : i < n ∧ d = .int (lo + (i : Nat) * c) := by
  unfold rngL at h
  rw [List.getElem?_map] at h
  obtain ⟨j, e1, rfl⟩ := Option.map_eq_some_iff.mp h
  obtain ⟨h1, h2⟩ := List.getElem?_eq_some_iff.mp e1
  rw [List.getElem_range] at h2
  subst h2
  exact ⟨by simpa using h1, rfl⟩
theorem it_rng {K : Fg} {Hs : Hp} {lo : Int} {n : Nat} : ItD K (Itr lo n) Hs (rngL lo 1 n) := fun i Hs' H' g s => by
  refine ⟨fun d e => ?_, fun hl => by rw [rngL_length] at hl; exact hl⟩
  obtain ⟨h1, rfl⟩ := rngL_get e
  refine ⟨h1, fun x H'' y => ?_⟩
  obtain ⟨rfl, rfl⟩ := y
  rw [Int.mul_one]
  exact ⟨Hs', .refl s, .int _⟩
def in62 (i : Int) : Bool := decide (-(2 ^ 62) ≤ i ∧ i < 2 ^ 62)
def range1D : List D → Option (List D)
  | [.int j] => if in62 j then some (rngL 0 1 j.toNat) else none
  | _ => none
def range2D : List D → Option (List D)
  | [.int i, .int j] => if in62 i && in62 j then some (rngL i 1 (j - i).toNat) else none
  | _ => none
theorem PkL.three {K : Fg} {Hs H : Hp} {d e f : D} {vs : List V} (h : PkL K Hs H [d, e, f] vs) : ∃ v w u, vs = [v, w, u] ∧ Pk K Hs H d v ∧ Pk K Hs H e w ∧ Pk K Hs H f u := by
  cases vs with
  | nil => exact h.elim
  | cons v r =>
    cases r with
    | nil => exact h.2.elim
    | cons w r =>
      cases r with
      | nil => exact h.2.2.elim
      | cons u r =>
        cases r with
        | nil => exact ⟨v, w, u, rfl, h.1, h.2.1, h.2.2.1⟩
        | cons _ r => exact h.2.2.2.elim
section
variable {X : Cx} {W : WX} {tg e a b c : Expr} {pos p : Pos} {f : Ev → R D} {fl : Ev → R (List D)}
theorem vi_seq (h : VE X W e f) : VI X W tg e (e1 seqD f) := PI.imp (pi_seq h) fun σ H Rr ⟨S, G, Hs, ρ, r, p⟩ => by
  refine ⟨S, G, Hs, ρ, r, (Post.bind p).imp fun d Hs1 H1 e q v hv => ?_⟩
  cases z : seqD d with
  | none => rw [z] at q; exact q.elim
  | some l =>
    rw [z] at q
    have q' := q.now e.sub
    unfold seqD at z
    split at z
    · cases z
      cases hv with
      | lst h1 h2 => exact .inl ⟨_, rfl, ⟨_, Same.seq e.sub h1⟩, q' _ (it_list h1 h2)⟩
    · cases z
      cases hv with
      | tup h1 h2 => exact .inr (.inl ⟨_, rfl, ⟨_, SqT.mono e.sub h1⟩, q' _ (it_tup h1 h2)⟩)
    · cases z
      cases hv
      exact .inr (.inr ⟨_, rfl, q' _ (it_str _)⟩)
    · cases z
theorem vi_range1 (hg : Gl X "range") (hm : X.mg "range" = none) (ha : VAp X W [a] fl) (hs : starEach [a] X.env = [(false, eval a X.env)] := by rfl) : VI X W tg (.Call (.Name "range" p) [a] [] pos) (e1 range1D fl) := PI.imp (pi_range1 hg hm ha hs) fun σ H Rr ⟨S, G, Hs, ρ, r, p⟩ => by
  refine ⟨S, G, Hs, ρ, r, (Post.bind p).imp fun ds Hs1 H1 e q vs hv => ?_⟩
  cases z : range1D ds with
  | none => rw [z] at q; exact q.elim
  | some l =>
    rw [z] at q
    have q' := q.now e.sub
    unfold range1D at z
    split at z
    · split at z
      · rename_i hz
        cases z
        unfold in62 at hz
        have hz' := of_decide_eq_true hz
        obtain ⟨v, rfl, h⟩ := hv.one
        exact ⟨_, by rw [h.int], hz'.1, hz'.2, q' _ it_rng⟩
      · cases z
    · cases z
theorem vi_range2 (hg : Gl X "range") (hm : X.mg "range" = none) (ha : VAp X W [a, b] fl) (hs : starEach [a, b] X.env = [(false, eval a X.env), (false, eval b X.env)] := by rfl) (hs2 : starEach [b] X.env = [(false, eval b X.env)] := by rfl) : VI X W tg (.Call (.Name "range" p) [a, b] [] pos) (e1 range2D fl) := PI.imp (pi_range2 hg hm ha hs hs2) fun σ H Rr ⟨S, G, Hs, ρ, r, p⟩ => by
  refine ⟨S, G, Hs, ρ, r, (Post.bind p).imp fun ds Hs1 H1 e q vs hv => ?_⟩
  cases z : range2D ds with
  | none => rw [z] at q; exact q.elim
  | some l =>
    rw [z] at q
    have q' := q.now e.sub
    unfold range2D at z
    split at z
    · split at z
      · rename_i hz
        cases z
        unfold in62 at hz
        rw [Bool.and_eq_true] at hz
        have hz1 := of_decide_eq_true hz.1
        have hz2 := of_decide_eq_true hz.2
        obtain ⟨v, w, rfl, h, h'⟩ := hv.two
        exact ⟨_, _, by rw [h.int, h'.int], ⟨hz1.1, hz1.2, hz2.1, hz2.2⟩, q' _ it_rng⟩
      · cases z
    · cases z
/-- enumerate, zip of lists -/
def enuL (l : List D) : List D := (List.range l.length).zipWith (fun i d => .tuple [.int (i : Nat), d]) l
def zipL (l m : List D) : List D := l.zipWith (fun d e => .tuple [d, e]) m
def enuD : List D → Option (List D)
  | [.list l] => some (enuL l)
  | _ => none
def zipD : List D → Option (List D)
  | [.list l, .list m] => some (zipL l m)
  | _ => none
theorem RpL.one {K : Fg} {H : Hp} {d : D} {vs : List V} (h : RpL K H [d] vs) : ∃ v, vs = [v] ∧ Rp K H d v := by
  cases h with
  | cons h r => cases r; exact ⟨_, rfl, h⟩
theorem RpL.two {K : Fg} {H : Hp} {d e : D} {vs : List V} (h : RpL K H [d, e] vs) : ∃ v w, vs = [v, w] ∧ Rp K H d v ∧ Rp K H e w := by
  cases h with
  | cons h r => cases r with
    | cons h' r => cases r; exact ⟨_, _, rfl, h, h'⟩
end

/-! ### for, while -/
def forO (body : D → Ev → Out) : List D → Ev → Out
  | [], ρ => .nx ρ
  | d :: ds, ρ => match body d ρ with
    | .nx ρ' => forO body ds ρ'
    | .ct ρ' => forO body ds ρ'
    | .bk ρ' => .nx ρ'
    | .rt r => .rt r
    | .rtB r ρ' => .rtB r ρ'
    | .ex x ρ' => .ex x ρ'
    | .bad => .bad
def gTo (g : D → Ev → Option Ev) (F : Ev → Out) : D → Ev → Out := fun d ρ => match g d ρ with
  | some ρ' => F ρ'
  | none => .bad
def sFor (fi : Ev → R (List D)) (g : D → Ev → Option Ev) (F : Ev → Out) : Ev → Out := fun ρ => liftE (fi ρ) ρ fun l => forO (gTo g F) l ρ
def whileO (c : Ev → R Bool) (F : Ev → Out) : Nat → Ev → Out
  | 0, _ => .bad
  | n + 1, ρ => liftE (c ρ) ρ fun b => if b then (match F ρ with
    | .nx ρ' => whileO c F n ρ'
    | .ct ρ' => whileO c F n ρ'
    | .bk ρ' => .nx ρ'
    | .rt r => .rt r
    | .rtB r ρ' => .rtB r ρ'
    | .ex x ρ' => .ex x ρ'
    | .bad => .bad) else .nx ρ
open Classical in
noncomputable def sWhile (c : Ev → R Bool) (F : Ev → Out) : Ev → Out := fun ρ => if h : ∃ n, whileO c F n ρ ≠ .bad then whileO c F (Classical.choose h) ρ else .bad
theorem whileO_mono {c : Ev → R Bool} {F : Ev → Out} : ∀ (n m : Nat) (ρ : Ev), n ≤ m → whileO c F n ρ ≠ .bad → whileO c F m ρ = whileO c F n ρ
  | 0, _, _, _, h => (h rfl).elim
  | n + 1, 0, _, h, _ => by omega
  | n + 1, m + 1, ρ, h, hb => by
    show liftE (c ρ) ρ _ = liftE (c ρ) ρ _
    have hb' : liftE (c ρ) ρ (fun b => if b then (match F ρ with
      | .nx ρ' => whileO c F n ρ'
      | .ct ρ' => whileO c F n ρ'
      | .bk ρ' => .nx ρ'
      | .rt r => .rt r
      | .rtB r ρ' => .rtB r ρ'
      | .ex x ρ' => .ex x ρ'
      | .bad => .bad) else .nx ρ) ≠ .bad := hb
    cases e : c ρ with
    | ex x => rfl
    | bad => rfl
    | ok b =>
      rw [e] at hb'
      cases b with
      | false => rfl
      | true =>
        show (match F ρ with
          | .nx ρ' => whileO c F m ρ'
          | .ct ρ' => whileO c F m ρ'
          | .bk ρ' => .nx ρ'
          | .rt r => .rt r
          | .rtB r ρ' => .rtB r ρ'
          | .ex x ρ' => .ex x ρ'
          | .bad => .bad) = (match F ρ with
          | .nx ρ' => whileO c F n ρ'
          | .ct ρ' => whileO c F n ρ'
          | .bk ρ' => .nx ρ'
          | .rt r => .rt r
          | .rtB r ρ' => .rtB r ρ'
          | .ex x ρ' => .ex x ρ'
          | .bad => .bad)
        have hb2 : (match F ρ with
          | .nx ρ' => whileO c F n ρ'
          | .ct ρ' => whileO c F n ρ'
          | .bk ρ' => .nx ρ'
          | .rt r => .rt r
          | .rtB r ρ' => .rtB r ρ'
          | .ex x ρ' => .ex x ρ'
          | .bad => .bad) ≠ .bad := hb'
        cases e2 : F ρ with
        | nx ρ' => rw [e2] at hb2; exact whileO_mono n m ρ' (by omega) hb2
        | ct ρ' => rw [e2] at hb2; exact whileO_mono n m ρ' (by omega) hb2
        | bk ρ' => rfl
        | rt r => rfl
        | rtB r ρ' => rfl
        | ex x ρ' => rfl
        | bad => rfl
theorem sWhile_eq {c : Ev → R Bool} {F : Ev → Out} {n : Nat} {ρ : Ev} {o : Out} (h : whileO c F n ρ = o) (ho : o ≠ .bad) : sWhile c F ρ = o := by
  have hex : ∃ n, whileO c F n ρ ≠ .bad := ⟨n, by rw [h]; exact ho⟩
  have e1 : sWhile c F ρ = whileO c F (Classical.choose hex) ρ := by unfold sWhile; rw [dif_pos hex]
  have e2 := Classical.choose_spec hex
  rw [e1]
  rcases Nat.le_total n (Classical.choose hex) with l | l
  · rw [whileO_mono _ _ _ l (by rw [h]; exact ho), h]
  · rw [← whileO_mono _ _ _ l e2, h]
theorem sWhile_ok {K : Fg} {mg : Str → Option Value} {W : WX} {S Hs : Hp} {G : Gx} {En : Ends} {c : Ev → R Bool} {F : Ev → Out} {ρ : Ev} (h : OutOk K mg W S G Hs En (sWhile c F ρ)) : ∃ n, OutOk K mg W S G Hs En (whileO c F n ρ) := by
  unfold sWhile at h
  split at h
  · exact ⟨_, h⟩
  · exact h.elim
section
variable {X : Cx} {W : WX} {tg iter c : Expr} {body : List Stmt} {pos : Pos} {fi : Ev → R (List D)} {ts : List Nat} {g : D → Ev → Option Ev} {F : Ev → Out} {fb : Ev → R Bool}
theorem vs_for (hp : PassesOwn (model X.prog X.w) X.A X.env X.xe) (hc : X.calm = true) (hi : VI X W tg iter fi) (hg : VG X tg ts g) (hb : VSs X W body F)
    (hs : ∀ x, foldedSetIterable iter X.env x = pure x := by intro _; rfl) : VS X W (.For tg iter body [] pos) (sFor fi g F) := by
  refine PS.imp (ps_for hp hc hi hg hb hs) fun En σ H ⟨S, G, Hs, ρ, r, h⟩ => ?_
  refine ⟨S, G, Hs, ρ, r, (lift_post r h).imp fun l Hs1 H1 e q J hJ => ?_⟩
  refine ⟨fun i m σ' H' => m = l.length - i ∧ i ≤ l.length ∧ ∃ Hs2 ρ2, Same Hs1 Hs2 ∧ RelE X.K S G Hs2 H' σ' ρ2 ∧ OutOk X.K X.mg W S G Hs2 En (forO (gTo g F) (l.drop i) ρ2),
    ⟨l.length, by simp, Nat.zero_le _, Hs1, ρ, .refl _, r.step e, q⟩, ?_⟩
  rintro i m σ' H' ⟨rfl, hi, Hs2, ρ2, g2, r2, q2⟩
  obtain ⟨j1, j2⟩ := hJ i Hs2 H' g2 r2.sub
  by_cases hl : i < l.length
  · obtain ⟨j1, j3⟩ := j1 l[i] (List.getElem?_eq_getElem hl)
    rw [List.drop_eq_getElem_cons hl] at q2
    refine .inr ⟨j1, fun σ3 H3 => ∃ Hs3 ρ3, Same Hs1 Hs3 ∧ RelE X.K S G Hs3 H3 σ3 ρ3 ∧ OutOk X.K X.mg W S G Hs3 En (forO (gTo g F) (l.drop (i + 1)) ρ3), fun σ3 H3 ⟨Hs3, ρ3, a1, a2, a3⟩ => ⟨_, (by omega : l.length - (i + 1) < l.length - i), rfl, hl, Hs3, ρ3, a1, a2, a3⟩, fun x H3 y => ?_⟩
    obtain ⟨Hs3, e3, d3⟩ := j3 x H3 y
    unfold forO gTo at q2
    cases z : g l[i] ρ2 with
    | none => rw [z] at q2; exact q2.elim
    | some ρ3 =>
      rw [z] at q2
      refine ⟨S, G, Hs3, ρ2, l[i], ρ3, r2.step e3, d3, z, fun σ4 _ _ r4 => ⟨S, G, Hs3, ρ3, r4, ?_⟩⟩
      have g3 := g2.trans e3.grow
      cases z2 : F ρ3 with
      | nx ρ' => simp only [z2] at q2; exact fun Hs' H' σ' a b => ⟨Hs', ρ', g3.trans a, b, q2.up (e3.grow.trans a)⟩
      | ct ρ' => simp only [z2] at q2; exact fun Hs' H' σ' a b => ⟨Hs', ρ', g3.trans a, b, q2.up (e3.grow.trans a)⟩
      | bk ρ' => simp only [z2] at q2; exact fun Hs' H' σ' a b => q2 Hs' H' σ' (e3.grow.trans a) b
      | rt r => simp only [z2] at q2; exact q2
      | rtB r ρ' => simp only [z2] at q2; exact OutOk.up (o := .rtB r ρ') q2 e3.grow
      | ex x ρ' => simp only [z2] at q2; exact fun Hs' H' σ' cls dd a => q2 Hs' H' σ' cls dd (e3.grow.trans a)
      | bad => simp only [z2] at q2; exact q2.elim
  · have e0 : i = l.length := by omega
    subst e0
    rw [List.drop_length] at q2
    exact .inl ⟨j2 (Nat.le_refl _), q2 Hs2 H' σ' (.refl _) r2⟩
theorem vs_while (hp : PassesOwn (model X.prog X.w) X.A X.env X.xe) (hc : VT X W c fb) (hb : VSs X W body F) : VS X W (.While c body [] pos) (sWhile fb F) := by
  refine PS.imp (ps_while hp hc hb) fun En σ H ⟨S, G, Hs, ρ, r, h⟩ => ?_
  obtain ⟨n, h⟩ := sWhile_ok h
  refine ⟨fun m σ' H' => ∃ Hs2 ρ2, RelE X.K S G Hs2 H' σ' ρ2 ∧ OutOk X.K X.mg W S G Hs2 En (whileO fb F m ρ2), ⟨n, Hs, ρ, r, h⟩, ?_⟩
  rintro m σ' H' ⟨Hs2, ρ2, r2, q2⟩
  cases m with
  | zero => exact q2.elim
  | succ m =>
    refine ⟨S, G, Hs2, ρ2, r2, (lift_post r2 q2).imp fun b Hs3 H3 e q => ?_⟩
    cases b with
    | false => exact q Hs3 H3 σ' (.refl _) (r2.step e)
    | true =>
      simp only [if_true] at q ⊢
      refine ⟨fun σ4 H4 => ∃ Hs4 ρ4, RelE X.K S G Hs4 H4 σ4 ρ4 ∧ OutOk X.K X.mg W S G Hs4 En (whileO fb F m ρ4), fun σ4 H4 a => ⟨m, Nat.lt_succ_self m, a⟩, S, G, Hs3, ρ2, r2.step e, ?_⟩
      cases z2 : F ρ2 with
      | nx ρ' => simp only [z2] at q; exact fun Hs' H' σ' a b => ⟨Hs', ρ', b, q.up a⟩
      | ct ρ' => simp only [z2] at q; exact fun Hs' H' σ' a b => ⟨Hs', ρ', b, q.up a⟩
      | bk ρ' => simp only [z2] at q; exact q
      | rt r => simp only [z2] at q; exact q
      | rtB r ρ' => simp only [z2] at q; exact q
      | ex x ρ' => simp only [z2] at q; exact q
      | bad => simp only [z2] at q; exact q.elim
end
end VL

set_option Elab.async false
set_option linter.all false
set_option maxRecDepth 100000
set_option autoImplicit false
namespace VL
open PySem PySem.Spec PyProof.Rows L2

/-! ### list comprehensions -/
abbrev WF : WX := fun _ _ _ _ => False
def wipeE (ρ : Ev) : List Nat → Ev
  | [] => ρ
  | v :: vs => (wipeE ρ vs).set v .no
theorem RelE.wipe {K : Fg} {S Hs H : Hp} {G : Gx} {σ : Sg} {ρ : Ev} (r : RelE K S G Hs H σ ρ) : ∀ vs : List Nat, RelE K S G Hs H (wipe σ vs) (wipeE ρ vs)
  | [] => r
  | v :: vs => (RelE.wipe r vs).setNo
theorem wipe_get {σ : Sg} {j : Nat} : ∀ {vs : List Nat}, j < σ.length → (wipe σ vs)[j]? = if j ∈ vs then some none else σ[j]?
  | [], h => by simp [L2.wipe]
  | v :: vs, h => by
    unfold L2.wipe
    by_cases e : v = j
    · subst e
      rw [List.getElem?_set_self (by rw [wipe_length]; exact h), if_pos List.mem_cons_self]
    · rw [List.getElem?_set_ne e, wipe_get h]
      by_cases m : j ∈ vs
      · rw [if_pos m, if_pos (List.mem_cons_of_mem _ m)]
      · rw [if_neg m, if_neg (by simp only [List.mem_cons, not_or]; exact ⟨fun z => e z.symm, m⟩)]
theorem wipe_same {σ σ' : Sg} {vs ts : List Nat} (hl : σ'.length = (wipe σ vs).length) (hj : ∀ j, j ∉ ts → σ'[j]? = (wipe σ vs)[j]?) (ht : ∀ t ∈ ts, t ∈ vs) : wipe σ' vs = wipe σ vs := by
  rw [wipe_length] at hl
  apply List.ext_getElem?
  intro j
  by_cases h : j < σ.length
  · rw [wipe_get h, wipe_get (by omega)]
    by_cases m : j ∈ vs
    · rw [if_pos m, if_pos m]
    · rw [if_neg m, if_neg m, hj j (fun z => m (ht j z)), wipe_get h, if_neg m]
  · rw [List.getElem?_eq_none (by rw [wipe_length]; omega), List.getElem?_eq_none (by rw [wipe_length]; omega)]

theorem Ext.updNew {Hs H Hs' H' : Hp} {p : Addr} {o : HO} (e : Ext Hs H Hs' H') (h0 : H p = none) (h1 : Hs' p = none) : Ext Hs H Hs' (upd H' p o) where
  sub := fun b u q => by rw [upd_ne (ne_of_none q h1)]; exact e.sub b u q
  same := fun b u q => by rw [upd_ne (ne_of_none q h0)]; exact e.same b u q
  grow := e.grow
  fresh := e.fresh
theorem Ext.hidden {Hs H Hs' H' : Hp} {p : Addr} {o : HO} (e : Ext Hs H Hs' H') (h0 : Hs p = none) (h1 : H p = some o) : Hs' p = none := by
  cases q : Hs' p with
  | none => rfl
  | some u =>
    have := e.fresh p u q h0
    rw [h1] at this; cases this

def compR (step : D → R (Option D)) : List D → R (List D)
  | [] => .ok []
  | d :: ds => (step d).bind fun o => (compR step ds).bind fun r => .ok (match o with | some y => y :: r | none => r)
def compS (vs : List Nat) (g : D → Ev → Option Ev) (ft : Ev → R Bool) (fe : Ev → R D) (ρ : Ev) : D → R (Option D) := fun d => match g d (wipeE ρ vs) with
  | some ρ' => (noex (ft ρ')).bind fun b => if b then (noex (fe ρ')).bind fun y => .ok (some y) else .ok none
  | none => .bad
def eComp (vs : List Nat) (fi : Ev → R (List D)) (g : D → Ev → Option Ev) (ft : Ev → R Bool) (fe : Ev → R D) : Ev → R (List D) := fun ρ => (fi ρ).bind fun l => if l.length ≤ sizeLine then compR (compS vs g ft fe ρ) l else .bad
def VTs (X : Cx) (W : WX) (ifs : List Expr) (f : Ev → R Bool) : Prop := PTs X ifs (tT X.K X.mg W f)
theorem PTs.imp {X : Cx} {ifs : List Expr} {t t' : TT} (h : PTs X ifs t) (i : ∀ σ H Q, t' σ H Q → t σ H Q) : PTs X ifs t' := ⟨fun pins s σ H Q I q => h.run pins s σ H Q I (i σ H Q q)⟩
section
variable {X : Cx} {W : WX} {c : Expr} {fb : Ev → R Bool}
theorem vts_nil : VTs X W [] (cst true) := PTs.imp pts_nil fun σ H Q ⟨S, G, Hs, ρ, r, p⟩ => p.now r.sub
end
theorem noex_ok {α : Type} (a : α) : noex (.ok a : R α) = .ok a := rfl
theorem noex_cases {α β : Type} {r : R α} {k : α → R β} {K : Fg} {mg : Str → Option Value} {W : WX} {Hs H : Hp} {σ : Sg} {P : β → Hp → Hp → Prop} (h : Post K mg W Hs H σ ((noex r).bind k) P) : ∃ a, r = .ok a := by
  cases r with
  | ok a => exact ⟨a, rfl⟩
  | ex x => exact h.elim
  | bad => exact h.elim
theorem bind_assoc {α β γ : Type} (r : R α) (f : α → R β) (g : β → R γ) : (r.bind f).bind g = r.bind fun a => (f a).bind g := by cases r <;> rfl

theorem sim_comp {K : Fg} {mg : Str → Option Value} {W : WX} {vs ts : List Nat} {fi : Ev → R (List D)} {g : D → Ev → Option Ev} {ft : Ev → R Bool} {fe : Ev → R D} (ht : ∀ t ∈ ts, t ∈ vs) :
    ∀ σ H Q, tO K mg W (eComp vs fi g ft fe) σ H Q → tLc (tIt K mg W fi) (tGt K ts g) (tT K mg WF ft) (tE K mg WF fe) vs σ H Q := fun σ H Q ⟨S, G, Hs, ρ, r, p⟩ => by
  refine ⟨S, G, Hs, ρ, r, (Post.bind p).imp fun l Hs1 H1 e1 q J hJ Dd hD => ?_⟩
  by_cases hz : l.length ≤ sizeLine
  case neg => rw [if_neg hz] at q; exact q.elim
  rw [if_pos hz] at q
  refine ⟨fun i m H' => m = l.length - i ∧ i ≤ l.length ∧ ∃ Hs2 acc ws, Ext Hs1 H1 Hs2 H' ∧ Hs2 Dd = none ∧ H' Dd = some (.lst ws) ∧ RpL K Hs2 acc ws ∧ acc.length ≤ i ∧
      Post K mg W Hs1 H1 σ ((compR (compS vs g ft fe ρ) (l.drop i)).bind fun r => .ok (acc ++ r)) (fun l Hs' H' => ∀ p vs, H p = none → Hs' p = none → H' p = some (.lst vs) → RpL K Hs' l vs → Q (.ref p) H'),
    ⟨l.length, by simp, Nat.zero_le _, Hs1, [], [], Ext.hid e1.sub hD, e1.sub.free hD, upd_same, .nil, Nat.le_refl _, ?_⟩, ?_⟩
  · rw [List.drop_zero]
    cases z : compR (compS vs g ft fe ρ) l with
    | ok a => rw [z] at q; exact q
    | ex x => rw [z] at q; exact q
    | bad => rw [z] at q; exact q
  · rintro i m H' ⟨rfl, hi, Hs2, acc, ws, e2, d1, d2, d3, d4, q2⟩
    obtain ⟨j1, j2⟩ := hJ i Hs2 H' e2.grow e2.sub
    by_cases hl : i < l.length
    · obtain ⟨j1, j3⟩ := j1 l[i] (List.getElem?_eq_getElem hl)
      rw [List.drop_eq_getElem_cons hl] at q2
      refine .inr ⟨j1, fun H3 => ∃ Hs2 acc ws, Ext Hs1 H1 Hs2 H3 ∧ Hs2 Dd = none ∧ H3 Dd = some (.lst ws) ∧ RpL K Hs2 acc ws ∧ acc.length ≤ i + 1 ∧
        Post K mg W Hs1 H1 σ ((compR (compS vs g ft fe ρ) (l.drop (i + 1))).bind fun r => .ok (acc ++ r)) (fun l Hs' H' => ∀ p vs, H p = none → Hs' p = none → H' p = some (.lst vs) → RpL K Hs' l vs → Q (.ref p) H'),
        fun H3 ⟨Hs3, acc', ws', a⟩ => ⟨_, (by omega : l.length - (i + 1) < l.length - i), rfl, hl, Hs3, acc', ws', a⟩, fun x H3 y => ?_⟩
      obtain ⟨Hs3, e3, h3⟩ := j3 x H3 y
      unfold compR at q2
      rw [bind_assoc] at q2
      unfold compS at q2
      cases z : g l[i] (wipeE ρ vs) with
      | none => simp only [z] at q2; exact q2.elim
      | some ρ' =>
        simp only [z] at q2
        rw [bind_assoc] at q2
        have r3 : RelE K S G Hs3 H3 (wipe σ vs) (wipeE ρ vs) := (((r.step e1).step e2).step e3).wipe vs
        refine ⟨S, G, Hs3, wipeE ρ vs, l[i], ρ', r3, h3, z, fun σ' s1 s2 r4 => ⟨wipe_same s1 s2 ht, S, G, Hs3, ρ', r4, ?_⟩⟩
        obtain ⟨b, z1⟩ := noex_cases q2
        rw [z1] at q2 ⊢
        intro Hs5 H5 e5
        cases b with
        | false =>
          simp only [Bool.false_eq_true, if_false]
          have e6 := (e2.trans e3).trans e5
          have k1 := (e3.trans e5).hidden d1 d2
          refine ⟨Hs5, acc, ws, e6, k1, e5.same _ _ (e3.same _ _ d2), (d3.mono e3.grow).mono e5.grow, by omega, ?_⟩
          simp only [noex, bind_ok, Bool.false_eq_true, if_false, bind_assoc] at q2
          exact q2
        | true =>
          simp only [if_true]
          have q3 := q2
          simp only [noex_ok, bind_ok, if_true, bind_assoc] at q3
          obtain ⟨y, z2⟩ := noex_cases q3
          refine ⟨S, G, Hs5, ρ', r4.step e5, ?_⟩
          rw [z2] at q3 ⊢
          intro Hs6 H6 e6 v hv
          have e7 := (e3.trans e5).trans e6
          have k1 := e7.hidden d1 d2
          have k2 := e7.same _ _ d2
          have k3 := d3.mono e7.grow
          refine ⟨ws, k2, by rw [← d3.length]; omega, Hs6, acc ++ [y], ws ++ [v], (e2.trans e7).updNew hD k1, k1, upd_same, k3.append (.cons hv .nil), by rw [List.length_append, List.length_singleton]; omega, ?_⟩
          simp only [noex_ok, bind_ok] at q3
          simp only [List.append_assoc, List.singleton_append]
          exact q3
    · have e0 : i = l.length := by omega
      subst e0
      rw [List.drop_length] at q2
      unfold compR at q2
      simp only [bind_ok, List.append_nil] at q2
      exact .inl ⟨j2 (Nat.le_refl _), q2 Hs2 H' e2 Dd ws (e1.same.free hD) d1 d2 d3⟩

section
variable {X : Cx} {W : WX} {elt tg iter : Expr} {ifs : List Expr} {scope : Scope} {own : List (Str × Nat)} {pos : Pos} {ts : List Nat} {fi : Ev → R (List D)} {g : D → Ev → Option Ev} {ft : Ev → R Bool} {fe : Ev → R D}
theorem vo_comp (hc : X.calm = true) (hN : X.N.Nodup) (hi : VI X W tg iter fi) (ok : BlkOk X.N X.env.scope scope own)
    (hg : ∀ (s : Shared) (H : Hp) (C : Addr) (cl : List (Str × Addr)) (fp : List Addr), VG (X.blk s H scope (compEnvC scope cl C X.env) fp) tg ts g)
    (ht : ∀ (s : Shared) (H : Hp) (C : Addr) (cl : List (Str × Addr)) (fp : List Addr), VTs (X.blk s H scope (compEnvC scope cl C X.env) fp) WF ifs ft)
    (he : ∀ (s : Shared) (H : Hp) (C : Addr) (cl : List (Str × Addr)) (fp : List Addr), VE (X.blk s H scope (compEnvC scope cl C X.env) fp) WF elt fe)
    (hts : ∀ t ∈ ts, t ∈ own.map (·.2) := by decide) (hs : ∀ x, foldedSetIterable iter X.env x = pure x := by intro _; rfl) :
    VO X W (.ListComp elt [⟨tg, iter, ifs, 0⟩] scope pos) (eComp (own.map (·.2)) fi g ft fe) := PE.imp (pe_lc (g := tGt X.K ts g) (tt := tT X.K X.mg WF ft) (te := tE X.K X.mg WF fe) hc hN hi ok hg ht he hs) (sim_comp hts)
theorem sim_asgO {f : Ev → R (List D)} {K : Fg} {mg : Str → Option Value} {i : Nat} {t : TE} (h : ∀ σ H Q, tO K mg W f σ H Q → t σ H Q) : ∀ En σ H, tS K mg W (sSetO i f) En σ H → tAsg t (gName i) En σ H := fun En σ H q => h σ H _ (sim_setO En σ H q)
theorem vs_compO {i : Nat} {y : Str} {py spos : Pos} (hc : X.calm = true) (hN : X.N.Nodup) (hy : X.N[i]? = some y) (hyl : X.env.scope.names.lookup y = some .local)
    (hsw : swapsWith (.ListComp elt [⟨tg, iter, ifs, 0⟩] scope pos) (some (.Name y py)) spos.line X.env = pure true) (hi : VI X W tg iter fi) (ok : BlkOk X.N X.env.scope scope own)
    (hg : ∀ (s : Shared) (H : Hp) (C : Addr) (cl : List (Str × Addr)) (fp : List Addr), VG (X.blk s H scope (compEnvC scope cl C X.env) fp) tg ts g)
    (ht : ∀ (s : Shared) (H : Hp) (C : Addr) (cl : List (Str × Addr)) (fp : List Addr), VTs (X.blk s H scope (compEnvC scope cl C X.env) fp) WF ifs ft)
    (he : ∀ (s : Shared) (H : Hp) (C : Addr) (cl : List (Str × Addr)) (fp : List Addr), VE (X.blk s H scope (compEnvC scope cl C X.env) fp) WF elt fe)
    (hts : ∀ t ∈ ts, t ∈ own.map (·.2) := by decide) (hs : ∀ x, foldedSetIterable iter X.env x = pure x := by intro _; rfl) :
    VS X W (.Assign [.Name y py] (.ListComp elt [⟨tg, iter, ifs, 0⟩] scope pos) spos) (sSetO i (eComp (own.map (·.2)) fi g ft fe)) := PS.imp (ps_setLc (g := tGt X.K ts g) (tt := tT X.K X.mg WF ft) (te := tE X.K X.mg WF fe) hc hN hy hyl hsw hi ok hg ht he hs) (sim_asgO (sim_comp hts))
end

/-! ### defs, calls -/
/-- the promise of a def that computes f -/
def spD (K : Fg) (mg : Str → Option Value) (n : Nat) (f : List D → R SD) : Sp := fun vs H Q E => vs.length = n ∧ ∃ Hs ds, Same Hs H ∧ RpL K Hs ds vs ∧ (match f ds with
  | .ok r => ∀ Hs' H' v, Ext Hs H Hs' H' → RpO K H Hs' H' r v → Q v H'
  | .ex x => ∀ Hs' H' cls dd, Ext Hs H Hs' H' → XRp K mg H' x cls dd → E cls dd H'
  | .bad => False)
def startE (n : Nat) (ds : List D) : Ev := ds.map .sh ++ List.replicate (n - ds.length) .no
def runD (np n : Nat) (F : Ev → Out) : List D → R SD := fun ds => if ds.length = np then match F (startE n ds) with
  | .nx _ => .ok (.sh .none)
  | .rt r => .ok r
  | .ex x _ => .ex x
  | _ => .bad
  else .bad
theorem startE_rel {K : Fg} {N : List Str} {Hs H : Hp} {ds : List D} {vs : List V} (hl : vs.length ≤ N.length) (hs : Same Hs H) (r : RpL K Hs ds vs) : RelE K Hs ⟨H, fun _ => none⟩ Hs H (L2.start N vs) (startE N.length ds) where
  sub := hs
  old := .refl _
  ext := .refl _
  new := fun p o a b => by rw [a] at b; cases b
  len := by
    have := r.length
    simp [L2.start, startE, this]
  slot := fun i s hi => by
    unfold startE at hi
    have hl2 := r.length
    by_cases h : i < ds.length
    · rw [List.getElem?_append_left (by simpa using h), List.getElem?_map] at hi
      obtain ⟨d, e1, rfl⟩ := Option.map_eq_some_iff.mp hi
      obtain ⟨v, e2, e3⟩ := r.get e1
      refine ⟨v, ?_, e3⟩
      unfold L2.start
      rw [List.getElem?_append_left (by simp; omega), List.getElem?_map, e2]
      rfl
    · rw [List.getElem?_append_right (by simpa using h), List.getElem?_replicate] at hi
      split at hi
      · cases hi; trivial
      · cases hi
  dis := fun i j l m p a b _ _ => by
    exfalso
    unfold startE at a
    by_cases h : i < ds.length
    · rw [List.getElem?_append_left (by simpa using h), List.getElem?_map] at a
      obtain ⟨d, e1, e2⟩ := Option.map_eq_some_iff.mp a
      cases e2
    · rw [List.getElem?_append_right (by simpa using h), List.getElem?_replicate] at a
      split at a <;> cases a
  bor := fun _ p hp => by cases hp
  one := fun _ _ _ hp => by cases hp
section
variable {P : Program} {w : World} {K : Fg} {mg : Str → Option Value} {base : Heap}
theorem FnScope.le {N ps : List Str} {sc : Scope} (S : FnScope N ps sc) : ps.length ≤ N.length := by
  have h := congrArg List.length S.pre
  rw [List.length_take] at h
  omega
/-- a promise kept where no guard stands around -/
structure FnG (P : Program) (w : World) (K : Fg) (mg : Str → Option Value) (base : Heap) (k : Nat) (f : Addr) (fd : FuncData) (ps : List Str) (sp : Sp) : Prop where
  len : ∀ vs H Q E, sp vs H Q E → vs.length = ps.length
  run : ∀ (A : Around) (outer : List Env) (s : Shared) (H : Hp) (args : Args) (us : List Value) (vs : List V) (Q : VK) (E : XK), Room k A → A.guards = some [] → Env0 P w K mg base A outer s H → BindsTo s fd args (ps.zip us) → Vals vs us → sp vs H Q E →
    codeAny (model P w) A (.call (.ref f) args) (CR (L2.CX P w) outer P w H s Q E) s
theorem fn_ofG {k : Nat} {f : Addr} {name qual : Str} {params : Arguments} {body : List Stmt} {scope : Scope} {dV kV doc pm cdv ct oc : Value} {an od : Option Addr}
    {osl : Array (Option Value)} {N ps : List Str} {sp : Sp} (lk : K.lookup f = some ⟨oc, od, .func (PySem.W.fnOf name qual params body scope dV kV doc pm an cdv ct), osl⟩) (hcd : PySem.W.codeIn K cdv qual = true) (S : FnScope N ps scope)
    (len : ∀ vs H Q E, sp vs H Q E → vs.length = ps.length)
    (hbody : ∀ (A : Around) (outer : List Env) (s : Shared) (H : Hp) (vs : List V) (Q : VK) (E : XK), Room k (A.deeper (envOfC qual scope s.heap.objs.size f cdv)) → A.guards = some [] → sp vs H Q E →
      ∃ t, PSs (cxOf (L2.CX P w) P w K mg base N qual scope f cdv A outer s H E) body t ∧ t { nx := fun _ H' => Q .non H', rt := Q } (L2.start N vs) H) :
    FnG P w K mg base (k + 1) f (PySem.W.fnOf name qual params body scope dV kV doc pm an cdv ct) ps sp := by
  refine ⟨len, fun A outer s H args us vs Q E hr hgd e0 hb r hsp => ?_⟩
  have hl := len _ _ _ _ hsp
  have KX : K.In s.heap := e0.mod.kin.keeps fun b o e => (e0.bs b o e).1
  have lim : s.heap.NoLimit := e0.mod.nolimit.keeps fun b o e => (e0.bs b o e).1
  have hkind : ∀ y ∈ ps.zip us, scope.names.lookup y.1 = some .local ∨ (scope.names.lookup y.1 = some .cell ∧ ((cellsFrom (s.heap.objs.size + 1) scope.names []).lookup y.1).isSome = true) := fun ⟨n, v⟩ hy => by
    rcases S.par n (List.of_mem_zip hy).1 with q | q
    · exact .inl q
    · exact .inr ⟨q, PySem.W.cellsFrom_some _ _ _ (.inl q)⟩
  refine codeAny_call_function hr.depth (KX _ _ lk) rfl S.co S.gen rfl (PySem.W.codeRec_of KX hcd) (hb _ _ _ _ ?_)
  refine wpAny_newFunctionEnv_cells S.kind hkind fun env he s1 x => ?_
  subst he
  refine ⟨lim.keeps x.toInCall.keep, codeAny_func ?_⟩
  obtain ⟨t, ht, hq⟩ := hbody A outer s H vs Q E (hr.deeper _) hgd hsp
  have I : Inv (cxOf (L2.CX P w) P w K mg base N qual scope f cdv A outer s H E) [] (L2.start N vs) H s1 := inv_start S hr.hd e0 hl r x
  refine wpAny_mono (ht.run [] s1 (L2.start N vs) H _ I hq) (fun fl s' hs => ?_) fun e s' hs => hs
  have fin : ∀ {σ' : Sg} {H' : Hp} {v : V} {u : Value}, Inv (cxOf (L2.CX P w) P w K mg base N qual scope f cdv A outer s H E) [] σ' H' s' → RelV v u → Q v H' → CE outer P w H s Q u s' :=
    fun {σ' H' v u} J rv q => ⟨v, H', J.os, J.bare, J.base, J.hok, rv, q⟩
  cases fl with
  | ret u =>
    obtain ⟨v, σ', H', J, rv, q⟩ := hs
    exact fin J rv q
  | next =>
    obtain ⟨σ', H', J, q⟩ := hs
    exact fin (v := V.non) (u := Value.none) J rfl q
  | brk =>
    obtain ⟨_, _, _, q⟩ := hs
    exact False.elim q
  | cont =>
    obtain ⟨_, _, _, q⟩ := hs
    exact False.elim q
theorem FnG.imp {k : Nat} {f : Addr} {fd : FuncData} {ps : List Str} {sp sp' : Sp} (F : FnG P w K mg base k f fd ps sp) (h : ∀ vs H Q E, sp' vs H Q E → sp vs H Q E) : FnG P w K mg base k f fd ps sp' :=
  ⟨fun vs H Q E q => F.len vs H Q E (h _ _ _ _ q), fun A outer s H args us vs Q E hr hg he hb hv hs => F.run A outer s H args us vs Q E hr hg he hb hv (h _ _ _ _ hs)⟩
theorem FnG.mono {j k : Nat} {f : Addr} {fd : FuncData} {ps : List Str} {sp : Sp} (F : FnG P w K mg base j f fd ps sp) (h : j ≤ k) : FnG P w K mg base k f fd ps sp :=
  ⟨F.len, fun A outer s H args us vs Q E hr => F.run A outer s H args us vs Q E (hr.mono h)⟩
/-- a def that computes m on data -/
structure DOk (P : Program) (w : World) (K : Fg) (mg : Str → Option Value) (base : Heap) (k : Nat) (f : Addr) (fd : FuncData) (ps : List Str) (m : List D → R SD) : Prop where
  fn : FnG P w K mg base k f fd ps (spD K mg ps.length m)
  ar : ∀ ds, m ds ≠ .bad → ds.length = ps.length
/-- the room, the guards, what takes an exception, what passes -/
structure Inn (X : Cx) (W : WX) (k : Nat) : Prop where
  hr : Room k X.A
  gd : X.A.guards = some []
  tk : Takes X W
  hp : PassesOwn (model X.prog X.w) X.A X.env X.xe
/-- THE RULE for a def -/
theorem def_ok {x qual : Str} {st : Stmt} {f : Addr} {fd : FuncData} {N ps : List Str} {k : Nat} {F : Ev → Out} (Fn : Fun K x qual st f fd) (S : FnScope N ps (defScope st))
    (body : ∀ (cdv : Value) (A : Around) (outer : List Env) (s : Shared) (H : Hp) (E : XK), Inn (cxOf (L2.CX P w) P w K mg base N qual (defScope st) f cdv A outer s H E) (fun cls d _ H => E cls d H) k →
      VSs (cxOf (L2.CX P w) P w K mg base N qual (defScope st) f cdv A outer s H E) (fun cls d _ H => E cls d H) (defBody st) F) :
    DOk P w K mg base (k + 1) f fd ps (runD ps.length N.length F) := by
  refine ⟨?_, fun ds h => ?_⟩
  · obtain ⟨oc, od, kV, doc, pm, an, cdv, ct, osl, rfl, lk, hcd⟩ := Fn.ex
    refine fn_ofG lk hcd S (fun vs H Q E h => h.1) fun A outer s H vs Q E hr hgd h => ⟨_, body cdv A outer s H E ⟨hr, hgd, takes_of rfl rfl rfl rfl, passes_of rfl⟩, ?_⟩
    obtain ⟨hl, Hs, ds, hs, hds, h⟩ := h
    refine ⟨Hs, ⟨H, fun _ => none⟩, Hs, _, startE_rel (by rw [hl]; exact VL.FnScope.le S) hs hds, ?_⟩
    unfold runD at h
    rw [if_pos (hds.length.trans hl)] at h
    show OutOk K mg (fun cls d _ H => E cls d H) Hs ⟨H, fun _ => none⟩ Hs _ (F (startE N.length ds))
    cases z : F (startE N.length ds) with
    | nx ρ =>
      rw [z] at h
      exact fun Hs' H' σ' g r => h Hs' H' .non r.ext' .non
    | rt r =>
      rw [z] at h
      exact fun Hs' H' v e hv => h Hs' H' v e hv
    | ex x ρ =>
      rw [z] at h
      exact fun Hs' H' σ' cls dd g r hx => h Hs' H' cls dd r.ext' hx
    | rtB r ρ => rw [z] at h; exact h.elim
    | bk ρ => rw [z] at h; exact h.elim
    | ct ρ => rw [z] at h; exact h.elim
    | bad => rw [z] at h; exact h.elim
  · unfold runD at h
    split at h
    · assumption
    · exact (h rfl).elim
theorem DOk.mono {j k : Nat} {f : Addr} {fd : FuncData} {ps : List Str} {m : List D → R SD} (F : DOk P w K mg base j f fd ps m) (h : j ≤ k) : DOk P w K mg base k f fd ps m := ⟨F.fn.mono h, F.ar⟩
end
section
variable {X : Cx} {k : Nat} {f : Addr} {fd : FuncData} {ps : List Str} {sp : Sp} {E : Sg → XK} {x : Str} {p pos : Pos} {e : Expr} {es : List Expr} {t : TA}
theorem run_fnG {pins : List (Addr × Obj)} {σ : Sg} {H : Hp} {s : Shared} {Q : VK} {us : List Value} {vs : List V} (F : FnG X.prog X.w X.K X.mg X.base k f fd ps sp) (hr : Room k X.A) (hgd : X.A.guards = some []) (hb : Binds X.K fd ps []) (hx : PassesAt (L2.CX X.prog X.w) X σ (E σ))
    (I : Inv X pins σ H s) (r : Vals vs us) (h : sp vs H Q (E σ)) : wpAny (model X.prog X.w) X.A (call (.ref f) us) (EP X pins σ Q) X.xe s := by
  have hl : us.length = ps.length := by rw [← r.length]; exact F.len _ _ _ _ h
  have b := hb s us I.kIn (by rw [List.append_nil]; exact hl)
  rw [List.append_nil] at b
  refine wpAny_call (codeAny_mono (F.run X.A X.stack s H ⟨us, []⟩ us vs Q (E σ) hr hgd I.env0 b r h) fun r s' hq => ?_)
  cases r with
  | error e => exact hx pins H s e s' I hq
  | ok fl =>
    cases fl with
    | ret u => exact I.after hq
    | next => exact False.elim hq
    | brk => exact False.elim hq
    | cont => exact False.elim hq
theorem pe_callG (F : FnG X.prog X.w X.K X.mg X.base k f fd ps sp) (hr : Room k X.A) (hgd : X.A.guards = some []) (hg : Gl X x) (hm : X.mg x = some (.ref f)) (hk : PySem.W.keepIn X.K (.ref f) = true) (hb : Binds X.K fd ps []) (hx : ∀ σ, PassesAt (L2.CX X.prog X.w) X σ (E σ))
    (ha : PA X (e :: es) t) (hdb : (x == ("__debug__" : Str)) = false := by decide) (he : starEach (e :: es) X.env = (false, eval e X.env) :: starEach es X.env := by rfl) (hpl : (backTo pos (starEach es X.env)).any (·.1) = false := by rfl) :
    PE X (.Call (.Name x p) (e :: es) [] pos) (tCallS sp E t) := by
  refine ⟨fun pins s σ H Q I h => ?_⟩
  refine wpAny_Call_Name_kw (ld_glob I hg hm ?_ hdb)
  refine PySem.W.callWith_K (h₀ := X.base) I.ok.mod.kin hk (thn (ha.run pos pins s σ H _ I h) fun us s1 ⟨vs, H1, I1, r, q⟩ => ⟨I1.kIn, ?_⟩) he hpl
  exact run_fnG F hr hgd hb (hx σ) I1 r q
end
/-- what a call gives: shared data -/
def toD : SD → Option D
  | .sh d => some d
  | .ow l => some (.list l)
  | _ => none
def toL : SD → Option (List D)
  | .ow l => some l
  | _ => none
def eCall (m : List D → R SD) (fl : Ev → R (List D)) : Ev → R D := fun ρ => (fl ρ).bind fun ds => (m ds).bind fun s => ofO (toD s)
def eCallO (m : List D → R SD) (fl : Ev → R (List D)) : Ev → R (List D) := fun ρ => (fl ρ).bind fun ds => (m ds).bind fun s => ofO (toL s)
section
variable {X : Cx} {W : WX} {e : Expr} {es : List Expr} {pos p : Pos} {x : Str} {fl : Ev → R (List D)} {k n : Nat} {f : Addr} {fd : FuncData} {ps : List Str} {m : List D → R SD}
theorem sim_call {K : Fg} {mg : Str → Option Value} {n : Nat} (vn : ∀ (ds : List D), m ds ≠ .bad → ds.length = n) : ∀ σ H Q, tE K mg W (eCall m fl) σ H Q → tCallS (spD K mg n m) (WE W) (tA K mg W fl) σ H Q := fun σ H Q ⟨S, G, Hs, ρ, r, p⟩ => by
  refine ⟨S, G, Hs, ρ, r, (Post.bind p).imp fun ds Hs1 H1 e q vs hv => ?_⟩
  have nb : m ds ≠ .bad := fun z => by rw [z] at q; exact q
  refine ⟨by rw [← hv.length]; exact vn ds nb, Hs1, ds, e.sub, hv, ?_⟩
  cases z : m ds with
  | bad => exact nb z
  | ex x => rw [z] at q; exact q
  | ok s =>
    rw [z] at q
    intro Hs' H' v e' hr
    cases s with
    | no => exact q.elim
    | bo l => exact q.elim
    | sh d => exact q Hs' H' e' v hr
    | ow l =>
      obtain ⟨p, us, rfl, h0, h1, h2, h3⟩ := hr
      have g : Same Hs' (upd Hs' p (.lst us)) := fun b u z => by rw [upd_ne (ne_of_none z h1)]; exact z
      exact q _ _ (e'.frz h0 h2 h1) _ (.lst (.inl (.inl upd_same)) (h3.mono g))
theorem sim_callO {K : Fg} {mg : Str → Option Value} {n : Nat} (vn : ∀ (ds : List D), m ds ≠ .bad → ds.length = n) : ∀ σ H Q, tO K mg W (eCallO m fl) σ H Q → tCallS (spD K mg n m) (WE W) (tA K mg W fl) σ H Q := fun σ H Q ⟨S, G, Hs, ρ, r, p⟩ => by
  refine ⟨S, G, Hs, ρ, r, (Post.bind p).imp fun ds Hs1 H1 e q vs hv => ?_⟩
  have nb : m ds ≠ .bad := fun z => by rw [z] at q; exact q
  refine ⟨by rw [← hv.length]; exact vn ds nb, Hs1, ds, e.sub, hv, ?_⟩
  cases z : m ds with
  | bad => exact nb z
  | ex x => rw [z] at q; exact q
  | ok s =>
    rw [z] at q
    intro Hs' H' v e' hr
    cases s with
    | no => exact q.elim
    | bo l => exact q.elim
    | sh d => exact q.elim
    | ow l =>
      obtain ⟨p, us, rfl, h0, h1, h2, h3⟩ := hr
      exact q _ _ e' p us (e.same.free h0) h1 h2 h3
theorem v_call (F : DOk X.prog X.w X.K X.mg X.base k f fd ps m) (hr : Room k X.A) (hgd : X.A.guards = some []) (hg : Gl X x) (hm : X.mg x = some (.ref f)) (hk : PySem.W.keepIn X.K (.ref f) = true) (hb : Binds X.K fd ps []) (tk : Takes X W)
    (ha : VA X W (e :: es) fl) (hdb : (x == ("__debug__" : Str)) = false := by decide) (he : starEach (e :: es) X.env = (false, eval e X.env) :: starEach es X.env := by rfl) (hpl : (backTo pos (starEach es X.env)).any (·.1) = false := by rfl) :
    VE X W (.Call (.Name x p) (e :: es) [] pos) (eCall m fl) := PE.imp (pe_callG F.fn hr hgd hg hm hk hb (passAt tk) ha hdb he hpl) (sim_call F.ar)
theorem v_callO (F : DOk X.prog X.w X.K X.mg X.base k f fd ps m) (hr : Room k X.A) (hgd : X.A.guards = some []) (hg : Gl X x) (hm : X.mg x = some (.ref f)) (hk : PySem.W.keepIn X.K (.ref f) = true) (hb : Binds X.K fd ps []) (tk : Takes X W)
    (ha : VA X W (e :: es) fl) (hdb : (x == ("__debug__" : Str)) = false := by decide) (he : starEach (e :: es) X.env = (false, eval e X.env) :: starEach es X.env := by rfl) (hpl : (backTo pos (starEach es X.env)).any (·.1) = false := by rfl) :
    VO X W (.Call (.Name x p) (e :: es) [] pos) (eCallO m fl) := PE.imp (pe_callG F.fn hr hgd hg hm hk hb (passAt tk) ha hdb he hpl) (sim_callO F.ar)
/-- a constant of the module's top -/
theorem v_glob {u : Value} {d : D} (hg : Gl X x) (hm : X.mg x = some u) (v : V) (r : RelV v u) (hd : ∀ H, Rp X.K H d v) (hdb : (x == ("__debug__" : Str)) = false := by decide) : VE X W (.Name x pos) (cst d) :=
  PE.imp (pe_glob hg hm r hdb) fun σ H Q ⟨S, G, Hs, ρ, r, p⟩ => p.now r.sub v (hd _)
end
end VL

set_option Elab.async false
set_option linter.all false
set_option maxRecDepth 100000
set_option autoImplicit false
namespace VL
open PySem PySem.Spec PyProof.Rows L2

/-! ### and, or, not as values; chains -/
def eAndV (f g : Ev → R D) : Ev → R D := fun ρ => (f ρ).bind fun x => (ofO (truD x)).bind fun k => if k then g ρ else .ok x
def eOrV (f g : Ev → R D) : Ev → R D := fun ρ => (f ρ).bind fun x => (ofO (truD x)).bind fun k => if k then .ok x else g ρ
def notD (x : D) : Option D := (truD x).map fun k => .bool (!k)
def eChain (F F' : D → D → Option D) (f g h : Ev → R D) : Ev → R D := fun ρ => (f ρ).bind fun x => (g ρ).bind fun y => (ofO (F x y)).bind fun r => (ofO (bOf r)).bind fun b => if b then (h ρ).bind fun z => ofO (F' y z) else .ok (.bool false)
section
variable {X : Cx} {W : WX} {a b c e : Expr} {rest : List Expr} {pos : Pos} {f g h : Ev → R D} {F F' : D → D → Option D}
theorem v_and1 (ha : VE X W a f) : VE X W (.BoolOp .And [a] pos) f := pe_one ha
theorem v_or1 (ha : VE X W a f) : VE X W (.BoolOp .Or [a] pos) f := pe_one ha
theorem v_and (ha : VE X W a f) (hb : VE X W (.BoolOp .And (b :: rest) pos) g) : VE X W (.BoolOp .And (a :: b :: rest) pos) (eAndV f g) := PE.imp (pe_andT ha hb) fun σ H Q ⟨S, G, Hs, ρ, r, p⟩ => by
  refine ⟨S, G, Hs, ρ, r, (Post.bind p).imp fun x Hs1 H1 e q v hv => ?_⟩
  cases z : truD x with
  | none => rw [z] at q; exact q.elim
  | some k =>
    rw [z] at q
    refine ⟨k, truV_of e.sub (.inl hv) z, ?_⟩
    cases k with
    | true => exact ⟨S, G, Hs1, ρ, r.step e, q⟩
    | false => exact q.now e.sub v hv
theorem v_or (ha : VE X W a f) (hb : VE X W (.BoolOp .Or (b :: rest) pos) g) : VE X W (.BoolOp .Or (a :: b :: rest) pos) (eOrV f g) := PE.imp (pe_orT ha hb) fun σ H Q ⟨S, G, Hs, ρ, r, p⟩ => by
  refine ⟨S, G, Hs, ρ, r, (Post.bind p).imp fun x Hs1 H1 e q v hv => ?_⟩
  cases z : truD x with
  | none => rw [z] at q; exact q.elim
  | some k =>
    rw [z] at q
    refine ⟨k, truV_of e.sub (.inl hv) z, ?_⟩
    cases k with
    | false => exact ⟨S, G, Hs1, ρ, r.step e, q⟩
    | true => exact q.now e.sub v hv
theorem v_not (ha : VP X W a f) : VE X W (.UnaryOp .Not a pos) (e1 notD f) := PE.imp (pe_notT ha) fun σ H Q ⟨S, G, Hs, ρ, r, p⟩ => by
  refine ⟨S, G, Hs, ρ, r, (Post.bind p).imp fun x Hs1 H1 e q v hv => ?_⟩
  unfold notD at q
  cases z : truD x with
  | none => rw [z] at q; exact q.elim
  | some k =>
    rw [z] at q
    exact ⟨k, truV_of e.sub hv z, q.now e.sub _ (.bl _)⟩
end

/-! ### a def of the text, as a callee sees it -/
structure Cl (P : Program) (w : World) (K : Fg) (mg : Str → Option Value) (base : Heap) (k : Nat) (x : Str) (ps : List Str) (m : List D → R SD) : Prop where
  ex : ∃ f fd, DOk P w K mg base k f fd ps m ∧ mg x = some (.ref f) ∧ PySem.W.keepIn K (.ref f) = true ∧ Binds K fd ps []
/-- where it stands -/
structure Df (K : Fg) (mg : Str → Option Value) (x : Str) (st : Stmt) (ps : List Str) : Prop where
  ex : ∃ f fd, Fun K x x st f fd ∧ mg x = some (.ref f) ∧ Binds K fd ps []
section
variable {P : Program} {w : World} {K : Fg} {mg : Str → Option Value} {base : Heap}
theorem Cl.mono {j k : Nat} {x : Str} {ps : List Str} {m : List D → R SD} (F : Cl P w K mg base j x ps m) (h : j ≤ k) : Cl P w K mg base k x ps m :=
  let ⟨f, fd, d, r⟩ := F.ex; ⟨f, fd, d.mono h, r⟩
theorem cl_ok {x : Str} {st : Stmt} {N ps : List Str} {k : Nat} {F : Ev → Out} (Fn : Df K mg x st ps) (S : FnScope N ps (defScope st))
    (body : ∀ (f : Addr) (cdv : Value) (A : Around) (outer : List Env) (s : Shared) (H : Hp) (E : XK), Inn (cxOf (L2.CX P w) P w K mg base N x (defScope st) f cdv A outer s H E) (fun cls d _ H => E cls d H) k →
      VSs (cxOf (L2.CX P w) P w K mg base N x (defScope st) f cdv A outer s H E) (fun cls d _ H => E cls d H) (defBody st) F) :
    Cl P w K mg base (k + 1) x ps (runD ps.length N.length F) := by
  obtain ⟨f, fd, h1, h2, h3⟩ := Fn.ex
  exact ⟨f, fd, def_ok h1 S fun cdv A outer s H E I => body f cdv A outer s H E I, h2, h1.kp, h3⟩
end
section
variable {X : Cx} {W : WX} {e : Expr} {es : List Expr} {pos p : Pos} {x : Str} {fl : Ev → R (List D)} {k j : Nat} {ps : List Str} {m : List D → R SD}
theorem v_calC (C : Cl X.prog X.w X.K X.mg X.base k x ps m) (hr : Room j X.A) (hgd : X.A.guards = some []) (tk : Takes X W) (ha : VA X W (e :: es) fl) (hg : Gl X x := by rfl) (hj : k ≤ j := by decide)
    (hdb : (x == ("__debug__" : Str)) = false := by decide) (he : starEach (e :: es) X.env = (false, eval e X.env) :: starEach es X.env := by rfl) (hpl : (backTo pos (starEach es X.env)).any (·.1) = false := by rfl) :
    VE X W (.Call (.Name x p) (e :: es) [] pos) (eCall m fl) := by
  obtain ⟨f, fd, h1, h2, h3, h4⟩ := C.ex
  exact v_call h1 (hr.mono hj) hgd hg h2 h3 h4 tk ha hdb he hpl
theorem v_calCO (C : Cl X.prog X.w X.K X.mg X.base k x ps m) (hr : Room j X.A) (hgd : X.A.guards = some []) (tk : Takes X W) (ha : VA X W (e :: es) fl) (hg : Gl X x := by rfl) (hj : k ≤ j := by decide)
    (hdb : (x == ("__debug__" : Str)) = false := by decide) (he : starEach (e :: es) X.env = (false, eval e X.env) :: starEach es X.env := by rfl) (hpl : (backTo pos (starEach es X.env)).any (·.1) = false := by rfl) :
    VO X W (.Call (.Name x p) (e :: es) [] pos) (eCallO m fl) := by
  obtain ⟨f, fd, h1, h2, h3, h4⟩ := C.ex
  exact v_callO h1 (hr.mono hj) hgd hg h2 h3 h4 tk ha hdb he hpl
end
end VL

set_option Elab.async false
set_option linter.all false
set_option maxRecDepth 100000
set_option autoImplicit false
namespace VL
open PySem PySem.Spec PyProof.Rows L2

theorem b_len : bootBuiltins "len" = some (.builtin "len") := by decide +kernel
theorem b_abs : bootBuiltins "abs" = some (.builtin "abs") := by decide +kernel
theorem b_max : bootBuiltins "max" = some (.builtin "max") := by decide +kernel
theorem b_isinstance : bootBuiltins "isinstance" = some (.builtin "isinstance") := by decide +kernel
theorem b_int : bootBuiltins "int" = some (.type "int") := by decide +kernel
theorem b_bool : bootBuiltins "bool" = some (.type "bool") := by decide +kernel
theorem b_list : bootBuiltins "list" = some (.type "list") := by decide +kernel
theorem u65 {k : Nat} {A : Around} (r : Room k A) : A.units + 65 < cLine := by have := r.un; omega
/-! ### constants of the top -/
structure Gc (K : Fg) (mg : Str → Option Value) (x : Str) (d : D) : Prop where
  ex : ∃ u v, mg x = some u ∧ RelV v u ∧ ∀ H, Rp K H d v
section
variable {X : Cx} {W : WX} {x : Str} {d : D} {pos : Pos}
theorem v_gl (G : Gc X.K X.mg x d) (hg : Gl X x := by rfl) (hdb : (x == ("__debug__" : Str)) = false := by decide) : VE X W (.Name x pos) (cst d) := by
  obtain ⟨u, v, h1, h2, h3⟩ := G.ex
  exact v_glob hg h1 v h2 h3 hdb
end
section
variable {K : Fg} {mg : Str → Option Value} {x : Str}
/-- flat data of a written value -/
def absD' : Value → Option (D × V)
  | .none => some (.none, .non)
  | .bool b => some (.bool b, .bl b)
  | .int i _ => some (.int i, .int i)
  | .str s _ => some (.str s, .str s)
  | _ => none
theorem absD'_ok {u : Value} {d : D} {v : V} (h : absD' u = some (d, v)) : RelV v u ∧ ∀ H, Rp K H d v := by
  cases u <;> simp only [absD', Option.some.injEq, Prod.mk.injEq, reduceCtorEq] at h
  · obtain ⟨rfl, rfl⟩ := h; exact ⟨rfl, fun _ => .non⟩
  · obtain ⟨rfl, rfl⟩ := h; exact ⟨rfl, fun _ => .bl _⟩
  · obtain ⟨rfl, rfl⟩ := h; exact ⟨⟨_, rfl⟩, fun _ => .int _⟩
  · obtain ⟨rfl, rfl⟩ := h; exact ⟨⟨_, rfl⟩, fun _ => .str _⟩
def absL : List Value → Option (List (D × V))
  | [] => some []
  | u :: us => (absD' u).bind fun d => (absL us).map (d :: ·)
theorem absL_ok : ∀ {us : List Value} {ds : List (D × V)}, absL us = some ds → Vals (ds.map (·.2)) us ∧ ∀ H, RpL K H (ds.map (·.1)) (ds.map (·.2))
  | [], ds, h => by cases h; exact ⟨.nil, fun _ => .nil⟩
  | u :: us, ds, h => by
    obtain ⟨⟨d, v⟩, h1, h2⟩ := Option.bind_eq_some_iff.mp h
    obtain ⟨ds', h3, rfl⟩ := Option.map_eq_some_iff.mp h2
    obtain ⟨a1, a2⟩ := absD'_ok (K := K) h1
    obtain ⟨b1, b2⟩ := absL_ok h3
    exact ⟨.cons a1 b1, fun H => .cons (a2 H) (b2 H)⟩
/-- a written tuple of flat things -/
structure TupO (o : Obj) (d : D) : Prop where
  cls : o.cls = .type "tuple"
  dat : ∃ ds its n ps, d = .tuple ds ∧ o.data = .seq its n ∧ its.size ≤ sizeLine ∧ absL its.toList = some ps ∧ ps.map (·.1) = ds
theorem tupO_mk {d : D} {cl : Value} {od : Option Addr} {its : Array Value} {n : Nat} {sl : Array (Option Value)} {ps : List (D × V)} (h1 : cl = .type "tuple") (h3 : absL its.toList = some ps) (h4 : d = .tuple (ps.map (·.1))) (h5 : its.size ≤ sizeLine) : TupO ⟨cl, od, .seq its n, sl⟩ d := ⟨h1, _, its, n, ps, h4, rfl, h5, h3, rfl⟩
theorem gc_tup {a : Addr} {o : Obj} {d : D} (h : mg x = some (.ref a)) (hk : K.lookup a = some o) (t : TupO o d) : Gc K mg x d := by
  obtain ⟨h1, ds, its, n, ps, rfl, h2, h3, h4, rfl⟩ := t
  obtain ⟨v, r⟩ := absL_ok (K := K) h4
  exact ⟨_, .ref a, h, rfl, fun H => .tup (.inr ⟨o, its, n, hk, h1, h2, h3, v⟩) (r H)⟩
end

/-! ### repr -/
def reprD : List D → Option D
  | [d] => if SeqAt.shaped d && d.showable && decide (d.shown.length ≤ sizeLine) then some (.str d.shown) else none
  | _ => none
section
variable {X : Cx}
/-- lists and tuples (and ints) -/
def reprL : List D → Option D
  | [.list l] => reprD [.list l]
  | [.tuple l] => reprD [.tuple l]
  | _ => none
end

/-! ### the end -/
theorem law_callG {P : Program} {w : World} {K : Fg} {mg mb : Str → Option Value} {k : Nat} {fa a : Addr} {fd : FuncData} {x : Str} {sp : Sp} {s₁ : Shared} {vs : List Value} {ns : List Int}
    (KX : K.In s₁.heap) (hns : s₁.heap.Ns mainGlobals mg) (hb : s₁.heap.Ns builtinsNs mb) (hbb : ∀ x : Str, x ≠ "__name__" → mb x = bootBuiltins x) (hlim : s₁.heap.NoLimit) (hg : s₁.gens = #[])
    (ha : s₁.heap.get? a = some { cls := .type "list", data := .seq vs.toArray }) (hi : IntsAre vs ns) (hl : ns.length ≤ sizeLine) (hr : Room k callerA)
    (F : ∀ base : Heap, FnG P w K mg base k fa fd [x] sp) (hbind : ∀ (s : Shared) (u : Value), BindsTo s fd ⟨[u], []⟩ [(x, u)])
    (hsp : ∀ H : Hp, Only H → SqL K H a (ns.map V.int) → sp [.ref a] H (fun v _ => v = .bl true) fun _ _ _ => False) :
    codeAny (model P w) callerA (.call (.ref fa) ⟨[.ref a], []⟩) (fun r s' => r = .ok (.ret (.bool true)) ∧ OldK s₁.heap s'.heap ∧ s'.os = s₁.os ∧ AllBare s'.gens) s₁ := by
  -- the promise where guards are not asked: at the caller's own place alone
  let sp' : Sp := fun vs H Q E => sp vs H Q E
  have rv := L2.vals_ints hi
  have lenV := hi.length
  have core : ∀ H : Hp, Only H → SqL K H a (ns.map V.int) → HOk P w H s₁.heap → (∀ b, H b ≠ none → b = a) → (H a ≠ none → K.lookup a = none) →
      codeAny (model P w) callerA (.call (.ref fa) ⟨[.ref a], []⟩) (fun r s' => r = .ok (.ret (.bool true)) ∧ OldK s₁.heap s'.heap ∧ s'.os = s₁.os ∧ AllBare s'.gens) s₁ := by
    intro H hO hS hok hA hK
    have base_of : ∀ {b : Addr} {o : Obj}, s₁.heap.get? b = some o → H b = none → (hidT s₁.heap H).get? b = some o := fun e n => hidT_get e n
    have noA : ∀ {b : Addr} {o : Obj} {es : Array DictEntry} {ep : Nat}, s₁.heap.get? b = some o → o.data = .dict es ep → H b = none := fun {b o es ep} e d => by
      cases q : H b with
      | none => rfl
      | some u =>
        have e' : b = a := hA b (by rw [q]; simp)
        subst e'
        rw [ha] at e; cases e
        have d' : Data.seq vs.toArray _ = Data.dict es ep := d
        cases d'
    have nsK : ∀ {b : Addr} {m : Str → Option Value}, s₁.heap.Ns b m → (hidT s₁.heap H).Ns b m := fun {b m} ⟨o, es, ep, e, d, r⟩ => ⟨o, es, ep, base_of e (noA e d), d, r⟩
    have hKb : K.In (hidT s₁.heap H) := fun b o e => base_of (KX b o e) (by
      cases q : H b with
      | none => rfl
      | some u =>
        have e' : b = a := hA b (by rw [q]; simp)
        subst e'
        rw [hK (by rw [q]; simp)] at e; cases e)
    have hM : Mod K mg (hidT s₁.heap H) := ⟨hKb, nsK hns, ⟨mb, nsK hb, hbb⟩, let ⟨mc, h1, h2⟩ := hlim; ⟨mc, nsK h1, h2⟩⟩
    have e0 : Env0 P w K mg (hidT s₁.heap H) callerA [] s₁ H := ⟨rfl, hM, fun b o e => of_hidT e, Nat.le_of_eq (hidT_size _ _), trivial, fun b hb => absurd (show b ∈ ([] : List Addr) from hb) (by simp), hok, .of_eq hg⟩
    refine codeAny_mono ((F _).run callerA [] s₁ H ⟨[.ref a], []⟩ [.ref a] [.ref a] _ _ hr rfl e0 (hbind s₁ (.ref a)) (.cons rfl .nil) (hsp H hO hS)) fun r s' h => ?_
    cases r with
    | error e =>
      obtain ⟨_, _, _, _, _, _, _, _, _, _, _, _, z⟩ := h
      exact z.elim
    | ok fl =>
      cases fl with
      | next => exact False.elim h
      | brk => exact False.elim h
      | cont => exact False.elim h
      | ret u =>
        obtain ⟨v, H', os, bare, un, hok', r', q⟩ := h
        have q' : v = .bl true := q
        subst q'
        obtain rfl : u = Value.bool true := r'
        refine ⟨rfl, OldK.of_keep fun b o e => ?_, os, bare⟩
        cases q : H b with
        | none => exact un.keep b o e q (by intro z; exact absurd (show b ∈ ([] : List Addr) from z) (by simp)) (by simp)
        | some u =>
          rcases hO b with z | ⟨ob, xs, z⟩
          · rw [q] at z; cases z
          · have z2 := un.frzs b ob _ z
            obtain ⟨e1, _⟩ := hok b _ z
            obtain ⟨e2, _⟩ := hok' b _ z2
            rw [e] at e1; cases e1
            exact e2
  cases hk : K.lookup a with
  | some o =>
    have e := KX a o hk
    rw [ha] at e
    cases e
    refine core (fun _ => none) (fun _ => .inl rfl) (.inr ⟨_, vs.toArray, _, hk, rfl, rfl, rfl, by rw [List.size_toArray, lenV]; exact hl, by simpa using rv⟩) (fun b u z => by have z' : (none : Option HO) = some u := z; cases z') (fun b z => absurd rfl z) fun z => absurd rfl z
  | none =>
    refine core (fun b => if b = a then some (.frz { cls := .type "list", data := .seq vs.toArray } (.lst (ns.map V.int))) else none) (fun b => ?_) (.inl (.inr ⟨{ cls := .type "list", data := .seq vs.toArray }, if_pos rfl⟩)) (fun b u z => ?_) (fun b z => ?_) fun _ => hk
    · by_cases hb : b = a
      · exact .inr ⟨_, _, if_pos hb⟩
      · exact .inl (if_neg hb)
    · by_cases hb : b = a
      · have z' := (if_pos hb).symm.trans z
        cases z'
        subst hb
        exact ⟨ha, by rw [List.length_map]; exact hl, vs, _, rv, ha⟩
      · have z' := (if_neg hb).symm.trans z
        cases z'
    · by_cases hb : b = a
      · exact hb
      · exact absurd (if_neg hb) z
/-- the goal that k_head leaves -/
theorem law_end {l : PySem.W.OpenLaw} {k : Nat} {q : Program} {loose : List Str} {XP : (Str → Option Value) → Heap → Prop} {YP : World → Heap → Prop} {d : DefRec} {K : Params → Fg} {x : Str} {m : List D → R SD}
    (hn : l.most = some 63) (hdf : d.params.defaults = []) (hr : Room k callerA)
    (hY : ∀ (w : World) (h : Heap), YP w h → (K w.params).In h)
    (true_ : ∀ ns : List Int, ns.length ≤ 63 → (∀ z ∈ ns, Builtin.Int.intBits z ≤ 1048576) → m [.list (ns.map .int)] = .ok (.sh (.bool true)))
    (F : ∀ (w : World) (mg : Str → Option Value) (fa : Addr) (h : Heap), (K w.params).In h → h.Ns mainGlobals mg → mg d.name = some (.ref fa) →
      ∃ fd : FuncData, (∀ (s : Shared) (u : Value), BindsTo s fd ⟨[u], []⟩ [(x, u)]) ∧ ∀ base : Heap, DOk l.prog w (K w.params) mg base k fa fd [x] m) :
    PySem.W.WalkO q loose XP YP l.row.toRowW d [] (fun f vs => PySem.call f vs) := by
  refine Att.attach_callB hn hdf fun w s₀ s₁ mg mb fa o pm cd doc a vs ns G Y ho hd hcd hmg hobj hints hlen hbits hg => ?_
  have KX := hY w _ Y
  obtain ⟨fd, hb, hF⟩ := F w mg fa _ KX G.T.g hmg
  refine law_callG KX G.T.g G.T.b G.T.builtins G.T.nolimit hg hobj hints (Nat.le_trans hlen (by decide)) hr (fun base => (hF base).fn) hb fun H hO hS => ?_
  refine ⟨rfl, H, [.list (ns.map .int)], .refl _, .cons (.lst hS (RpL.of_ints ns)) .nil, ?_⟩
  rw [true_ ns hlen hbits]
  intro Hs' H' v e hv
  have hv' : Rp (K w.params) Hs' (.bool true) v := hv
  cases hv'
  rfl
end VL

set_option Elab.async false
set_option linter.all false
set_option maxRecDepth 100000
set_option autoImplicit false
namespace VL
open PySem PySem.Spec PyProof.Rows L2

section
variable {X : Cx} {W : WX} {e o : Expr} {pos : Pos} {f g : Ev → R D}
/-! ### str(int), str(str) -/
def strD : List D → Option D
  | [.int i] => if i.natAbs.log2 < 1920 then some (.str (toString i)) else none
  | [.str x] => some (.str x)
  | _ => none
/-! ### x.pop() as a statement -/
def sPopX (j : Nat) : Ev → Out := fun ρ => onOw j ρ fun l => match l.getLast? with
  | some _ => .nx (ρ.set j (.ow l.dropLast))
  | none => .bad
theorem vs_popX (j : Nat) {x : Str} {p apos cpos : Pos} (ho : PE X (.Name x p) (tVar j))
    (hbase : attributeBase (.Name x p) "pop" X.env (eval (.Name x p) X.env) = eval (.Name x p) X.env := by rfl) (hline : (apos.endLine == cpos.line) = true := by rfl)
    (hs : swapsWith (.Call (.Attribute (.Name x p) "pop" apos) [] [] cpos) none pos.line X.env = pure false := by rfl) : VS X W (.Expr (.Call (.Attribute (.Name x p) "pop" apos) [] [] cpos) pos) (sPopX j) := by
  refine PS.imp (ps_expr (pe_bm0 PySem.F.plainAttrs_list PySem.F.slot_list_pop PySem.F.type_list_pop mt_pop ho hbase hline) hs) fun D σ H ⟨S, G, Hs, ρ, r, h⟩ => ?_
  obtain ⟨l, hl, h⟩ := on_own h
  obtain ⟨b, vs, o1, o2, o3, o4, o5⟩ := r.own hl
  cases z : l.getLast? with
  | none => rw [z] at h; exact h.elim
  | some d =>
    rw [z] at h
    obtain ⟨v, v1, v2⟩ := pop_at o5 z
    exact ⟨_, o1, .inl ⟨rfl, vs, .inl (.inl o4)⟩, b, vs, v, rfl, rfl, o4, v1, h Hs _ _ (.refl _) (r.wr hl o1 o5.dropLast)⟩
/-! ### {"k": e, ..}[e] -/
def selD (ks : List Str) (ds : List D) (k : D) : Option D := match k with
  | .str x => (ks.zip ds).foldl (fun acc p => if x = p.1 then some p.2 else acc) none
  | _ => none
def eDSel (ks : List Str) (fs : Ev → R (List D)) (fk : Ev → R D) : Ev → R D := fun ρ => (fs ρ).bind fun ds => (fk ρ).bind fun k => ofO (selD ks ds k)
/-- the values of a display -/
structure VPs (X : Cx) (W : WX) (dpos : Pos) (ks : List Str) (keys : List (Option Expr)) (vals : List Expr) (fs : Ev → R (List D)) : Prop where
  ex : ∃ trs, PPs X dpos keys vals trs ∧ ∀ σ H (Q : List (V × V) → Hp → Prop), tA X.K X.mg W fs σ H (fun vs H' => vs.length = ks.length → Q ((ks.map V.str).zip vs) H') → tPairs trs σ H Q
  n1 : keys.length = ks.length
  n2 : vals.length = ks.length
  n3 : keys.all (·.isSome) = true
end
end VL

set_option Elab.async false
set_option linter.all false
set_option maxRecDepth 100000
set_option autoImplicit false
namespace VL
open PySem PySem.Spec PyProof.Rows L2

/-! ### evaluations that change a list of one's own, or the lent one -/
inductive RX (α : Type) where
  | ok (a : α) (ρ : Ev)
  | bad
def RX.bind {α β : Type} (r : RX α) (f : α → Ev → RX β) : RX β := match r with
  | .ok a ρ => f a ρ
  | .bad => .bad
def PostX {α : Type} (K : Fg) (S : Hp) (G : Gx) (σ : Sg) (Hs : Hp) : RX α → (α → Ev → Hp → Hp → Prop) → Prop
  | .ok a ρ, P => ∀ Hs' H', Same Hs Hs' → RelE K S G Hs' H' σ ρ → P a ρ Hs' H'
  | .bad, _ => False
section
variable {α β : Type} {K : Fg} {S Hs H Hs1 : Hp} {G : Gx} {σ : Sg}
theorem PostX.up {r : RX α} {P : α → Ev → Hp → Hp → Prop} (h : PostX K S G σ Hs r P) (g : Same Hs Hs1) : PostX K S G σ Hs1 r P := by
  cases r with
  | ok a ρ => exact fun Hs' H' e => h Hs' H' (g.trans e)
  | bad => exact h
theorem PostX.imp {r : RX α} {P P' : α → Ev → Hp → Hp → Prop} (h : PostX K S G σ Hs r P) (hp : ∀ a ρ Hs' H', Same Hs Hs' → RelE K S G Hs' H' σ ρ → P a ρ Hs' H' → P' a ρ Hs' H') : PostX K S G σ Hs r P' := by
  cases r with
  | ok a ρ => exact fun Hs' H' g r' => hp _ _ _ _ g r' (h Hs' H' g r')
  | bad => exact h
theorem PostX.bind {r : RX α} {f : α → Ev → RX β} {P : β → Ev → Hp → Hp → Prop} (h : PostX K S G σ Hs (r.bind f) P) : PostX K S G σ Hs r (fun a ρ Hs' H' => PostX K S G σ Hs' (f a ρ) P) := by
  cases r with
  | ok a ρ => exact fun Hs' H' g r' => PostX.up h g
  | bad => exact h
theorem PostX.now {a : α} {ρ : Ev} {P : α → Ev → Hp → Hp → Prop} (h : PostX K S G σ Hs (.ok a ρ) P) (r : RelE K S G Hs H σ ρ) : P a ρ Hs H := h Hs H (.refl _) r
end
def tX (K : Fg) (f : Ev → RX D) : TE := fun σ H Q => ∃ S G Hs ρ, RelE K S G Hs H σ ρ ∧ PostX K S G σ Hs (f ρ) (fun d _ Hs' H' => ∀ v, Rp K Hs' d v → Q v H')
def tXO (K : Fg) (f : Ev → RX (List D)) : TE := fun σ H Q => ∃ S G Hs ρ, RelE K S G Hs H σ ρ ∧
  PostX K S G σ Hs (f ρ) (fun l _ Hs' H' => ∀ Hs2 H2 p vs, Ext Hs' H' Hs2 H2 → H' p = none → Hs2 p = none → H2 p = some (.lst vs) → RpL K Hs2 l vs → Q (.ref p) H2)
def tXT (K : Fg) (f : Ev → RX Bool) : TT := fun σ H Q => ∃ S G Hs ρ, RelE K S G Hs H σ ρ ∧ PostX K S G σ Hs (f ρ) (fun b _ _ H' => Q b H')
def XE (X : Cx) (e : Expr) (f : Ev → RX D) : Prop := PE X e (tX X.K f)
def XO (X : Cx) (e : Expr) (f : Ev → RX (List D)) : Prop := PE X e (tXO X.K f)
def XT (X : Cx) (e : Expr) (f : Ev → RX Bool) : Prop := PT X e (tXT X.K f)
def XW (X : Cx) (e : Expr) (f : Ev → RX Bool) : Prop := PW X e (tXT X.K f)
/-- without a change -/
def xl {α : Type} (f : Ev → R α) : Ev → RX α := fun ρ => match f ρ with
  | .ok a => .ok a ρ
  | _ => .bad
def ofX {α : Type} (o : Option α) (ρ : Ev) : RX α := match o with
  | some a => .ok a ρ
  | none => .bad
def x1 {α β : Type} (F : α → Option β) (f : Ev → RX α) : Ev → RX β := fun ρ => (f ρ).bind fun x ρ => ofX (F x) ρ
def x2 {α β γ : Type} (F : α → β → Option γ) (f : Ev → RX α) (g : Ev → RX β) : Ev → RX γ := fun ρ => (f ρ).bind fun x ρ => (g ρ).bind fun y ρ => ofX (F x y) ρ
def xCons (f : Ev → RX D) (g : Ev → RX (List D)) : Ev → RX (List D) := fun ρ => (f ρ).bind fun x ρ => (g ρ).bind fun xs ρ => .ok (x :: xs) ρ
def xLst (f : Ev → RX (List D)) : Ev → RX D := fun ρ => (f ρ).bind fun l ρ => .ok (.list l) ρ
def xIf {α : Type} (c : Ev → RX Bool) (f g : Ev → RX α) : Ev → RX α := fun ρ => (c ρ).bind fun b ρ => if b then f ρ else g ρ
def xAnd (f g : Ev → RX Bool) : Ev → RX Bool := fun ρ => (f ρ).bind fun b ρ => if b then g ρ else .ok false ρ
def xOr (f g : Ev → RX Bool) : Ev → RX Bool := fun ρ => (f ρ).bind fun b ρ => if b then .ok true ρ else g ρ
def xNot (f : Ev → RX Bool) : Ev → RX Bool := fun ρ => (f ρ).bind fun b ρ => .ok (!b) ρ
def xCall (m : List D → R SD) (fl : Ev → RX (List D)) : Ev → RX D := fun ρ => (fl ρ).bind fun ds ρ => match m ds with
  | .ok s => ofX (toD s) ρ
  | _ => .bad
def xCallO (m : List D → R SD) (fl : Ev → RX (List D)) : Ev → RX (List D) := fun ρ => (fl ρ).bind fun ds ρ => match m ds with
  | .ok s => ofX (toL s) ρ
  | _ => .bad

section
variable {X : Cx} {W : WX} {e a b c : Expr} {es : List Expr} {pos p : Pos} {f g : Ev → RX D} {fl : Ev → RX (List D)} {fb gb : Ev → RX Bool}
theorem XO.xe (h : XO X e fl) : XE X e (xLst fl) := PE.imp h fun σ H Q ⟨S, G, Hs, ρ, r, p⟩ => by
  refine ⟨S, G, Hs, ρ, r, (PostX.bind p).imp fun l ρ1 Hs1 H1 g1 r1 q Hs2 H2 p' vs e h0 h1 h2 h3 => ?_⟩
  exact q _ _ ((e.frz h0 h2 h1).grow) (r1.step (e.frz h0 h2 h1)) _ (.lst (.inl (.inl upd_same)) (h3.mono fun b u z => by rw [upd_ne (ne_of_none z h1)]; exact z))
theorem XW.xt (h : XW X e fb) : XT X e fb := PW.pt h
variable {x : Str} {bid T : String} {F : List D → Option D} {FO : List D → Option (List D)}
/-! sources of loops -/
end
end VL

set_option Elab.async false
set_option linter.all false
set_option maxRecDepth 100000
set_option autoImplicit false
namespace VL
open PySem PySem.Spec PyProof.Rows L2

/-! ### a list of one's own or the lent one -/
def lstAt (ρ : Ev) (i : Nat) : Option (List D × Bool) := match ρ[i]? with
  | some (.ow l) => some (l, false)
  | some (.bo l) => some (l, true)
  | _ => none
def mkL (b : Bool) (l : List D) : SD := if b then .bo l else .ow l
section
variable {K : Fg} {S Hs H : Hp} {G : Gx} {σ : Sg} {ρ : Ev}
theorem lstAt_cases {i : Nat} {l : List D} {b : Bool} (h : lstAt ρ i = some (l, b)) : (b = false ∧ ρ[i]? = some (.ow l)) ∨ (b = true ∧ ρ[i]? = some (.bo l)) := by
  unfold lstAt at h
  split at h
  · cases h; exact .inl ⟨rfl, by assumption⟩
  · cases h; exact .inr ⟨rfl, by assumption⟩
  · cases h
theorem RelE.lst {i : Nat} {l : List D} {b : Bool} (r : RelE K S G Hs H σ ρ) (h : lstAt ρ i = some (l, b)) : ∃ p vs, σ[i]? = some (some (.ref p)) ∧ Hs p = none ∧ H p = some (.lst vs) ∧ RpL K Hs l vs := by
  rcases lstAt_cases h with ⟨_, h⟩ | ⟨_, h⟩
  · obtain ⟨p, vs, e1, e2, e3, e4, e5⟩ := r.own h
    exact ⟨p, vs, e1, e3, e4, e5⟩
  · obtain ⟨p, vs, e1, e2, e3, e4⟩ := r.lent h
    exact ⟨p, vs, e1, (r.bor _ p e2).2.1, e3, e4⟩
end
/-! ### statements over them -/
def liftX {α : Type} (r : RX α) (k : α → Ev → Out) : Out := match r with
  | .ok a ρ => k a ρ
  | .bad => .bad
def ySet (i : Nat) (f : Ev → RX D) : Ev → Out := fun ρ => liftX (f ρ) fun d ρ => .nx (ρ.set i (.sh d))
def ySetO (i : Nat) (f : Ev → RX (List D)) : Ev → Out := fun ρ => liftX (f ρ) fun d ρ => .nx (ρ.set i (.ow d))
def yAsg (f : Ev → RX D) (g : D → Ev → Option Ev) : Ev → Out := fun ρ => liftX (f ρ) fun d ρ => match g d ρ with
  | some ρ' => .nx ρ'
  | none => .bad
def yIf (c : Ev → RX Bool) (F F' : Ev → Out) : Ev → Out := fun ρ => liftX (c ρ) fun b ρ => if b then F ρ else F' ρ
def yDrop (f : Ev → RX D) : Ev → Out := fun ρ => liftX (f ρ) fun _ ρ => .nx ρ
def yRet (f : Ev → RX D) : Ev → Out := fun ρ => liftX (f ρ) fun d ρ => .rt (.sh d)
def yRetO (f : Ev → RX (List D)) : Ev → Out := fun ρ => liftX (f ρ) fun d ρ => .rt (.ow d)
def yRetB (f : Ev → RX D) : Ev → Out := fun ρ => liftX (f ρ) fun d ρ => .rtB (.sh d) ρ
def yRetOB (f : Ev → RX (List D)) : Ev → Out := fun ρ => liftX (f ρ) fun d ρ => .rtB (.ow d) ρ
/-- return x, x a list of one's own, in a def with a lent list -/
def yRetVB (i : Nat) : Ev → Out := fun ρ => match ρ[i]? with
  | some (.ow l) => .rtB (.ow l) ρ
  | some (.sh d) => .rtB (.sh d) ρ
  | _ => .bad
def yRetNB : Ev → Out := fun ρ => .rtB (.sh .none) ρ
def yFor (fi : Ev → RX (List D)) (g : D → Ev → Option Ev) (F : Ev → Out) : Ev → Out := fun ρ => liftX (fi ρ) fun l ρ => forO (gTo g F) l ρ
def yApp (i : Nat) (f : Ev → RX D) : Ev → Out := fun ρ => match lstAt ρ i with
  | none => .bad
  | some _ => liftX (f ρ) fun d ρ => match lstAt ρ i with
    | some (l, b) => if l.length < sizeLine then .nx (ρ.set i (mkL b (l ++ [d]))) else .bad
    | none => .bad
def yStore (i : Nat) (fi fv : Ev → RX D) : Ev → Out := fun ρ => liftX (fv ρ) fun d ρ => match lstAt ρ i with
  | none => .bad
  | some _ => liftX (fi ρ) fun k ρ => match lstAt ρ i with
    | some (l, b) => match k with
      | .int z => match ixN l.length z with
        | some j => .nx (ρ.set i (mkL b (l.set j d)))
        | none => .bad
      | _ => .bad
    | none => .bad
def xPop (i : Nat) : Ev → RX D := fun ρ => match lstAt ρ i with
  | some (l, b) => match l.getLast? with
    | some d => .ok d (ρ.set i (mkL b l.dropLast))
    | none => .bad
  | none => .bad
section
variable {X : Cx} {W : WX} {e a b c : Expr} {es : List Expr} {pos : Pos} {f g : Ev → RX D} {fl : Ev → RX (List D)} {fb : Ev → RX Bool} {F F' : Ev → Out}
end

/-! ### defs with a list that is lent -/
inductive RB where
  | ok (r : SD) (l : List D)
  | bad
/-- arguments, the lent list at place b -/
inductive RpB (K : Fg) (H : Hp) (p : Addr) : Nat → List D → List V → Prop
  | here {ds : List D} {vs : List V} : RpL K H ds vs → RpB K H p 0 (.none :: ds) (.ref p :: vs)
  | there {b : Nat} {d : D} {v : V} {ds : List D} {vs : List V} : Rp K H d v → RpB K H p b ds vs → RpB K H p (b + 1) (d :: ds) (v :: vs)
theorem RpB.mono {K : Fg} {H H' : Hp} {p : Addr} (e : Same H H') : ∀ {b : Nat} {ds : List D} {vs : List V}, RpB K H p b ds vs → RpB K H' p b ds vs
  | _, _, _, .here r => .here (r.mono e)
  | _, _, _, .there h r => .there (h.mono e) (RpB.mono e r)
theorem RpB.length {K : Fg} {H : Hp} {p : Addr} : ∀ {b : Nat} {ds : List D} {vs : List V}, RpB K H p b ds vs → ds.length = vs.length
  | _, _, _, .here r => congrArg (· + 1) r.length
  | _, _, _, .there _ r => congrArg (· + 1) (RpB.length r)
theorem RpB.lt {K : Fg} {H : Hp} {p : Addr} : ∀ {b : Nat} {ds : List D} {vs : List V}, RpB K H p b ds vs → b < ds.length
  | _, _, _, .here r => Nat.succ_pos _
  | _, _, _, .there _ r => Nat.succ_lt_succ (RpB.lt r)
theorem RpB.get {K : Fg} {H : Hp} {p : Addr} : ∀ {b : Nat} {ds : List D} {vs : List V} {i : Nat} {d : D}, RpB K H p b ds vs → ds[i]? = some d → (i = b ∧ vs[i]? = some (.ref p)) ∨ (i ≠ b ∧ ∃ v, vs[i]? = some v ∧ Rp K H d v)
  | _, _, _, 0, d, .here r, e => .inl ⟨rfl, rfl⟩
  | _, _, _, i + 1, d, .here r, e => .inr ⟨by omega, by
    obtain ⟨v, h1, h2⟩ := r.get (i := i) (by simpa using e)
    exact ⟨v, by simpa using h1, h2⟩⟩
  | _, _, _, 0, d, .there h r, e => by
    simp at e; subst e
    exact .inr ⟨by omega, _, rfl, h⟩
  | _, _, _, i + 1, d, .there h r, e => by
    rcases RpB.get r (i := i) (by simpa using e) with ⟨rfl, h1⟩ | ⟨h0, v, h1, h2⟩
    · exact .inl ⟨rfl, by simpa using h1⟩
    · exact .inr ⟨by omega, v, by simpa using h1, h2⟩
def startB (n b : Nat) (l : List D) (ds : List D) : Ev := (startE n ds).set b (.bo l)
def finB (b : Nat) : Out → RB
  | .rtB r ρ => match ρ[b]? with
    | some (.bo l) => .ok r l
    | _ => .bad
  | .nx ρ => match ρ[b]? with
    | some (.bo l) => .ok (.sh .none) l
    | _ => .bad
  | _ => .bad
def runB (np n b : Nat) (F : Ev → Out) : List D → List D → RB := fun l ds => if ds.length = np ∧ b < np then finB b (F (startB n b l ds)) else .bad
def spB (K : Fg) (n b : Nat) (m : List D → List D → RB) : Sp := fun vs H Q _ => vs.length = n ∧ ∃ Hs l us p ds, Same Hs H ∧ Hs p = none ∧ H p = some (.lst us) ∧ RpL K Hs l us ∧ RpB K Hs p b ds vs ∧ (match m l ds with
  | .ok r l' => ∀ Hs' H' v us', Same Hs Hs' → Same Hs' H' → (∀ a o, a ≠ p → H a = some o → H' a = some o) → (∀ a o, Hs' a = some o → Hs a = none → H a = none) → Hs' p = none → H' p = some (.lst us') → RpL K Hs' l' us' → RpO K H Hs' H' r v → Q v H'
  | .bad => False)
section
variable {P : Program} {w : World} {K : Fg} {mg : Str → Option Value} {base : Heap}
structure BOk (P : Program) (w : World) (K : Fg) (mg : Str → Option Value) (base : Heap) (k : Nat) (f : Addr) (fd : FuncData) (ps : List Str) (b : Nat) (m : List D → List D → RB) : Prop where
  fn : FnG P w K mg base k f fd ps (spB K ps.length b m)
  ar : ∀ l ds, m l ds ≠ .bad → ds.length = ps.length ∧ b < ps.length
structure ClB (P : Program) (w : World) (K : Fg) (mg : Str → Option Value) (base : Heap) (k : Nat) (x : Str) (ps : List Str) (b : Nat) (m : List D → List D → RB) : Prop where
  ex : ∃ f fd, BOk P w K mg base k f fd ps b m ∧ mg x = some (.ref f) ∧ PySem.W.keepIn K (.ref f) = true ∧ Binds K fd ps []
end
/-! ### calls that lend a list -/
def xHere (i : Nat) (f : Ev → RX (List D)) : Ev → RX (List D) := fun ρ => match lstAt ρ i with
  | some _ => (f ρ).bind fun ds ρ => .ok (.none :: ds) ρ
  | none => .bad
def xCallB (m : List D → List D → RB) (i : Nat) (f : Ev → RX (List D)) : Ev → RX D := fun ρ => (f ρ).bind fun ds ρ => match lstAt ρ i with
  | some (l, k) => match m l ds with
    | .ok r l' => ofX (toD r) (ρ.set i (mkL k l'))
    | .bad => .bad
  | none => .bad
def xCallBO (m : List D → List D → RB) (i : Nat) (f : Ev → RX (List D)) : Ev → RX (List D) := fun ρ => (f ρ).bind fun ds ρ => match lstAt ρ i with
  | some (l, k) => match m l ds with
    | .ok r l' => ofX (toL r) (ρ.set i (mkL k l'))
    | .bad => .bad
  | none => .bad
section
variable {X : Cx} {W : WX} {e a b c : Expr} {es : List Expr} {pos p : Pos} {f g : Ev → RX D} {fl : Ev → RX (List D)} {x : Str}
/-! calls of other defs -/
end
end VL

set_option Elab.async false
set_option linter.all false
set_option maxRecDepth 100000
set_option autoImplicit false
namespace VL
open PySem PySem.Spec PyProof.Rows L2

/-! ### comprehensions whose items change a list -/
def Gx.plus (G : Gx) (D : Addr) (o : HO) : Gx := ⟨upd G.h D o, G.b⟩
section
variable {K : Fg} {S Hs H : Hp} {G : Gx} {σ : Sg} {ρ : Ev} {D : Addr} {o : HO}
theorem RelE.plus (r : RelE K S G Hs H σ ρ) (h : H D = none) (o : HO) : RelE K S (G.plus D o) Hs (upd H D o) σ ρ := by
  have hs : Hs D = none := r.sub.free h
  refine ⟨fun b u e => ?_, fun b u e => ?_, r.ext, fun p u e n => ?_, r.len, fun i s hi => ?_, fun j p hp => ?_, r.one, r.dis⟩
  · rw [upd_ne (ne_of_none e hs)]; exact r.sub b u e
  · have e' : upd G.h D o b = some u := e
    by_cases hb : b = D
    · subst hb; rw [upd_same] at e' ⊢; exact e'
    · rw [upd_ne hb] at e' ⊢; exact r.old b u e'
  · show upd G.h D o p = none
    rw [upd_ne (ne_of_none e hs)]; exact r.new p u e n
  · have q := r.slot i s hi
    cases s with
    | no => trivial
    | sh d => exact q
    | ow l =>
      obtain ⟨p, vs, e1, e2, e3, e4, e5, e6⟩ := q
      have hn : p ≠ D := fun z => by subst z; rw [h] at e4; cases e4
      exact ⟨p, vs, e1, by show upd G.h D o p = none; rw [upd_ne hn]; exact e2, e3, by rw [upd_ne hn]; exact e4, e5, e6⟩
    | bo l =>
      obtain ⟨p, vs, e1, e2, e3, e4⟩ := q
      have hn : p ≠ D := fun z => by subst z; rw [h] at e3; cases e3
      exact ⟨p, vs, e1, e2, by rw [upd_ne hn]; exact e3, e4⟩
  · obtain ⟨h1, h2, h3⟩ := r.bor j p hp
    have hn : p ≠ D := fun z => by subst z; exact h3 h
    exact ⟨by show upd G.h D o p = none; rw [upd_ne hn]; exact h1, h2, by rw [upd_ne hn]; exact h3⟩
theorem wipeE_get {j : Nat} {r : SD} : ∀ {vs : List Nat}, (wipeE ρ vs)[j]? = some r → r = .no ∨ (j ∉ vs ∧ ρ[j]? = some r)
  | [], h => .inr ⟨by simp, h⟩
  | v :: vs, h => by
    unfold wipeE at h
    rcases set_get h with ⟨rfl, _, rfl⟩ | ⟨hj, h⟩
    · exact .inl rfl
    · rcases wipeE_get h with h | ⟨h1, h2⟩
      · exact .inl h
      · exact .inr ⟨by simp [hj, h1], h2⟩
theorem wipeE_length : ∀ {vs : List Nat}, (wipeE ρ vs).length = ρ.length
  | [] => rfl
  | v :: vs => by unfold wipeE; rw [List.length_set]; exact wipeE_length
end
def compX (step : D → Ev → RX (Option D)) : List D → Ev → RX (List D)
  | [], ρ => .ok [] ρ
  | d :: ds, ρ => (step d ρ).bind fun o ρ1 => (compX step ds ρ1).bind fun r ρ2 => .ok (match o with | some y => y :: r | none => r) ρ2
def compXS (vs : List Nat) (g : D → Ev → Option Ev) (ft : Ev → RX Bool) (fe : Ev → RX D) : D → Ev → RX (Option D) := fun d ρ => match g d (wipeE ρ vs) with
  | some ρ' => (ft ρ').bind fun b ρ2 => if b then (fe ρ2).bind fun y ρ3 => .ok (some y) (wipeE ρ3 vs) else .ok none (wipeE ρ2 vs)
  | none => .bad
def xComp (vs : List Nat) (fi : Ev → RX (List D)) (g : D → Ev → Option Ev) (ft : Ev → RX Bool) (fe : Ev → RX D) : Ev → RX (List D) := fun ρ => (fi ρ).bind fun l ρ1 => if l.length ≤ sizeLine then compX (compXS vs g ft fe) l (wipeE ρ1 vs) else .bad
theorem RX.bind_assoc {α β γ : Type} (r : RX α) (f : α → Ev → RX β) (g : β → Ev → RX γ) : (r.bind f).bind g = r.bind fun a ρ => (f a ρ).bind g := by cases r <;> rfl
section
variable {X : Cx} {W : WX} {elt tg iter c : Expr} {ifs : List Expr} {scope : Scope} {own : List (Str × Nat)} {pos : Pos} {ts : List Nat} {fi : Ev → RX (List D)} {g : D → Ev → Option Ev} {ft : Ev → RX Bool} {fe : Ev → RX D}
end
end VL

set_option Elab.async false
set_option linter.all false
set_option maxRecDepth 100000
set_option autoImplicit false
namespace VL
open PySem PySem.Spec PyProof.Rows L2
/-! ### calls without arguments -/
section
variable {X : Cx} {W : WX} {k : Nat} {f : Addr} {fd : FuncData} {ps : List Str} {sp : Sp} {E : Sg → XK} {x : Str} {p pos : Pos}
theorem pe_callG0 (F : FnG X.prog X.w X.K X.mg X.base k f fd ps sp) (hr : Room k X.A) (hgd : X.A.guards = some []) (hg : Gl X x) (hm : X.mg x = some (.ref f)) (hk : PySem.W.keepIn X.K (.ref f) = true) (hb : Binds X.K fd ps []) (hx : ∀ σ, PassesAt (L2.CX X.prog X.w) X σ (E σ))
    (hdb : (x == ("__debug__" : Str)) = false := by decide) :
    PE X (.Call (.Name x p) [] [] pos) (tCallS sp E tNil) := by
  refine ⟨fun pins s σ H Q I h => ?_⟩
  refine wpAny_Call_Name_kw (ld_glob I hg hm ?_ hdb)
  exact PySem.W.callWith_K0 I.kIn hk (run_fnG (us := []) (vs := []) F hr hgd hb (hx σ) I .nil h)
theorem v_calC0 {j : Nat} {m : List D → R SD} (C : Cl X.prog X.w X.K X.mg X.base k x ps m) (hr : Room j X.A) (hgd : X.A.guards = some []) (tk : Takes X W) (hg : Gl X x := by rfl) (hj : k ≤ j := by decide)
    (hdb : (x == ("__debug__" : Str)) = false := by decide) : VE X W (.Call (.Name x p) [] [] pos) (eCall m (cst [])) := by
  obtain ⟨f, fd, h1, h2, h3, h4⟩ := C.ex
  refine PE.imp (pe_callG0 h1.fn (hr.mono hj) hgd hg h2 h3 h4 (passAt tk) hdb) fun σ H Q ⟨S, G, Hs, ρ, r, p⟩ => ?_
  have q : Post X.K X.mg W Hs H σ ((m []).bind fun s => ofO (toD s)) _ := p
  have nb : m [] ≠ .bad := fun z => by rw [z] at q; exact q
  refine ⟨h1.ar [] nb, Hs, [], r.sub, .nil, ?_⟩
  cases z : m [] with
  | bad => exact nb z
  | ex x => rw [z] at q; exact q
  | ok s =>
    rw [z] at q
    intro Hs' H' v e' hr
    cases s with
    | no => exact q.elim
    | bo l => exact q.elim
    | sh d => exact q Hs' H' e' v hr
    | ow l =>
      obtain ⟨p, us, rfl, h0, h1, h2, h3⟩ := hr
      have g : Same Hs' (upd Hs' p (.lst us)) := fun b u z => by rw [upd_ne (ne_of_none z h1)]; exact z
      exact q _ _ (e'.frz h0 h2 h1) _ (.lst (.inl (.inl upd_same)) (h3.mono g))
end
end VL

set_option Elab.async false
set_option linter.all false
set_option maxRecDepth 100000
set_option maxHeartbeats 4000000
namespace VL
open PySem PySem.Spec PyProof.Rows L2

/-- how a call with n values and the keywords ks binds -/
structure KB (K : Fg) (fd : FuncData) (ps ks : List Str) (n : Nat) : Prop where
  to : ∀ (s : Shared) (us ws : List Value), K.In s.heap → us.length = n → ws.length = ks.length → BindsTo s fd ⟨us, ks.zip ws⟩ (ps.zip (us ++ ws))
section
variable {X : Cx} {n k : Nat} {f : Addr} {fd : FuncData} {ps ks : List Str} {sp : Sp} {E : Sg → XK} {x : Str} {p pos : Pos} {e : Expr} {es : List Expr} {kws : List Keyword} {t tk : TA}
end
def eApp (n k : Nat) (f g : Ev → R (List D)) : Ev → R (List D) := fun ρ => (f ρ).bind fun a => (g ρ).bind fun b => if a.length = n ∧ b.length = k then .ok (a ++ b) else .bad
section
variable {X : Cx} {W : WX} {e : Expr} {es : List Expr} {kws : List Keyword} {nm : Option Str} {f : Ev → R D} {fl fk : Ev → R (List D)} {kpos : Pos}
theorem PK.imp {t t' : TA} (h : PK X kws t) (g : ∀ σ H Q, t' σ H Q → t σ H Q) : PK X kws t' := ⟨fun pos pins s σ H Q I q => h.run pos pins s σ H Q I (g σ H Q q)⟩
end
section
variable {X : Cx} {W : WX} {e : Expr} {es : List Expr} {pos p : Pos} {x : Str} {fl fk : Ev → R (List D)} {k j n : Nat} {f : Addr} {fd : FuncData} {ps ks : List Str} {m : List D → R SD} {kws : List Keyword}
end
structure ClK (P : Program) (w : World) (K : Fg) (mg : Str → Option Value) (base : Heap) (k : Nat) (x : Str) (ps ks : List Str) (n : Nat) (m : List D → R SD) : Prop where
  ex : ∃ f fd, DOk P w K mg base k f fd ps m ∧ mg x = some (.ref f) ∧ PySem.W.keepIn K (.ref f) = true ∧ KB K fd ps ks n
structure DfK (K : Fg) (mg : Str → Option Value) (x : Str) (st : Stmt) (ps ks : List Str) (n : Nat) : Prop where
  ex : ∃ f fd, Fun K x x st f fd ∧ mg x = some (.ref f) ∧ KB K fd ps ks n
section
variable {X : Cx} {W : WX} {e : Expr} {es : List Expr} {pos p : Pos} {x : Str} {fl fk : Ev → R (List D)} {k j n : Nat} {ps ks : List Str} {m : List D → R SD} {kws : List Keyword}
end
/-! ### a list of one's own that is only read while an expression is evaluated -/
end VL

set_option Elab.async false
set_option linter.all false
set_option maxRecDepth 100000
set_option autoImplicit false
namespace VL
open PySem PySem.Spec PyProof.Rows L2

/-! ### evaluation: rows for simp -/
def fin : Out → R SD
  | .nx _ => .ok (.sh .none)
  | .rt r => .ok r
  | .ex x _ => .ex x
  | _ => .bad
section
variable {α β γ δ : Type} {ρ : Ev} {f : Ev → R α} {g : Ev → R β} {h : Ev → R γ} {a : α} {d e : D} {l m : List D} {i j k : Nat} {s t : SD} {b : Bool} {x y z : Int}
@[simp] theorem r_get0 (u : α) (us : List α) : (u :: us)[0]? = some u := id rfl
@[simp] theorem r_getS (u : α) (us : List α) (n : Nat) : (u :: us)[n + 1]? = us[n]? := id rfl
@[simp] theorem r_bind_ok (F : α → R β) : (R.ok a).bind F = F a := id rfl
@[simp] theorem r_bind_ex (u : Xn) (F : α → R β) : (R.ex u : R α).bind F = .ex u := id rfl
@[simp] theorem r_bind_bad (F : α → R β) : (R.bad : R α).bind F = .bad := id rfl
@[simp] theorem r_ofO_some : ofO (some a) = .ok a := id rfl
@[simp] theorem r_ofO_none : ofO (none : Option α) = .bad := id rfl
@[simp] theorem r_noex_ok : noex (.ok a) = .ok a := id rfl
@[simp] theorem r_cst : cst a ρ = .ok a := id rfl
@[simp] theorem r_eVar : eVar i ρ = (match ρ[i]? with | some (.sh d) => .ok d | _ => .bad) := id rfl
@[simp] theorem r_eOwn : eOwn i ρ = (match ρ[i]? with | some (.sh d) => .ok d | some (.ow l) => .ok (.list l) | some (.bo l) => .ok (.list l) | _ => .bad) := id rfl
@[simp] theorem r_e1 (F : α → Option β) : e1 F f ρ = (f ρ).bind fun x => ofO (F x) := id rfl
@[simp] theorem r_e2 (F : α → β → Option γ) : e2 F f g ρ = (f ρ).bind fun x => (g ρ).bind fun y => ofO (F x y) := id rfl
@[simp] theorem r_e3 (F : α → β → γ → Option δ) : e3 F f g h ρ = (f ρ).bind fun x => (g ρ).bind fun y => (h ρ).bind fun z => ofO (F x y z) := id rfl
@[simp] theorem r_eCons (f : Ev → R D) (g : Ev → R (List D)) : eCons f g ρ = (f ρ).bind fun x => (g ρ).bind fun xs => .ok (x :: xs) := id rfl
@[simp] theorem r_eLst (f : Ev → R (List D)) : eLst f ρ = (f ρ).bind fun l => .ok (.list l) := id rfl
@[simp] theorem r_eIf (c : Ev → R Bool) (f g : Ev → R α) : eIf c f g ρ = (c ρ).bind fun b => if b then f ρ else g ρ := id rfl
@[simp] theorem r_eAnd (f g : Ev → R Bool) : eAnd f g ρ = (f ρ).bind fun b => if b then g ρ else .ok false := id rfl
@[simp] theorem r_eOr (f g : Ev → R Bool) : eOr f g ρ = (f ρ).bind fun b => if b then .ok true else g ρ := id rfl
@[simp] theorem r_eNot (f : Ev → R Bool) : eNot f ρ = (f ρ).bind fun b => .ok (!b) := id rfl
@[simp] theorem r_eAndV (f g : Ev → R D) : eAndV f g ρ = (f ρ).bind fun x => (ofO (truD x)).bind fun k => if k then g ρ else .ok x := id rfl
@[simp] theorem r_eOrV (f g : Ev → R D) : eOrV f g ρ = (f ρ).bind fun x => (ofO (truD x)).bind fun k => if k then .ok x else g ρ := id rfl
@[simp] theorem r_eChain (F F' : D → D → Option D) (f g h : Ev → R D) : eChain F F' f g h ρ = (f ρ).bind fun x => (g ρ).bind fun y => (ofO (F x y)).bind fun r => (ofO (bOf r)).bind fun b => if b then (h ρ).bind fun z => ofO (F' y z) else .ok (.bool false) := id rfl
@[simp] theorem r_eCall (m : List D → R SD) (fl : Ev → R (List D)) : eCall m fl ρ = (fl ρ).bind fun ds => (m ds).bind fun s => ofO (toD s) := id rfl
@[simp] theorem r_eCallO (m : List D → R SD) (fl : Ev → R (List D)) : eCallO m fl ρ = (fl ρ).bind fun ds => (m ds).bind fun s => ofO (toL s) := id rfl
@[simp] theorem r_pNo : pNo ρ = .ok none := id rfl
@[simp] theorem r_toD_sh : toD (.sh d) = some d := id rfl
@[simp] theorem r_toD_ow : toD (.ow l) = some (.list l) := id rfl
@[simp] theorem r_toL_ow : toL (.ow l) = some l := id rfl
/-! statements -/
@[simp] theorem r_liftE_ok (k : α → Out) : liftE (.ok a) ρ k = k a := id rfl
@[simp] theorem r_liftE_ex (u : Xn) (k : α → Out) : liftE (.ex u) ρ k = .ex u ρ := id rfl
@[simp] theorem r_liftE_bad (k : α → Out) : liftE .bad ρ k = .bad := id rfl
@[simp] theorem r_seqO_nx (k : Ev → Out) : seqO (.nx ρ) k = k ρ := id rfl
@[simp] theorem r_seqO_rt (k : Ev → Out) : seqO (.rt s) k = .rt s := id rfl
@[simp] theorem r_seqO_rtB (k : Ev → Out) : seqO (.rtB s ρ) k = .rtB s ρ := id rfl
@[simp] theorem r_seqO_bk (k : Ev → Out) : seqO (.bk ρ) k = .bk ρ := id rfl
@[simp] theorem r_seqO_ct (k : Ev → Out) : seqO (.ct ρ) k = .ct ρ := id rfl
@[simp] theorem r_seqO_ex (u : Xn) (k : Ev → Out) : seqO (.ex u ρ) k = .ex u ρ := id rfl
@[simp] theorem r_seqO_bad (k : Ev → Out) : seqO .bad k = .bad := id rfl
@[simp] theorem r_sNil : sNil ρ = .nx ρ := id rfl
@[simp] theorem r_sSeq (F G : Ev → Out) : sSeq F G ρ = seqO (F ρ) G := id rfl
@[simp] theorem r_sSet (f : Ev → R D) : sSet i f ρ = liftE (f ρ) ρ fun d => .nx (ρ.set i (.sh d)) := id rfl
@[simp] theorem r_sSetO (f : Ev → R (List D)) : sSetO i f ρ = liftE (f ρ) ρ fun d => .nx (ρ.set i (.ow d)) := id rfl
@[simp] theorem r_sAsg (f : Ev → R D) (g : D → Ev → Option Ev) : sAsg f g ρ = liftE (f ρ) ρ fun d => match g d ρ with | some ρ' => .nx ρ' | none => .bad := id rfl
@[simp] theorem r_sPar (f : Ev → R (List D)) : sPar i j f ρ = liftE (f ρ) ρ fun ds => match ds with | [d, d'] => .nx ((ρ.set i (.sh d)).set j (.sh d')) | _ => .bad := id rfl
@[simp] theorem r_sAug (F : D → D → Option D) (f : Ev → R D) : sAug i F f ρ = liftE ((eVar i ρ).bind fun x => (f ρ).bind fun y => ofO (F x y)) ρ fun d => .nx (ρ.set i (.sh d)) := id rfl
@[simp] theorem r_sRet (f : Ev → R D) : sRet f ρ = liftE (f ρ) ρ fun d => .rt (.sh d) := id rfl
@[simp] theorem r_sRetO (f : Ev → R (List D)) : sRetO f ρ = liftE (f ρ) ρ fun d => .rt (.ow d) := id rfl
@[simp] theorem r_sRetV : sRetV i ρ = (match ρ[i]? with | some (.ow l) => .rt (.ow l) | some (.sh d) => .rt (.sh d) | _ => .bad) := id rfl
@[simp] theorem r_sRetN : sRetN ρ = .rt (.sh .none) := id rfl
@[simp] theorem r_sIf (c : Ev → R Bool) (F F' : Ev → Out) : sIf c F F' ρ = liftE (c ρ) ρ fun b => if b then F ρ else F' ρ := id rfl
@[simp] theorem r_sDrop (f : Ev → R D) : sDrop f ρ = liftE (f ρ) ρ fun _ => .nx ρ := id rfl
@[simp] theorem r_sFz (F : Ev → Out) : sFz i F ρ = (match ρ[i]? with | some (.ow l) => F (ρ.set i (.sh (.list l))) | _ => F ρ) := id rfl
@[simp] theorem r_onOw (k : List D → Out) : onOw i ρ k = (match ρ[i]? with | some (.ow l) => k l | _ => .bad) := id rfl
@[simp] theorem r_sApp (f : Ev → R D) : sApp i f ρ = onOw i ρ fun l => liftE (f ρ) ρ fun d => if l.length < sizeLine then .nx (ρ.set i (.ow (l ++ [d]))) else .bad := id rfl
@[simp] theorem r_sExt (f : Ev → R D) : sExt i f ρ = onOw i ρ fun l => liftE (f ρ) ρ fun d => match d with
  | .list l' => if l.length + l'.length ≤ sizeLine then .nx (ρ.set i (.ow (l ++ l'))) else .bad
  | _ => .bad := id rfl
@[simp] theorem r_sStore (fi fv : Ev → R D) : sStore i fi fv ρ = onOw i ρ fun l => liftE ((fv ρ).bind fun d => (fi ρ).bind fun k => .ok (d, k)) ρ fun (d, k) => match k with
  | .int z => match ixN l.length z with
    | some j => .nx (ρ.set i (.ow (l.set j d)))
    | none => .bad
  | _ => .bad := id rfl
@[simp] theorem r_placeD : placeD l (.int z) = if 0 ≤ z ∧ z < 2 ^ 63 then (l[z.toNat]?).map fun y => (z.toNat, y) else none := id rfl
@[simp] theorem r_sAugIx (F : D → D → Option D) (fi fv : Ev → R D) : sAugIx i F fi fv ρ = onOw i ρ fun l => liftE ((fi ρ).bind fun k => ofO (placeD l k)) ρ fun jy => liftE ((fv ρ).bind fun d => ofO (F jy.2 d)) ρ fun d => .nx (ρ.set i (.ow (l.set jy.1 d))) := id rfl
@[simp] theorem r_sPop : sPop i j ρ = onOw j ρ fun l => match l.getLast? with
  | some d => .nx ((ρ.set j (.ow l.dropLast)).set i (.sh d))
  | none => .bad := id rfl
@[simp] theorem r_sFor (fi : Ev → R (List D)) (g : D → Ev → Option Ev) (F : Ev → Out) : sFor fi g F ρ = liftE (fi ρ) ρ fun l => forO (gTo g F) l ρ := id rfl
@[simp] theorem r_gTo (g : D → Ev → Option Ev) (F : Ev → Out) : gTo g F d ρ = match g d ρ with | some ρ' => F ρ' | none => .bad := id rfl
@[simp] theorem r_gSet : gSet i d ρ = some (ρ.set i (.sh d)) := id rfl
@[simp] theorem r_gTupD_t (n : Nat) (k : List D → Ev → Option Ev) : gTupD n k (.tuple l) ρ = (if l.length = n then k l ρ else none) := id rfl
@[simp] theorem r_gTupD_l (n : Nat) (k : List D → Ev → Option Ev) : gTupD n k (.list l) ρ = (if l.length = n then k l ρ else none) := id rfl
@[simp] theorem r_gsNil : gsNil [] ρ = some ρ := id rfl
@[simp] theorem r_gsCons (g : D → Ev → Option Ev) (k : List D → Ev → Option Ev) : gsCons g k (d :: l) ρ = (g d ρ).bind (k l) := id rfl
@[simp] theorem r_wipe_nil : wipeE ρ [] = ρ := id rfl
@[simp] theorem r_wipe_cons (vs : List Nat) : wipeE ρ (i :: vs) = (wipeE ρ vs).set i .no := id rfl
@[simp] theorem r_forO_nil (F : D → Ev → Out) : forO F [] ρ = .nx ρ := id rfl
@[simp] theorem r_eComp (vs : List Nat) (fi : Ev → R (List D)) (g : D → Ev → Option Ev) (ft : Ev → R Bool) (fe : Ev → R D) : eComp vs fi g ft fe ρ = (fi ρ).bind fun l => if l.length ≤ sizeLine then compR (compS vs g ft fe ρ) l else .bad := id rfl
@[simp] theorem r_compR_nil (st : D → R (Option D)) : compR st [] = .ok [] := id rfl
/-! evaluations that change lists -/
@[simp] theorem rx_bind_ok (F : α → Ev → RX β) : (RX.ok a ρ).bind F = F a ρ := id rfl
@[simp] theorem rx_bind_bad (F : α → Ev → RX β) : (RX.bad : RX α).bind F = .bad := id rfl
@[simp] theorem rx_xl (f : Ev → R α) : xl f ρ = (match f ρ with | .ok a => .ok a ρ | _ => .bad) := id rfl
@[simp] theorem rx_of_some : ofX (some a) ρ = .ok a ρ := id rfl
@[simp] theorem rx_of_none : ofX (none : Option α) ρ = .bad := id rfl
@[simp] theorem rx_x1 (F : α → Option β) (f : Ev → RX α) : x1 F f ρ = (f ρ).bind fun x ρ => ofX (F x) ρ := id rfl
@[simp] theorem rx_x2 (F : α → β → Option γ) (f : Ev → RX α) (g : Ev → RX β) : x2 F f g ρ = (f ρ).bind fun x ρ => (g ρ).bind fun y ρ => ofX (F x y) ρ := id rfl
@[simp] theorem rx_xCons (f : Ev → RX D) (g : Ev → RX (List D)) : xCons f g ρ = (f ρ).bind fun x ρ => (g ρ).bind fun xs ρ => .ok (x :: xs) ρ := id rfl
@[simp] theorem rx_xLst (f : Ev → RX (List D)) : xLst f ρ = (f ρ).bind fun l ρ => .ok (.list l) ρ := id rfl
@[simp] theorem rx_xIf (c : Ev → RX Bool) (f g : Ev → RX α) : xIf c f g ρ = (c ρ).bind fun b ρ => if b then f ρ else g ρ := id rfl
@[simp] theorem rx_xAnd (f g : Ev → RX Bool) : xAnd f g ρ = (f ρ).bind fun b ρ => if b then g ρ else .ok false ρ := id rfl
@[simp] theorem rx_xOr (f g : Ev → RX Bool) : xOr f g ρ = (f ρ).bind fun b ρ => if b then .ok true ρ else g ρ := id rfl
@[simp] theorem rx_xNot (f : Ev → RX Bool) : xNot f ρ = (f ρ).bind fun b ρ => .ok (!b) ρ := id rfl
@[simp] theorem rx_xCall (m : List D → R SD) (fl : Ev → RX (List D)) : xCall m fl ρ = (fl ρ).bind fun ds ρ => match m ds with | .ok s => ofX (toD s) ρ | _ => .bad := id rfl
@[simp] theorem rx_xCallO (m : List D → R SD) (fl : Ev → RX (List D)) : xCallO m fl ρ = (fl ρ).bind fun ds ρ => match m ds with | .ok s => ofX (toL s) ρ | _ => .bad := id rfl
@[simp] theorem rx_lstAt : lstAt ρ i = (match ρ[i]? with | some (.ow l) => some (l, false) | some (.bo l) => some (l, true) | _ => none) := id rfl
@[simp] theorem rx_mkT : mkL true l = .bo l := id rfl
@[simp] theorem rx_mkF : mkL false l = .ow l := id rfl
@[simp] theorem rx_xPop : xPop i ρ = (match lstAt ρ i with | some (l, b) => (match l.getLast? with | some d => .ok d (ρ.set i (mkL b l.dropLast)) | none => .bad) | none => .bad) := id rfl
@[simp] theorem rx_xHere (f : Ev → RX (List D)) : xHere i f ρ = (match lstAt ρ i with | some _ => (f ρ).bind fun ds ρ => .ok (.none :: ds) ρ | none => .bad) := id rfl
@[simp] theorem rx_xCallB (m : List D → List D → RB) (f : Ev → RX (List D)) : xCallB m i f ρ = (f ρ).bind fun ds ρ => match lstAt ρ i with | some (l, k) => (match m l ds with | .ok r l' => ofX (toD r) (ρ.set i (mkL k l')) | .bad => .bad) | none => .bad := id rfl
@[simp] theorem rx_xCallBO (m : List D → List D → RB) (f : Ev → RX (List D)) : xCallBO m i f ρ = (f ρ).bind fun ds ρ => match lstAt ρ i with | some (l, k) => (match m l ds with | .ok r l' => ofX (toL r) (ρ.set i (mkL k l')) | .bad => .bad) | none => .bad := id rfl
@[simp] theorem rx_xComp (vs : List Nat) (fi : Ev → RX (List D)) (g : D → Ev → Option Ev) (ft : Ev → RX Bool) (fe : Ev → RX D) : xComp vs fi g ft fe ρ = (fi ρ).bind fun l ρ1 => if l.length ≤ sizeLine then compX (compXS vs g ft fe) l (wipeE ρ1 vs) else .bad := id rfl
@[simp] theorem rx_lift_ok (k : α → Ev → Out) : liftX (.ok a ρ) k = k a ρ := id rfl
@[simp] theorem rx_lift_bad (k : α → Ev → Out) : liftX .bad k = .bad := id rfl
@[simp] theorem ry_set (f : Ev → RX D) : ySet i f ρ = liftX (f ρ) fun d ρ => .nx (ρ.set i (.sh d)) := id rfl
@[simp] theorem ry_setO (f : Ev → RX (List D)) : ySetO i f ρ = liftX (f ρ) fun d ρ => .nx (ρ.set i (.ow d)) := id rfl
@[simp] theorem ry_asg (f : Ev → RX D) (g : D → Ev → Option Ev) : yAsg f g ρ = liftX (f ρ) fun d ρ => match g d ρ with | some ρ' => .nx ρ' | none => .bad := id rfl
@[simp] theorem ry_if (c : Ev → RX Bool) (F F' : Ev → Out) : yIf c F F' ρ = liftX (c ρ) fun b ρ => if b then F ρ else F' ρ := id rfl
@[simp] theorem ry_drop (f : Ev → RX D) : yDrop f ρ = liftX (f ρ) fun _ ρ => .nx ρ := id rfl
@[simp] theorem ry_ret (f : Ev → RX D) : yRet f ρ = liftX (f ρ) fun d ρ => .rt (.sh d) := id rfl
@[simp] theorem ry_retO (f : Ev → RX (List D)) : yRetO f ρ = liftX (f ρ) fun d ρ => .rt (.ow d) := id rfl
@[simp] theorem ry_retB (f : Ev → RX D) : yRetB f ρ = liftX (f ρ) fun d ρ => .rtB (.sh d) ρ := id rfl
@[simp] theorem ry_retOB (f : Ev → RX (List D)) : yRetOB f ρ = liftX (f ρ) fun d ρ => .rtB (.ow d) ρ := id rfl
@[simp] theorem ry_retVB : yRetVB i ρ = (match ρ[i]? with | some (.ow l) => .rtB (.ow l) ρ | some (.sh d) => .rtB (.sh d) ρ | _ => .bad) := id rfl
@[simp] theorem ry_retNB : yRetNB ρ = .rtB (.sh .none) ρ := id rfl
@[simp] theorem ry_for (fi : Ev → RX (List D)) (g : D → Ev → Option Ev) (F : Ev → Out) : yFor fi g F ρ = liftX (fi ρ) fun l ρ => forO (gTo g F) l ρ := id rfl
@[simp] theorem ry_app (f : Ev → RX D) : yApp i f ρ = (match lstAt ρ i with
  | none => .bad
  | some _ => liftX (f ρ) fun d ρ => match lstAt ρ i with
    | some (l, b) => if l.length < sizeLine then .nx (ρ.set i (mkL b (l ++ [d]))) else .bad
    | none => .bad) := id rfl
@[simp] theorem ry_store (fi fv : Ev → RX D) : yStore i fi fv ρ = liftX (fv ρ) fun d ρ => match lstAt ρ i with
  | none => .bad
  | some _ => liftX (fi ρ) fun k ρ => match lstAt ρ i with
    | some (l, b) => match k with
      | .int z => match ixN l.length z with
        | some j => .nx (ρ.set i (mkL b (l.set j d)))
        | none => .bad
      | _ => .bad
    | none => .bad := id rfl
@[simp] theorem rx_fin_rtB (b : Nat) : finB b (.rtB s ρ) = (match ρ[b]? with | some (.bo l) => .ok s l | _ => .bad) := id rfl
@[simp] theorem rx_fin_nx (b : Nat) : finB b (.nx ρ) = (match ρ[b]? with | some (.bo l) => .ok (.sh .none) l | _ => .bad) := id rfl
@[simp] theorem rx_run1 (n b : Nat) (F : Ev → Out) (a : D) (h : b < 1) : runB 1 n b F l [a] = finB b (F ((.sh a :: List.replicate (n - 1) .no).set b (.bo l))) := if_pos ⟨rfl, h⟩
@[simp] theorem rx_run2 (n b : Nat) (F : Ev → Out) (a c : D) (h : b < 2) : runB 2 n b F l [a, c] = finB b (F ((.sh a :: .sh c :: List.replicate (n - 2) .no).set b (.bo l))) := if_pos ⟨rfl, h⟩
@[simp] theorem rx_run3 (n b : Nat) (F : Ev → Out) (a c d : D) (h : b < 3) : runB 3 n b F l [a, c, d] = finB b (F ((.sh a :: .sh c :: .sh d :: List.replicate (n - 3) .no).set b (.bo l))) := if_pos ⟨rfl, h⟩
@[simp] theorem rx_run4 (n b : Nat) (F : Ev → Out) (a c d e : D) (h : b < 4) : runB 4 n b F l [a, c, d, e] = finB b (F ((.sh a :: .sh c :: .sh d :: .sh e :: List.replicate (n - 4) .no).set b (.bo l))) := if_pos ⟨rfl, h⟩
@[simp] theorem r_run0 (n : Nat) (F : Ev → Out) : runD 0 n F [] = fin (F (List.replicate n .no)) := id rfl
/-! defs -/
@[simp] theorem r_fin_nx : fin (.nx ρ) = .ok (.sh .none) := id rfl
@[simp] theorem r_fin_rt : fin (.rt s) = .ok s := id rfl
@[simp] theorem r_fin_ex (u : Xn) : fin (.ex u ρ) = .ex u := id rfl
@[simp] theorem r_run1 (n : Nat) (F : Ev → Out) (a : D) : runD 1 n F [a] = fin (F (.sh a :: List.replicate (n - 1) .no)) := id rfl
@[simp] theorem r_run2 (n : Nat) (F : Ev → Out) (a b : D) : runD 2 n F [a, b] = fin (F (.sh a :: .sh b :: List.replicate (n - 2) .no)) := id rfl
@[simp] theorem r_run3 (n : Nat) (F : Ev → Out) (a b c : D) : runD 3 n F [a, b, c] = fin (F (.sh a :: .sh b :: .sh c :: List.replicate (n - 3) .no)) := id rfl
@[simp] theorem r_run4 (n : Nat) (F : Ev → Out) (a b c d : D) : runD 4 n F [a, b, c, d] = fin (F (.sh a :: .sh b :: .sh c :: .sh d :: List.replicate (n - 4) .no)) := id rfl
/-! data -/
theorem r_lim (l : List D) (h : l.length ≤ sizeLine) : lim l = some l := if_pos h
theorem r_tupD (l : List D) (h : l.length ≤ sizeLine) : tupD l = some (.tuple l) := by unfold tupD; rw [r_lim l h]; rfl
@[simp] theorem r_lim0 : lim [] = some [] := if_pos (show 0 ≤ sizeLine by decide)
@[simp] theorem r_tup0 : tupD [] = some (.tuple []) := r_tupD [] (show 0 ≤ sizeLine by decide)
@[simp] theorem r_lim1 (a0 : D) : lim [a0] = some [a0] := if_pos (show 1 ≤ sizeLine by decide)
@[simp] theorem r_tup1 (a0 : D) : tupD [a0] = some (.tuple [a0]) := r_tupD [a0] (show 1 ≤ sizeLine by decide)
@[simp] theorem r_lim2 (a0 a1 : D) : lim [a0, a1] = some [a0, a1] := if_pos (show 2 ≤ sizeLine by decide)
@[simp] theorem r_tup2 (a0 a1 : D) : tupD [a0, a1] = some (.tuple [a0, a1]) := r_tupD [a0, a1] (show 2 ≤ sizeLine by decide)
@[simp] theorem r_lim3 (a0 a1 a2 : D) : lim [a0, a1, a2] = some [a0, a1, a2] := if_pos (show 3 ≤ sizeLine by decide)
@[simp] theorem r_tup3 (a0 a1 a2 : D) : tupD [a0, a1, a2] = some (.tuple [a0, a1, a2]) := r_tupD [a0, a1, a2] (show 3 ≤ sizeLine by decide)
@[simp] theorem r_lim4 (a0 a1 a2 a3 : D) : lim [a0, a1, a2, a3] = some [a0, a1, a2, a3] := if_pos (show 4 ≤ sizeLine by decide)
@[simp] theorem r_tup4 (a0 a1 a2 a3 : D) : tupD [a0, a1, a2, a3] = some (.tuple [a0, a1, a2, a3]) := r_tupD [a0, a1, a2, a3] (show 4 ≤ sizeLine by decide)
@[simp] theorem r_lim5 (a0 a1 a2 a3 a4 : D) : lim [a0, a1, a2, a3, a4] = some [a0, a1, a2, a3, a4] := if_pos (show 5 ≤ sizeLine by decide)
@[simp] theorem r_tup5 (a0 a1 a2 a3 a4 : D) : tupD [a0, a1, a2, a3, a4] = some (.tuple [a0, a1, a2, a3, a4]) := r_tupD [a0, a1, a2, a3, a4] (show 5 ≤ sizeLine by decide)
@[simp] theorem r_lim6 (a0 a1 a2 a3 a4 a5 : D) : lim [a0, a1, a2, a3, a4, a5] = some [a0, a1, a2, a3, a4, a5] := if_pos (show 6 ≤ sizeLine by decide)
@[simp] theorem r_tup6 (a0 a1 a2 a3 a4 a5 : D) : tupD [a0, a1, a2, a3, a4, a5] = some (.tuple [a0, a1, a2, a3, a4, a5]) := r_tupD [a0, a1, a2, a3, a4, a5] (show 6 ≤ sizeLine by decide)
@[simp] theorem r_lim7 (a0 a1 a2 a3 a4 a5 a6 : D) : lim [a0, a1, a2, a3, a4, a5, a6] = some [a0, a1, a2, a3, a4, a5, a6] := if_pos (show 7 ≤ sizeLine by decide)
@[simp] theorem r_tup7 (a0 a1 a2 a3 a4 a5 a6 : D) : tupD [a0, a1, a2, a3, a4, a5, a6] = some (.tuple [a0, a1, a2, a3, a4, a5, a6]) := r_tupD [a0, a1, a2, a3, a4, a5, a6] (show 7 ≤ sizeLine by decide)
@[simp] theorem r_lim8 (a0 a1 a2 a3 a4 a5 a6 a7 : D) : lim [a0, a1, a2, a3, a4, a5, a6, a7] = some [a0, a1, a2, a3, a4, a5, a6, a7] := if_pos (show 8 ≤ sizeLine by decide)
@[simp] theorem r_tup8 (a0 a1 a2 a3 a4 a5 a6 a7 : D) : tupD [a0, a1, a2, a3, a4, a5, a6, a7] = some (.tuple [a0, a1, a2, a3, a4, a5, a6, a7]) := r_tupD [a0, a1, a2, a3, a4, a5, a6, a7] (show 8 ≤ sizeLine by decide)
@[simp] theorem r_lim9 (a0 a1 a2 a3 a4 a5 a6 a7 a8 : D) : lim [a0, a1, a2, a3, a4, a5, a6, a7, a8] = some [a0, a1, a2, a3, a4, a5, a6, a7, a8] := if_pos (show 9 ≤ sizeLine by decide)
@[simp] theorem r_tup9 (a0 a1 a2 a3 a4 a5 a6 a7 a8 : D) : tupD [a0, a1, a2, a3, a4, a5, a6, a7, a8] = some (.tuple [a0, a1, a2, a3, a4, a5, a6, a7, a8]) := r_tupD [a0, a1, a2, a3, a4, a5, a6, a7, a8] (show 9 ≤ sizeLine by decide)
@[simp] theorem r_lim10 (a0 a1 a2 a3 a4 a5 a6 a7 a8 a9 : D) : lim [a0, a1, a2, a3, a4, a5, a6, a7, a8, a9] = some [a0, a1, a2, a3, a4, a5, a6, a7, a8, a9] := if_pos (show 10 ≤ sizeLine by decide)
@[simp] theorem r_tup10 (a0 a1 a2 a3 a4 a5 a6 a7 a8 a9 : D) : tupD [a0, a1, a2, a3, a4, a5, a6, a7, a8, a9] = some (.tuple [a0, a1, a2, a3, a4, a5, a6, a7, a8, a9]) := r_tupD [a0, a1, a2, a3, a4, a5, a6, a7, a8, a9] (show 10 ≤ sizeLine by decide)
@[simp] theorem r_lim11 (a0 a1 a2 a3 a4 a5 a6 a7 a8 a9 a10 : D) : lim [a0, a1, a2, a3, a4, a5, a6, a7, a8, a9, a10] = some [a0, a1, a2, a3, a4, a5, a6, a7, a8, a9, a10] := if_pos (show 11 ≤ sizeLine by decide)
@[simp] theorem r_tup11 (a0 a1 a2 a3 a4 a5 a6 a7 a8 a9 a10 : D) : tupD [a0, a1, a2, a3, a4, a5, a6, a7, a8, a9, a10] = some (.tuple [a0, a1, a2, a3, a4, a5, a6, a7, a8, a9, a10]) := r_tupD [a0, a1, a2, a3, a4, a5, a6, a7, a8, a9, a10] (show 11 ≤ sizeLine by decide)
@[simp] theorem r_lim12 (a0 a1 a2 a3 a4 a5 a6 a7 a8 a9 a10 a11 : D) : lim [a0, a1, a2, a3, a4, a5, a6, a7, a8, a9, a10, a11] = some [a0, a1, a2, a3, a4, a5, a6, a7, a8, a9, a10, a11] := if_pos (show 12 ≤ sizeLine by decide)
@[simp] theorem r_tup12 (a0 a1 a2 a3 a4 a5 a6 a7 a8 a9 a10 a11 : D) : tupD [a0, a1, a2, a3, a4, a5, a6, a7, a8, a9, a10, a11] = some (.tuple [a0, a1, a2, a3, a4, a5, a6, a7, a8, a9, a10, a11]) := r_tupD [a0, a1, a2, a3, a4, a5, a6, a7, a8, a9, a10, a11] (show 12 ≤ sizeLine by decide)
@[simp] theorem r_lim13 (a0 a1 a2 a3 a4 a5 a6 a7 a8 a9 a10 a11 a12 : D) : lim [a0, a1, a2, a3, a4, a5, a6, a7, a8, a9, a10, a11, a12] = some [a0, a1, a2, a3, a4, a5, a6, a7, a8, a9, a10, a11, a12] := if_pos (show 13 ≤ sizeLine by decide)
@[simp] theorem r_tup13 (a0 a1 a2 a3 a4 a5 a6 a7 a8 a9 a10 a11 a12 : D) : tupD [a0, a1, a2, a3, a4, a5, a6, a7, a8, a9, a10, a11, a12] = some (.tuple [a0, a1, a2, a3, a4, a5, a6, a7, a8, a9, a10, a11, a12]) := r_tupD [a0, a1, a2, a3, a4, a5, a6, a7, a8, a9, a10, a11, a12] (show 13 ≤ sizeLine by decide)
@[simp] theorem r_lim14 (a0 a1 a2 a3 a4 a5 a6 a7 a8 a9 a10 a11 a12 a13 : D) : lim [a0, a1, a2, a3, a4, a5, a6, a7, a8, a9, a10, a11, a12, a13] = some [a0, a1, a2, a3, a4, a5, a6, a7, a8, a9, a10, a11, a12, a13] := if_pos (show 14 ≤ sizeLine by decide)
@[simp] theorem r_tup14 (a0 a1 a2 a3 a4 a5 a6 a7 a8 a9 a10 a11 a12 a13 : D) : tupD [a0, a1, a2, a3, a4, a5, a6, a7, a8, a9, a10, a11, a12, a13] = some (.tuple [a0, a1, a2, a3, a4, a5, a6, a7, a8, a9, a10, a11, a12, a13]) := r_tupD [a0, a1, a2, a3, a4, a5, a6, a7, a8, a9, a10, a11, a12, a13] (show 14 ≤ sizeLine by decide)
@[simp] theorem r_lim15 (a0 a1 a2 a3 a4 a5 a6 a7 a8 a9 a10 a11 a12 a13 a14 : D) : lim [a0, a1, a2, a3, a4, a5, a6, a7, a8, a9, a10, a11, a12, a13, a14] = some [a0, a1, a2, a3, a4, a5, a6, a7, a8, a9, a10, a11, a12, a13, a14] := if_pos (show 15 ≤ sizeLine by decide)
@[simp] theorem r_tup15 (a0 a1 a2 a3 a4 a5 a6 a7 a8 a9 a10 a11 a12 a13 a14 : D) : tupD [a0, a1, a2, a3, a4, a5, a6, a7, a8, a9, a10, a11, a12, a13, a14] = some (.tuple [a0, a1, a2, a3, a4, a5, a6, a7, a8, a9, a10, a11, a12, a13, a14]) := r_tupD [a0, a1, a2, a3, a4, a5, a6, a7, a8, a9, a10, a11, a12, a13, a14] (show 15 ≤ sizeLine by decide)
@[simp] theorem r_lim16 (a0 a1 a2 a3 a4 a5 a6 a7 a8 a9 a10 a11 a12 a13 a14 a15 : D) : lim [a0, a1, a2, a3, a4, a5, a6, a7, a8, a9, a10, a11, a12, a13, a14, a15] = some [a0, a1, a2, a3, a4, a5, a6, a7, a8, a9, a10, a11, a12, a13, a14, a15] := if_pos (show 16 ≤ sizeLine by decide)
@[simp] theorem r_tup16 (a0 a1 a2 a3 a4 a5 a6 a7 a8 a9 a10 a11 a12 a13 a14 a15 : D) : tupD [a0, a1, a2, a3, a4, a5, a6, a7, a8, a9, a10, a11, a12, a13, a14, a15] = some (.tuple [a0, a1, a2, a3, a4, a5, a6, a7, a8, a9, a10, a11, a12, a13, a14, a15]) := r_tupD [a0, a1, a2, a3, a4, a5, a6, a7, a8, a9, a10, a11, a12, a13, a14, a15] (show 16 ≤ sizeLine by decide)
@[simp] theorem r_lim17 (a0 a1 a2 a3 a4 a5 a6 a7 a8 a9 a10 a11 a12 a13 a14 a15 a16 : D) : lim [a0, a1, a2, a3, a4, a5, a6, a7, a8, a9, a10, a11, a12, a13, a14, a15, a16] = some [a0, a1, a2, a3, a4, a5, a6, a7, a8, a9, a10, a11, a12, a13, a14, a15, a16] := if_pos (show 17 ≤ sizeLine by decide)
@[simp] theorem r_tup17 (a0 a1 a2 a3 a4 a5 a6 a7 a8 a9 a10 a11 a12 a13 a14 a15 a16 : D) : tupD [a0, a1, a2, a3, a4, a5, a6, a7, a8, a9, a10, a11, a12, a13, a14, a15, a16] = some (.tuple [a0, a1, a2, a3, a4, a5, a6, a7, a8, a9, a10, a11, a12, a13, a14, a15, a16]) := r_tupD [a0, a1, a2, a3, a4, a5, a6, a7, a8, a9, a10, a11, a12, a13, a14, a15, a16] (show 17 ≤ sizeLine by decide)
@[simp] theorem r_lim18 (a0 a1 a2 a3 a4 a5 a6 a7 a8 a9 a10 a11 a12 a13 a14 a15 a16 a17 : D) : lim [a0, a1, a2, a3, a4, a5, a6, a7, a8, a9, a10, a11, a12, a13, a14, a15, a16, a17] = some [a0, a1, a2, a3, a4, a5, a6, a7, a8, a9, a10, a11, a12, a13, a14, a15, a16, a17] := if_pos (show 18 ≤ sizeLine by decide)
@[simp] theorem r_tup18 (a0 a1 a2 a3 a4 a5 a6 a7 a8 a9 a10 a11 a12 a13 a14 a15 a16 a17 : D) : tupD [a0, a1, a2, a3, a4, a5, a6, a7, a8, a9, a10, a11, a12, a13, a14, a15, a16, a17] = some (.tuple [a0, a1, a2, a3, a4, a5, a6, a7, a8, a9, a10, a11, a12, a13, a14, a15, a16, a17]) := r_tupD [a0, a1, a2, a3, a4, a5, a6, a7, a8, a9, a10, a11, a12, a13, a14, a15, a16, a17] (show 18 ≤ sizeLine by decide)
@[simp] theorem r_lim19 (a0 a1 a2 a3 a4 a5 a6 a7 a8 a9 a10 a11 a12 a13 a14 a15 a16 a17 a18 : D) : lim [a0, a1, a2, a3, a4, a5, a6, a7, a8, a9, a10, a11, a12, a13, a14, a15, a16, a17, a18] = some [a0, a1, a2, a3, a4, a5, a6, a7, a8, a9, a10, a11, a12, a13, a14, a15, a16, a17, a18] := if_pos (show 19 ≤ sizeLine by decide)
@[simp] theorem r_tup19 (a0 a1 a2 a3 a4 a5 a6 a7 a8 a9 a10 a11 a12 a13 a14 a15 a16 a17 a18 : D) : tupD [a0, a1, a2, a3, a4, a5, a6, a7, a8, a9, a10, a11, a12, a13, a14, a15, a16, a17, a18] = some (.tuple [a0, a1, a2, a3, a4, a5, a6, a7, a8, a9, a10, a11, a12, a13, a14, a15, a16, a17, a18]) := r_tupD [a0, a1, a2, a3, a4, a5, a6, a7, a8, a9, a10, a11, a12, a13, a14, a15, a16, a17, a18] (show 19 ≤ sizeLine by decide)
@[simp] theorem r_lim20 (a0 a1 a2 a3 a4 a5 a6 a7 a8 a9 a10 a11 a12 a13 a14 a15 a16 a17 a18 a19 : D) : lim [a0, a1, a2, a3, a4, a5, a6, a7, a8, a9, a10, a11, a12, a13, a14, a15, a16, a17, a18, a19] = some [a0, a1, a2, a3, a4, a5, a6, a7, a8, a9, a10, a11, a12, a13, a14, a15, a16, a17, a18, a19] := if_pos (show 20 ≤ sizeLine by decide)
@[simp] theorem r_tup20 (a0 a1 a2 a3 a4 a5 a6 a7 a8 a9 a10 a11 a12 a13 a14 a15 a16 a17 a18 a19 : D) : tupD [a0, a1, a2, a3, a4, a5, a6, a7, a8, a9, a10, a11, a12, a13, a14, a15, a16, a17, a18, a19] = some (.tuple [a0, a1, a2, a3, a4, a5, a6, a7, a8, a9, a10, a11, a12, a13, a14, a15, a16, a17, a18, a19]) := r_tupD [a0, a1, a2, a3, a4, a5, a6, a7, a8, a9, a10, a11, a12, a13, a14, a15, a16, a17, a18, a19] (show 20 ≤ sizeLine by decide)
@[simp] theorem r_lim21 (a0 a1 a2 a3 a4 a5 a6 a7 a8 a9 a10 a11 a12 a13 a14 a15 a16 a17 a18 a19 a20 : D) : lim [a0, a1, a2, a3, a4, a5, a6, a7, a8, a9, a10, a11, a12, a13, a14, a15, a16, a17, a18, a19, a20] = some [a0, a1, a2, a3, a4, a5, a6, a7, a8, a9, a10, a11, a12, a13, a14, a15, a16, a17, a18, a19, a20] := if_pos (show 21 ≤ sizeLine by decide)
@[simp] theorem r_tup21 (a0 a1 a2 a3 a4 a5 a6 a7 a8 a9 a10 a11 a12 a13 a14 a15 a16 a17 a18 a19 a20 : D) : tupD [a0, a1, a2, a3, a4, a5, a6, a7, a8, a9, a10, a11, a12, a13, a14, a15, a16, a17, a18, a19, a20] = some (.tuple [a0, a1, a2, a3, a4, a5, a6, a7, a8, a9, a10, a11, a12, a13, a14, a15, a16, a17, a18, a19, a20]) := r_tupD [a0, a1, a2, a3, a4, a5, a6, a7, a8, a9, a10, a11, a12, a13, a14, a15, a16, a17, a18, a19, a20] (show 21 ≤ sizeLine by decide)
@[simp] theorem r_lim22 (a0 a1 a2 a3 a4 a5 a6 a7 a8 a9 a10 a11 a12 a13 a14 a15 a16 a17 a18 a19 a20 a21 : D) : lim [a0, a1, a2, a3, a4, a5, a6, a7, a8, a9, a10, a11, a12, a13, a14, a15, a16, a17, a18, a19, a20, a21] = some [a0, a1, a2, a3, a4, a5, a6, a7, a8, a9, a10, a11, a12, a13, a14, a15, a16, a17, a18, a19, a20, a21] := if_pos (show 22 ≤ sizeLine by decide)
@[simp] theorem r_tup22 (a0 a1 a2 a3 a4 a5 a6 a7 a8 a9 a10 a11 a12 a13 a14 a15 a16 a17 a18 a19 a20 a21 : D) : tupD [a0, a1, a2, a3, a4, a5, a6, a7, a8, a9, a10, a11, a12, a13, a14, a15, a16, a17, a18, a19, a20, a21] = some (.tuple [a0, a1, a2, a3, a4, a5, a6, a7, a8, a9, a10, a11, a12, a13, a14, a15, a16, a17, a18, a19, a20, a21]) := r_tupD [a0, a1, a2, a3, a4, a5, a6, a7, a8, a9, a10, a11, a12, a13, a14, a15, a16, a17, a18, a19, a20, a21] (show 22 ≤ sizeLine by decide)
@[simp] theorem r_lim23 (a0 a1 a2 a3 a4 a5 a6 a7 a8 a9 a10 a11 a12 a13 a14 a15 a16 a17 a18 a19 a20 a21 a22 : D) : lim [a0, a1, a2, a3, a4, a5, a6, a7, a8, a9, a10, a11, a12, a13, a14, a15, a16, a17, a18, a19, a20, a21, a22] = some [a0, a1, a2, a3, a4, a5, a6, a7, a8, a9, a10, a11, a12, a13, a14, a15, a16, a17, a18, a19, a20, a21, a22] := if_pos (show 23 ≤ sizeLine by decide)
@[simp] theorem r_tup23 (a0 a1 a2 a3 a4 a5 a6 a7 a8 a9 a10 a11 a12 a13 a14 a15 a16 a17 a18 a19 a20 a21 a22 : D) : tupD [a0, a1, a2, a3, a4, a5, a6, a7, a8, a9, a10, a11, a12, a13, a14, a15, a16, a17, a18, a19, a20, a21, a22] = some (.tuple [a0, a1, a2, a3, a4, a5, a6, a7, a8, a9, a10, a11, a12, a13, a14, a15, a16, a17, a18, a19, a20, a21, a22]) := r_tupD [a0, a1, a2, a3, a4, a5, a6, a7, a8, a9, a10, a11, a12, a13, a14, a15, a16, a17, a18, a19, a20, a21, a22] (show 23 ≤ sizeLine by decide)
@[simp] theorem r_lim24 (a0 a1 a2 a3 a4 a5 a6 a7 a8 a9 a10 a11 a12 a13 a14 a15 a16 a17 a18 a19 a20 a21 a22 a23 : D) : lim [a0, a1, a2, a3, a4, a5, a6, a7, a8, a9, a10, a11, a12, a13, a14, a15, a16, a17, a18, a19, a20, a21, a22, a23] = some [a0, a1, a2, a3, a4, a5, a6, a7, a8, a9, a10, a11, a12, a13, a14, a15, a16, a17, a18, a19, a20, a21, a22, a23] := if_pos (show 24 ≤ sizeLine by decide)
@[simp] theorem r_tup24 (a0 a1 a2 a3 a4 a5 a6 a7 a8 a9 a10 a11 a12 a13 a14 a15 a16 a17 a18 a19 a20 a21 a22 a23 : D) : tupD [a0, a1, a2, a3, a4, a5, a6, a7, a8, a9, a10, a11, a12, a13, a14, a15, a16, a17, a18, a19, a20, a21, a22, a23] = some (.tuple [a0, a1, a2, a3, a4, a5, a6, a7, a8, a9, a10, a11, a12, a13, a14, a15, a16, a17, a18, a19, a20, a21, a22, a23]) := r_tupD [a0, a1, a2, a3, a4, a5, a6, a7, a8, a9, a10, a11, a12, a13, a14, a15, a16, a17, a18, a19, a20, a21, a22, a23] (show 24 ≤ sizeLine by decide)
@[simp] theorem r_tru_b : truD (.bool b) = some b := id rfl
@[simp] theorem r_tru_i : truD (.int x) = some (x != 0) := id rfl
@[simp] theorem r_tru_l : truD (.list l) = some (!l.isEmpty) := id rfl
@[simp] theorem r_tru_t : truD (.tuple l) = some (!l.isEmpty) := id rfl
@[simp] theorem r_tru_n : truD .none = some false := id rfl
@[simp] theorem r_bOf : bOf (.bool b) = some b := id rfl
@[simp] theorem r_add : addD (.int x) (.int y) = some (.int (x + y)) := id rfl
@[simp] theorem r_addL : addD (.list l) (.list m) = (catD l m).map .list := id rfl
@[simp] theorem r_addO : addO (.list l) (.list m) = catD l m := id rfl
@[simp] theorem r_cat (h : l.length + m.length ≤ sizeLine) : catD l m = some (l ++ m) := if_pos h
@[simp] theorem r_sub : subD (.int x) (.int y) = some (.int (x - y)) := id rfl
@[simp] theorem r_mul (h : okMul x y = true) : mulD (.int x) (.int y) = some (.int (x * y)) := if_pos h
@[simp] theorem r_imul (h : okMul x y = true) : imulD (.int x) (.int y) = some (.int (x * y)) := if_pos h
@[simp] theorem r_mulL : mulD (.list l) (.int x) = (repD l x).map .list := id rfl
@[simp] theorem r_mulO : mulO (.list l) (.int x) = repD l x := id rfl
@[simp] theorem r_iadd : iaddD (.int x) (.int y) = some (.int (x + y)) := id rfl
@[simp] theorem r_fdiv (h : okDiv x y = true) : fdivD (.int x) (.int y) = some (.int (x.fdiv y)) := if_pos h
@[simp] theorem r_mod (h : y ≠ 0) : modD (.int x) (.int y) = some (.int (x.fmod y)) := if_pos h
@[simp] theorem r_pow (h : okPow x y = true) : powD (.int x) (.int y) = some (.int (x ^ y.toNat)) := if_pos h
@[simp] theorem r_lt : ltD (.int x) (.int y) = some (.bool (decide (x < y))) := id rfl
@[simp] theorem r_le : leD (.int x) (.int y) = some (.bool (decide (x ≤ y))) := id rfl
@[simp] theorem r_gt : gtD (.int x) (.int y) = some (.bool (decide (y < x))) := id rfl
@[simp] theorem r_ge : geD (.int x) (.int y) = some (.bool (decide (y ≤ x))) := id rfl
@[simp] theorem r_neg : negD (.int x) = some (.int (-x)) := id rfl
@[simp] theorem r_not : notD d = (truD d).map fun k => .bool (!k) := id rfl
@[simp] theorem r_len_l : lenD [.list l] = some (.int l.length) := id rfl
@[simp] theorem r_len_t : lenD [.tuple l] = some (.int l.length) := id rfl
@[simp] theorem r_int_i : intD [.int x] = some (.int x) := id rfl
@[simp] theorem r_int_b : intD [.bool b] = some (.int (if b then 1 else 0)) := id rfl
@[simp] theorem r_abs : absD [.int x] = some (.int (if x < 0 then -x else x)) := id rfl
@[simp] theorem r_gcd : gcdD [.int x, .int y] = some (.int ((Nat.gcd x.natAbs y.natAbs : Nat) : Int)) := id rfl
@[simp] theorem r_all : allD [.list l] = (blsD l).map fun bs => .bool (bs.all id) := id rfl
@[simp] theorem r_any : anyD [.list l] = (blsD l).map fun bs => .bool (bs.any id) := id rfl
@[simp] theorem r_sum : sumD [.list l] = (intsD l).map fun bs => .int bs.sum := id rfl
@[simp] theorem r_bls (bs : List Bool) : blsD (bs.map .bool) = some bs := blsD_map bs
@[simp] theorem r_ints (bs : List Int) : intsD (bs.map .int) = some bs := intsD_map bs
@[simp] theorem r_bls_nil : blsD [] = some [] := id rfl
@[simp] theorem r_bls_cons : blsD (.bool b :: l) = (blsD l).map (b :: ·) := id rfl
@[simp] theorem r_ints_nil : intsD [] = some [] := id rfl
@[simp] theorem r_ints_cons : intsD (.int x :: l) = (intsD l).map (x :: ·) := id rfl
@[simp] theorem r_listO : listO [.list l] = some l := id rfl
@[simp] theorem r_listOt : listO [.tuple l] = some l := id rfl
@[simp] theorem r_tupleD : tupleD [.list l] = some (.tuple l) := id rfl
@[simp] theorem r_tupleDt : tupleD [.tuple l] = some (.tuple l) := id rfl
@[simp] theorem r_sPopX : sPopX j ρ = onOw j ρ fun l => match l.getLast? with
  | some _ => .nx (ρ.set j (.ow l.dropLast))
  | none => .bad := id rfl
@[simp] theorem r_strI (h : x.natAbs.log2 < 1920) : strD [.int x] = some (.str (toString x)) := if_pos h
@[simp] theorem r_strS (u : Str) : strD [.str u] = some (.str u) := id rfl
@[simp] theorem r_eDSel (ks : List Str) (fs : Ev → R (List D)) (fk : Ev → R D) : eDSel ks fs fk ρ = (fs ρ).bind fun ds => (fk ρ).bind fun k => ofO (selD ks ds k) := id rfl
@[simp] theorem r_seq_l : seqD (.list l) = some l := id rfl
@[simp] theorem r_seq_t : seqD (.tuple l) = some l := id rfl
@[simp] theorem r_enu : enuD [.list l] = some (enuL l) := id rfl
@[simp] theorem r_zip : zipD [.list l, .list m] = some (zipL l m) := id rfl
@[simp] theorem r_intOf : intOf (.int x) = some (some x) := id rfl
@[simp] theorem r_slice (o o' : Option Int) : sliceD (.list l) o o' = some (.list (cutL l o o')) := id rfl
@[simp] theorem r_sliceT (o o' : Option Int) : sliceD (.tuple l) o o' = some (.tuple (cutL l o o')) := id rfl
@[simp] theorem r_sliceO (o o' : Option Int) : sliceO (.list l) o o' = some (cutL l o o') := id rfl
@[simp] theorem r_revO : revO (.list l) = some l.reverse := id rfl
@[simp] theorem r_ix_l : ixD (.list l) (.int x) = atI l x := id rfl
@[simp] theorem r_ix_t : ixD (.tuple l) (.int x) = atI l x := id rfl
theorem r_at (n : Nat) : atI l (n : Int) = l[n]? := by
  unfold atI ixN
  by_cases h : n < l.length
  · rw [if_pos (by omega), if_pos (by omega)]; simp
  · rw [if_pos (by omega), if_neg (by omega), List.getElem?_eq_none (by omega)]; rfl
@[simp] theorem r_atI (h0 : 0 ≤ x) : atI l x = l[x.toNat]? := by
  have := r_at (l := l) x.toNat
  rwa [Int.toNat_of_nonneg h0] at this
@[simp] theorem r_at_last : atI (l ++ [d]) (-1 : Int) = some d := by
  unfold atI ixN
  have e : ((-1 : Int) + ((l ++ [d]).length : Nat)).toNat = l.length := by simp; omega
  rw [if_neg (by decide), if_pos (by simp; omega), e]
  simp
theorem range1_ok (h : x < 2 ^ 62) (h0 : -(2 ^ 62) ≤ x) : range1D [.int x] = some (rngL 0 1 x.toNat) := by
  show (if in62 x then _ else _) = _
  rw [if_pos (show in62 x = true from decide_eq_true ⟨h0, h⟩)]
theorem range2_ok (h : x < 2 ^ 62) (h0 : -(2 ^ 62) ≤ x) (h' : y < 2 ^ 62) (h0' : -(2 ^ 62) ≤ y) : range2D [.int x, .int y] = some (rngL x 1 (y - x).toNat) := by
  show (if in62 x && in62 y then _ else _) = _
  have e1 : in62 x = true := decide_eq_true ⟨h0, h⟩
  have e2 : in62 y = true := decide_eq_true ⟨h0', h'⟩
  rw [e1, e2]; rfl
end

/-! ### sizes -/
/-- |i| < 2^k -/
structure Sz (k : Nat) (i : Int) : Prop where
  lt : i.natAbs < 2 ^ k
section
variable {a b k m : Nat} {i j : Int}
theorem Sz.mono (h : Sz a i) (l : a ≤ b) : Sz b i := ⟨Nat.lt_of_lt_of_le h.lt (Nat.pow_le_pow_right (by decide) l)⟩
theorem Sz.neg (h : Sz a i) : Sz a (-i) := ⟨by rw [Int.natAbs_neg]; exact h.lt⟩
theorem Sz.mul (h : Sz a i) (h' : Sz b j) : Sz (a + b) (i * j) := ⟨by
  rw [Int.natAbs_mul, Nat.pow_add]
  exact Nat.mul_lt_mul'' h.lt h'.lt⟩
theorem Sz.add (h : Sz a i) (h' : Sz a j) : Sz (a + 1) (i + j) := ⟨by
  rw [Nat.pow_succ]
  have := Int.natAbs_add_le i j
  have := h.lt
  have := h'.lt
  omega⟩
theorem Sz.sub (h : Sz a i) (h' : Sz a j) : Sz (a + 1) (i - j) := by
  rw [Int.sub_eq_add_neg]; exact h.add h'.neg
theorem Sz.of_le (h : Sz a i) (l : j.natAbs ≤ i.natAbs) : Sz a j := ⟨Nat.lt_of_le_of_lt l h.lt⟩
theorem fdiv_abs (i j : Int) : (i.fdiv j).natAbs ≤ i.natAbs := Int.natAbs_fdiv_le_natAbs i j
theorem Sz.fdiv (h : Sz a i) : Sz a (i.fdiv j) := h.of_le (fdiv_abs i j)
theorem Sz.lit (h : decide (i.natAbs < 2 ^ a) = true) : Sz a i := ⟨(of_decide_eq_true h : i.natAbs < 2 ^ a)⟩
theorem bits_le (h : Sz k i) : Builtin.Int.intBits i ≤ k := by
  unfold Builtin.Int.intBits
  have := h.lt
  split
  · omega
  · rename_i z
    have hz : i.natAbs ≠ 0 := by simpa using z
    have := (Nat.log2_lt hz).mpr this
    omega
theorem sz_bits (h : Builtin.Int.intBits i ≤ k) : Sz k i := by
  unfold Builtin.Int.intBits at h
  split at h
  · rename_i e
    simp at e; subst e
    exact ⟨Nat.two_pow_pos _⟩
  · rename_i e
    exact ⟨(Nat.log2_lt (by simpa using e)).mp (by omega)⟩
theorem okMul_of (h : Sz a i) (h' : Sz b j) (l : a + b ≤ 134217728) : okMul i j = true := by
  have e1 := bits_le h
  have e2 := bits_le h'
  unfold okMul
  exact decide_eq_true (by omega)
theorem okDiv_of (h : Sz 9000 j) (hj : j ≠ 0) : okDiv i j = true := by
  have hz : j.natAbs ≠ 0 := by omega
  have := (Nat.log2_lt hz).mpr h.lt
  unfold okDiv Builtin.divisionGoesByPylong
  have e : ¬ (300 < j.natAbs.log2 / 30 + 1) := by omega
  simp [hj, e]
theorem okDiv_lit (h : decide (j.natAbs < 2 ^ 64) = true) (hj : j ≠ 0) : okDiv i j = true := okDiv_of ((Sz.lit (a := 64) h).mono (by decide)) hj
end

/-- for omega -/
theorem Sz.of {k : Nat} {i : Int} (c : Nat) (h : -(c : Int) < i) (h' : i < c) (hc : decide (c ≤ 2 ^ k) = true) : Sz k i := ⟨Nat.lt_of_lt_of_le (by omega : i.natAbs < c) (of_decide_eq_true hc)⟩
theorem r_mulS {x y : Int} (h1 : -1000000000000000000000000 < x) (h2 : x < 1000000000000000000000000) (h3 : -1000000000000000000000000 < y) (h4 : y < 1000000000000000000000000) : mulD (.int x) (.int y) = some (.int (x * y)) :=
  r_mul (okMul_of (a := 80) (b := 80) (Sz.of 1000000000000000000000000 h1 h2 (by decide)) (Sz.of 1000000000000000000000000 h3 h4 (by decide)) (by decide))
/-! ### draws -/
structure IsDraws (c : Nat) (xs : List Int) : Prop where
  len : xs.length = c
  lo : ∀ x ∈ xs, 0 ≤ x
  hi : ∀ x ∈ xs, x < 1000
def gI (xs : List Int) (i : Nat) : Int := xs.getD i 0
section
variable {c : Nat} {xs : List Int}
theorem IsDraws.get (h : IsDraws c xs) (i : Nat) (hi : i < c) : xs[i]? = some (gI xs i) := by
  unfold gI
  rw [List.getD_eq_getElem?_getD, List.getElem?_eq_getElem (by rw [h.len]; exact hi)]; rfl
theorem cut_map {α : Type} (F : α → D) (xs : List α) (lo hi : Option Int) : cutL (xs.map F) lo hi = ((xs.drop (HT.sIx xs.length 0 lo)).take (HT.sIx xs.length xs.length hi - HT.sIx xs.length 0 lo)).map F := by
  unfold cutL; rw [List.length_map, List.map_take, List.map_drop]
theorem sIx_in {n d : Nat} {v : Int} (h0 : 0 ≤ v) (h : v ≤ n) : HT.sIx n d (some v) = v.toNat := by
  show (if v < 0 then (v + (n : Int)).toNat else min v.toNat n) = _
  rw [if_neg (by omega)]; omega
theorem IsDraws.sub (h : IsDraws c xs) (a b : Nat) (hb : b ≤ c) (hab : a ≤ b) : IsDraws (b - a) ((xs.drop a).take (b - a)) := ⟨by simp [h.len]; omega, fun x hx => h.lo x (List.mem_of_mem_drop (List.mem_of_mem_take hx)), fun x hx => h.hi x (List.mem_of_mem_drop (List.mem_of_mem_take hx))⟩
end
@[simp] theorem kit_bool_bool : kitB "bool" "bool" = some true := by decide +kernel
@[simp] theorem kit_bool_int : kitB "bool" "int" = some true := by decide +kernel
@[simp] theorem kit_bool_str : kitB "bool" "str" = some false := by decide +kernel
@[simp] theorem kit_bool_list : kitB "bool" "list" = some false := by decide +kernel
@[simp] theorem kit_bool_tuple : kitB "bool" "tuple" = some false := by decide +kernel
@[simp] theorem kit_int_bool : kitB "int" "bool" = some false := by decide +kernel
@[simp] theorem kit_int_int : kitB "int" "int" = some true := by decide +kernel
@[simp] theorem kit_int_str : kitB "int" "str" = some false := by decide +kernel
@[simp] theorem kit_int_list : kitB "int" "list" = some false := by decide +kernel
@[simp] theorem kit_int_tuple : kitB "int" "tuple" = some false := by decide +kernel
@[simp] theorem kit_str_bool : kitB "str" "bool" = some false := by decide +kernel
@[simp] theorem kit_str_int : kitB "str" "int" = some false := by decide +kernel
@[simp] theorem kit_str_str : kitB "str" "str" = some true := by decide +kernel
@[simp] theorem kit_str_list : kitB "str" "list" = some false := by decide +kernel
@[simp] theorem kit_str_tuple : kitB "str" "tuple" = some false := by decide +kernel
@[simp] theorem kit_list_bool : kitB "list" "bool" = some false := by decide +kernel
@[simp] theorem kit_list_int : kitB "list" "int" = some false := by decide +kernel
@[simp] theorem kit_list_str : kitB "list" "str" = some false := by decide +kernel
@[simp] theorem kit_list_list : kitB "list" "list" = some true := by decide +kernel
@[simp] theorem kit_list_tuple : kitB "list" "tuple" = some false := by decide +kernel
@[simp] theorem kit_tuple_bool : kitB "tuple" "bool" = some false := by decide +kernel
@[simp] theorem kit_tuple_int : kitB "tuple" "int" = some false := by decide +kernel
@[simp] theorem kit_tuple_str : kitB "tuple" "str" = some false := by decide +kernel
@[simp] theorem kit_tuple_list : kitB "tuple" "list" = some false := by decide +kernel
@[simp] theorem kit_tuple_tuple : kitB "tuple" "tuple" = some true := by decide +kernel
@[simp] theorem kit_NoneType_bool : kitB "NoneType" "bool" = some false := by decide +kernel
@[simp] theorem kit_NoneType_int : kitB "NoneType" "int" = some false := by decide +kernel
@[simp] theorem kit_NoneType_str : kitB "NoneType" "str" = some false := by decide +kernel
@[simp] theorem kit_NoneType_list : kitB "NoneType" "list" = some false := by decide +kernel
@[simp] theorem kit_NoneType_tuple : kitB "NoneType" "tuple" = some false := by decide +kernel
@[simp] theorem isi_bool (n : String) (b : Bool) : isiD n (.bool b) = (kitB "bool" n).map .bool := rfl
@[simp] theorem isi_int (n : String) (b : Int) : isiD n (.int b) = (kitB "int" n).map .bool := rfl
@[simp] theorem isi_str (n : String) (b : Str) : isiD n (.str b) = (kitB "str" n).map .bool := rfl
@[simp] theorem isi_list (n : String) (b : List D) : isiD n (.list b) = (kitB "list" n).map .bool := rfl
@[simp] theorem isi_tup (n : String) (b : List D) : isiD n (.tuple b) = (kitB "tuple" n).map .bool := rfl
@[simp] theorem isi_none (n : String) : isiD n .none = (kitB "NoneType" n).map .bool := rfl

/-! ### loops -/
theorem forO_gen {F : D → Ev → Out} (J : Out → Prop) : ∀ {l : List D} (I : Nat → Ev → Prop) {ρ : Ev}, I 0 ρ →
    (∀ i d ρ, l[i]? = some d → I i ρ → (∃ ρ', (F d ρ = .nx ρ' ∨ F d ρ = .ct ρ') ∧ I (i + 1) ρ') ∨ (∃ ρ', F d ρ = .bk ρ' ∧ J (.nx ρ')) ∨ (∃ r, F d ρ = .rt r ∧ J (.rt r)) ∨ (∃ r ρ', F d ρ = .rtB r ρ' ∧ J (.rtB r ρ')) ∨ (∃ x ρ', F d ρ = .ex x ρ' ∧ J (.ex x ρ'))) →
    (∀ ρ, I l.length ρ → J (.nx ρ)) → J (forO F l ρ)
  | [], I, ρ, h0, _, e => e ρ h0
  | d :: l, I, ρ, h0, st, e => by
    have ih : ∀ ρ', I 1 ρ' → J (forO F l ρ') := fun ρ' h => forO_gen J (fun i => I (i + 1)) h (fun i d ρ hd hi => st (i + 1) d ρ (by simpa using hd) hi) (fun ρ h => e ρ (by simpa using h))
    unfold forO
    rcases st 0 d ρ (by simp) h0 with ⟨ρ', h | h, hi⟩ | ⟨ρ', h, hj⟩ | ⟨r, h, hj⟩ | ⟨r, ρ', h, hj⟩ | ⟨x, ρ', h, hj⟩
    · rw [h]; exact ih ρ' hi
    · rw [h]; exact ih ρ' hi
    · rw [h]; exact hj
    · rw [h]; exact hj
    · rw [h]; exact hj
    · rw [h]; exact hj
theorem forO_inv {F : D → Ev → Out} {l : List D} (I : Nat → Ev → Prop) {ρ : Ev} (h0 : I 0 ρ) (st : ∀ i d ρ, l[i]? = some d → I i ρ → ∃ ρ', (F d ρ = .nx ρ' ∨ F d ρ = .ct ρ') ∧ I (i + 1) ρ') : ∃ ρ', forO F l ρ = .nx ρ' ∧ I l.length ρ' :=
  forO_gen (fun o => ∃ ρ', o = .nx ρ' ∧ I l.length ρ') I h0 (fun i d ρ hd hi => .inl (st i d ρ hd hi)) fun ρ h => ⟨ρ, rfl, h⟩
theorem rng0_get {n i : Nat} {d : D} (h : (rngL 0 1 n)[i]? = some d) : i < n ∧ d = .int (i : Nat) := by
  obtain ⟨h1, rfl⟩ := rngL_get h
  exact ⟨h1, by simp⟩
theorem compR_map {step : D → R (Option D)} (φ : D → D) : ∀ {l : List D}, (∀ d ∈ l, step d = .ok (some (φ d))) → compR step l = .ok (l.map φ)
  | [], _ => rfl
  | d :: l, h => by
    unfold compR
    rw [h d (by simp), compR_map φ (l := l) fun e he => h e (by simp [he])]
    rfl
theorem compR_map' {α : Type} {step : D → R (Option D)} {F : α → D} {φ : α → D} : ∀ {l : List α}, (∀ a ∈ l, step (F a) = .ok (some (φ a))) → compR step (l.map F) = .ok (l.map φ)
  | [], _ => rfl
  | a :: l, h => by
    rw [List.map_cons]
    unfold compR
    rw [h a (by simp), compR_map' (l := l) fun e he => h e (by simp [he])]
    rfl
/-! ### data without dicts, of a small depth -/
mutual
def okD : Nat → D → Bool
  | _, .none => true
  | _, .bool _ => true
  | _, .int _ => true
  | _, .str x => PyData.strOk x
  | 0, _ => false
  | n + 1, .list l => okL n l
  | n + 1, .tuple l => okL n l
  | _, .dict _ => false
def okL : Nat → List D → Bool
  | _, [] => true
  | n, d :: l => okD n d && okL n l
end
mutual
theorem okD_spec : ∀ (n : Nat) (d : D), okD n d = true → d.canLay0 = true ∧ d.depth ≤ n
  | _, .none, _ => ⟨rfl, Nat.zero_le _⟩
  | _, .bool _, _ => ⟨rfl, Nat.zero_le _⟩
  | _, .int _, _ => ⟨rfl, Nat.zero_le _⟩
  | 0, .str x, h => ⟨by simpa [okD, PyData.canLay0] using h, Nat.zero_le _⟩
  | n + 1, .str x, h => ⟨by simpa [okD, PyData.canLay0] using h, Nat.zero_le _⟩
  | 0, .list _, h => by simp [okD] at h
  | 0, .tuple _, h => by simp [okD] at h
  | 0, .dict _, h => by simp [okD] at h
  | n + 1, .dict _, h => by simp [okD] at h
  | n + 1, .list l, h => by
    obtain ⟨h1, h2⟩ := okL_spec n l (by simpa [okD] using h)
    exact ⟨by simpa [PyData.canLay0] using h1, by simpa [PyData.depth] using h2⟩
  | n + 1, .tuple l, h => by
    obtain ⟨h1, h2⟩ := okL_spec n l (by simpa [okD] using h)
    exact ⟨by simpa [PyData.canLay0] using h1, by simpa [PyData.depth] using h2⟩
theorem okL_spec : ∀ (n : Nat) (l : List D), okL n l = true → PyData.canLayAll0 l = true ∧ PyData.depthAll l ≤ n
  | _, [], _ => ⟨rfl, Nat.zero_le _⟩
  | n, d :: l, h => by
    have h' : okD n d = true ∧ okL n l = true := by simpa [okL] using h
    obtain ⟨h1, h2⟩ := okD_spec n d h'.1
    obtain ⟨h3, h4⟩ := okL_spec n l h'.2
    exact ⟨by simp [PyData.canLayAll0, h1, h3], by simp [PyData.depthAll]; omega⟩
end
theorem okL_iff : ∀ {n : Nat} {l : List D}, okL n l = true ↔ ∀ d ∈ l, okD n d = true
  | n, [] => by simp [okL]
  | n, d :: l => by simp [okL, okL_iff (l := l)]
@[simp] theorem okD_int (n : Nat) (i : Int) : okD n (.int i) = true := by cases n <;> rfl
@[simp] theorem okD_bool (n : Nat) (i : Bool) : okD n (.bool i) = true := by cases n <;> rfl
@[simp] theorem okD_none (n : Nat) : okD n .none = true := by cases n <;> rfl
@[simp] theorem okD_list (n : Nat) (l : List D) : okD (n + 1) (.list l) = okL n l := rfl
@[simp] theorem okD_tuple (n : Nat) (l : List D) : okD (n + 1) (.tuple l) = okL n l := rfl
@[simp] theorem okL_nil (n : Nat) : okL n [] = true := rfl
@[simp] theorem okL_cons (n : Nat) (d : D) (l : List D) : okL n (d :: l) = (okD n d && okL n l) := rfl
@[simp] theorem okL_ints (n : Nat) (l : List Int) : okL n (l.map .int) = true := okL_iff.mpr fun d h => by
  obtain ⟨i, _, rfl⟩ := List.mem_map.mp h
  exact okD_int n i
theorem shaped_of {d : D} (h : okD 64 d = true) : SeqAt.shaped d = true := by
  obtain ⟨h1, h2⟩ := okD_spec _ _ h
  unfold SeqAt.shaped
  simp [h1, h2]
theorem r_eqD {a b : D} (h : okD 64 a = true) (h' : okD 64 b = true) : eqD a b = some (.bool (PyData.eqv a b)) := by
  unfold eqD; rw [shaped_of h, shaped_of h']; rfl
@[simp] theorem r_eq_s (x y : Str) : eqD (.str x) (.str y) = some (.bool (decide (x = y))) := by
  unfold eqD
  split
  · show some (PyData.bool (x == y)) = _
    by_cases h : x = y
    · subst h; simp
    · simp [h]
  · rfl
@[simp] theorem r_ne_s (x y : Str) : neD (.str x) (.str y) = some (.bool (!decide (x = y))) := by
  unfold neD
  split
  · show some (PyData.bool (!(x == y))) = _
    by_cases h : x = y
    · subst h; simp
    · simp [h]
  · rfl
theorem r_neD {a b : D} (h : okD 64 a = true) (h' : okD 64 b = true) : neD a b = some (.bool (!PyData.eqv a b)) := by
  unfold neD; rw [shaped_of h, shaped_of h']; rfl
theorem eqv_self {d : D} (h : okD 64 d = true) : PyData.eqv d d = true := SeqAt.eqv_refl d (okD_spec _ _ h).1
theorem r_ne_self {d : D} (h : okD 64 d = true) : neD d d = some (.bool false) := by rw [r_neD h h, eqv_self h]; rfl
@[simp] theorem r_eq_i (i j : Int) : eqD (.int i) (.int j) = some (.bool (decide (i = j))) := by rw [r_eqD (by simp) (by simp)]; rfl
@[simp] theorem r_ne_i (i j : Int) : neD (.int i) (.int j) = some (.bool (!decide (i = j))) := by rw [r_neD (by simp) (by simp)]; rfl
/-! ### repr: sizes -/
structure Sw (w : Nat) (d : D) : Prop where
  sh : d.showable = true
  le : d.shown.length ≤ w
theorem Sw.mono {w w' : Nat} {d : D} (h : Sw w d) (e : w ≤ w') : Sw w' d := ⟨h.sh, Nat.le_trans h.le e⟩
end VL

set_option Elab.async false
set_option linter.all false
set_option maxRecDepth 100000
set_option autoImplicit false
namespace W
open PySem PySem.Spec PyProof.Rows L2 VL
noncomputable def b__law_draws_1 : Ev → Out := sSeq (sSet 6 (cst (.int 0))) (sSeq (sIf (e1 bOf (e2 gtD (e1 lenD (eCons (eOwn 2) (cst []))) (cst (.int 0)))) (sSeq (sSet 7 (e2 modD (e1 intD (eCons (eOwn 5) (cst []))) (e1 lenD (eCons (eOwn 2) (cst []))))) (sIf (e1 bOf (e2 geD (e2 ixD (eOwn 2) (eOwn 7)) (e2 powD (cst (.int 10)) (cst (.int 18))))) (sSeq (sSet 6 (e2 modD (e1 intD (eCons (e2 ixD (eOwn 2) (eOwn 7)) (cst []))) (cst (.int 1000)))) (sStore 2 (eVar 7) (e2 fdivD (e2 ixD (eOwn 2) (eOwn 7)) (cst (.int 1000))))) (sSeq (sSet 8 (e2 modD (e1 intD (eCons (e2 addD (e2 addD (e2 mulD (e2 ixD (eOwn 2) (eOwn 7)) (cst (.int 48271))) (e2 mulD (eOwn 5) (cst (.int 69621)))) (cst (.int 11))) (cst []))) (cst (.int 2147483647)))) (sSeq (sSet 8 (e2 modD (e1 intD (eCons (e2 addD (e2 mulD (eOwn 8) (cst (.int 16807))) (eOwn 7)) (cst []))) (cst (.int 2147483629)))) (sSet 6 (e2 modD (e1 intD (eCons (e2 fdivD (eOwn 8) (cst (.int 7))) (cst []))) (cst (.int 1000)))))))) (sNil)) (sApp 4 (eVar 6)))
noncomputable def c__law_draws : Ev → Out := sSeq (sSetO 2 (eComp [3] (e1 seqD (eVar 0)) (gSet 3) (cst true) (eVar 3))) (sSeq (sSetO 4 (e1 lim (cst []))) (sSeq (sFor (e1 range1D (eCons (eOwn 1) (cst []))) (gSet 5) b__law_draws_1) (sRetV 4)))
noncomputable def m__law_draws : List D → R SD := runD 2 9 c__law_draws
noncomputable def c_number : Ev → Out := sSeq (sIf (e1 bOf (e2 ltD (eOwn 1) (cst (.int 0)))) (sPar 0 1 (eCons (e1 negD (eOwn 0)) (eCons (e1 negD (eOwn 1)) (cst [])))) (sNil)) (sSeq (sSet 2 (e1 gcdD (eCons (eOwn 0) (eCons (eOwn 1) (cst []))))) (sRet (e1 tupD (eCons (e2 fdivD (eOwn 0) (eOwn 2)) (eCons (e2 fdivD (eOwn 1) (eOwn 2)) (cst []))))))
noncomputable def m_number : List D → R SD := runD 2 3 c_number
noncomputable def c_plus : Ev → Out := sRet (eCall m_number (eCons (e2 addD (e2 mulD (e2 ixD (eOwn 0) (cst (.int 0))) (e2 ixD (eOwn 1) (cst (.int 1)))) (e2 mulD (e2 ixD (eOwn 1) (cst (.int 0))) (e2 ixD (eOwn 0) (cst (.int 1))))) (eCons (e2 mulD (e2 ixD (eOwn 0) (cst (.int 1))) (e2 ixD (eOwn 1) (cst (.int 1)))) (cst []))))
noncomputable def m_plus : List D → R SD := runD 2 2 c_plus
noncomputable def c_times : Ev → Out := sRet (eCall m_number (eCons (e2 mulD (e2 ixD (eOwn 0) (cst (.int 0))) (e2 ixD (eOwn 1) (cst (.int 0)))) (eCons (e2 mulD (e2 ixD (eOwn 0) (cst (.int 1))) (e2 ixD (eOwn 1) (cst (.int 1)))) (cst []))))
noncomputable def m_times : List D → R SD := runD 2 2 c_times
noncomputable def c_divided : Ev → Out := sRet (eCall m_number (eCons (e2 mulD (e2 ixD (eOwn 0) (cst (.int 0))) (e2 ixD (eOwn 1) (cst (.int 1)))) (eCons (e2 mulD (e2 ixD (eOwn 0) (cst (.int 1))) (e2 ixD (eOwn 1) (cst (.int 0)))) (cst []))))
noncomputable def m_divided : List D → R SD := runD 2 2 c_divided
/-! ### draws -/
theorem slB {n : Nat} (h : n ≤ 100000) : n ≤ sizeLine := Nat.le_trans h (by decide)
theorem idD_ok (l : List D) (ρ : Ev) (k : Nat) (hk : k < ρ.length) : compR (compS [k] (gSet k) (cst true) (eVar k) ρ) l = .ok l := by
  have := compR_map (step := compS [k] (gSet k) (cst true) (eVar k) ρ) (fun d => d) (l := l) fun d _ => by
    simp [compS, hk]
  rw [this, List.map_id']
theorem fmod_rng {a b : Int} (h : 0 < b) : 0 ≤ a.fmod b ∧ a.fmod b < b := ⟨Int.fmod_nonneg_of_pos a h, Int.fmod_lt_of_pos a h⟩
theorem draws_app {c : Nat} {xs : List Int} (hx : IsDraws c xs) (x : Int) (h1 : 0 ≤ x) (h2 : x < 1000) : IsDraws (c + 1) (xs ++ [x]) := ⟨by simp [hx.len], fun y hy => by
  rcases List.mem_append.mp hy with h | h
  · exact hx.lo y h
  · simp at h; subst h; exact h1, fun y hy => by
  rcases List.mem_append.mp hy with h | h
  · exact hx.hi y h
  · simp at h; subst h; exact h2⟩
theorem draws_step {a b : SD} {rs xs : List Int} {j3 j5 j6 j7 j8 : SD} {i : Nat} (hi : i < 100000) (hrl : rs.length ≤ 63) (hrz : ∀ z ∈ rs, Sz 1048577 z) (hx : IsDraws i xs) :
    ∃ (rs' : List Int) (x : Int) (k5 k6 k7 k8 : SD), gTo (gSet 5) b__law_draws_1 (.int (i : Nat)) [a, b, .ow (rs.map .int), j3, .ow (xs.map .int), j5, j6, j7, j8] = .nx [a, b, .ow (rs'.map .int), j3, .ow ((xs ++ [x]).map .int), k5, k6, k7, k8] ∧ rs'.length = rs.length ∧ (∀ z ∈ rs', Sz 1048577 z) ∧ 0 ≤ x ∧ x < 1000 := by
  have hxl : xs.length < sizeLine := by rw [hx.len]; exact Nat.lt_of_lt_of_le hi (by decide)
  by_cases he : 0 < rs.length
  · have hne : (rs.length : Int) ≠ 0 := by omega
    obtain ⟨a1, a2⟩ := fmod_rng (a := ((i : Nat) : Int)) (b := rs.length) (by omega)
    generalize hk : (((i : Nat) : Int).fmod rs.length) = k at a1 a2
    have hm : modD (.int (i : Nat)) (.int rs.length) = some (.int k) := by rw [r_mod hne, hk]
    obtain ⟨v, hv⟩ : ∃ v, rs[k.toNat]? = some v := ⟨_, List.getElem?_eq_getElem (by omega)⟩
    have hvz : Sz 1048577 v := hrz v (List.mem_of_getElem? hv)
    by_cases hbig : 1000000000000000000 ≤ v
    · have hd : okDiv v 1000 = true := okDiv_lit (by decide) (by decide)
      have hix : ixN rs.length k = some k.toNat := by unfold ixN; rw [if_pos a1, if_pos a2]
      refine ⟨rs.set k.toNat (v.fdiv 1000), v.fmod 1000, .sh (.int (i : Nat)), .sh (.int (v.fmod 1000)), .sh (.int k), j8, ?_, by simp, fun z hz => ?_, (fmod_rng (by decide)).1, (fmod_rng (by decide)).2⟩
      · simp [b__law_draws_1, he, hm, a1, hv, hbig, hd, hix, hxl, okPow]
      · rcases List.mem_or_eq_of_mem_set hz with h | h
        · exact hrz z h
        · subst h; exact hvz.fdiv
    · have h1 : okMul v 48271 = true := okMul_of hvz (b := 100) (.lit (by decide)) (by decide)
      have hi2 : Sz 100 (i : Nat) := (Sz.lit (i := 100000) (a := 100) (by decide)).of_le (by omega)
      have h2 : okMul (i : Nat) 69621 = true := okMul_of hi2 (b := 100) (.lit (by decide)) (by decide)
      have h3 : okMul ((v * 48271 + (i : Nat) * 69621 + 11).fmod 2147483647) 16807 = true := by
        obtain ⟨b1, b2⟩ := fmod_rng (a := v * 48271 + (i : Nat) * 69621 + 11) (b := 2147483647) (by decide)
        exact okMul_of (a := 100) (b := 100) ((Sz.lit (i := 2147483647) (a := 100) (by decide)).of_le (by omega)) (.lit (by decide)) (by decide)
      have h4 : ∀ x : Int, okDiv x 7 = true := fun x => okDiv_lit (by decide) (by decide)
      exact ⟨rs, _, _, _, _, _, by simp [b__law_draws_1, he, hm, a1, hv, hbig, h1, h2, h3, h4, hxl, okPow]; exact ⟨rfl, rfl, rfl, rfl, rfl⟩, rfl, hrz, (fmod_rng (by decide)).1, (fmod_rng (by decide)).2⟩
  · have h0 : rs = [] := by cases rs with | nil => rfl | cons _ _ => simp at he
    subst h0
    exact ⟨[], 0, _, _, _, _, by simp [b__law_draws_1, hxl]; exact ⟨rfl, rfl, rfl, rfl⟩, rfl, hrz, by decide, by decide⟩
theorem draws_ok (ns : List Int) (hn : ns.length ≤ 63) (hb : ∀ z ∈ ns, Builtin.Int.intBits z ≤ 1048576) (z : Int) (c : Nat) (hz : z = c) (hc : c ≤ 100000) : ∃ xs : List Int, m__law_draws [.list (ns.map .int), .int z] = .ok (.ow (xs.map .int)) ∧ IsDraws c xs := by
  subst hz
  obtain ⟨ρ', e, hρ⟩ := forO_inv (F := gTo (gSet 5) b__law_draws_1) (l := rngL 0 1 c)
    (fun i ρ => ∃ rs xs : List Int, ∃ j3 j5 j6 j7 j8 : SD, ρ = [.sh (.list (ns.map .int)), .sh (.int c), .ow (rs.map .int), j3, .ow (xs.map .int), j5, j6, j7, j8] ∧ rs.length ≤ 63 ∧ (∀ z ∈ rs, Sz 1048577 z) ∧ IsDraws i xs)
    (ρ := [.sh (.list (ns.map .int)), .sh (.int c), .ow (ns.map .int), .no, .ow [], .no, .no, .no, .no])
    ⟨ns, [], _, _, _, _, _, rfl, hn, fun z hz => sz_bits (Nat.le_trans (hb z hz) (by decide)), ⟨rfl, by simp, by simp⟩⟩
    (fun i d ρ hd hi => by
      obtain ⟨hic, rfl⟩ := rng0_get hd
      obtain ⟨rs, xs, j3, j5, j6, j7, j8, rfl, hrl, hrz, hx⟩ := hi
      obtain ⟨rs', x, k5, k6, k7, k8, e, h1, h2, h3, h4⟩ := draws_step (a := .sh (.list (ns.map .int))) (b := .sh (.int c)) (j3 := j3) (j5 := j5) (j6 := j6) (j7 := j7) (j8 := j8) (Nat.lt_of_lt_of_le hic hc) hrl hrz hx
      exact ⟨_, .inl e, rs', xs ++ [x], _, _, _, _, _, rfl, by omega, h2, draws_app hx x h3 h4⟩)
  rw [rngL_length] at hρ
  obtain ⟨rs, xs, j3, j5, j6, j7, j8, rfl, _, _, hx⟩ := hρ
  refine ⟨xs, ?_, hx⟩
  simp [m__law_draws, c__law_draws, slB (Nat.le_trans hn (by decide)), range1_ok (x := (c : Nat)) (by omega) (by omega), idD_ok, e]
/-! ### gcd -/
theorem gcd_halves {a b : Nat} (h : b ≤ a) (hb : b ≠ 0) : 2 * (b * (a % b)) ≤ a * b ∧ a % b ≤ b := by
  have h1 : a % b < b := Nat.mod_lt _ (by omega)
  have h2 : a % b + b ≤ a := by
    have e := Nat.div_add_mod a b
    have : 1 ≤ a / b := (Nat.one_le_div_iff (by omega)).mpr h
    have : b * 1 ≤ b * (a / b) := Nat.mul_le_mul_left b this
    omega
  refine ⟨?_, by omega⟩
  calc 2 * (b * (a % b)) = b * (2 * (a % b)) := by grind
    _ ≤ b * a := Nat.mul_le_mul_left b (by omega)
    _ = a * b := Nat.mul_comm _ _
/-! ### numbers -/
def qD (q : Int × Int) : D := .tuple [.int q.1, .int q.2]
def mkQ (n d : Int) : Int × Int := if d < 0 then ((-n).fdiv (Nat.gcd n.natAbs d.natAbs : Nat), (-d).fdiv (Nat.gcd n.natAbs d.natAbs : Nat)) else (n.fdiv (Nat.gcd n.natAbs d.natAbs : Nat), d.fdiv (Nat.gcd n.natAbs d.natAbs : Nat))
structure Nm (q : Int × Int) : Prop where
  pos : 1 ≤ q.2
  low : Nat.gcd q.1.natAbs q.2.natAbs = 1
theorem fdiv_of_dvd {a g : Int} (hg : g ∣ a) (h0 : g ≠ 0) : a.fdiv g * g = a := by
  obtain ⟨k, rfl⟩ := hg
  rw [Int.mul_fdiv_cancel_left k h0, Int.mul_comm]
theorem mkQ_key (x y : Int) (hp : 0 < y) : Nm (x.fdiv (Nat.gcd x.natAbs y.natAbs : Nat), y.fdiv (Nat.gcd x.natAbs y.natAbs : Nat)) ∧ x.fdiv (Nat.gcd x.natAbs y.natAbs : Nat) * y = x * y.fdiv (Nat.gcd x.natAbs y.natAbs : Nat) := by
  have hgp := Nat.gcd_pos_of_pos_right x.natAbs (show 0 < y.natAbs by omega)
  have hg0 : (Nat.gcd x.natAbs y.natAbs : Int) ≠ 0 := by omega
  have d1 : (Nat.gcd x.natAbs y.natAbs : Int) ∣ x := Int.ofNat_dvd_left.mpr (Nat.gcd_dvd_left _ _)
  have d2 : (Nat.gcd x.natAbs y.natAbs : Int) ∣ y := Int.ofNat_dvd_left.mpr (Nat.gcd_dvd_right _ _)
  have e1 := fdiv_of_dvd d1 hg0
  have e2 := fdiv_of_dvd d2 hg0
  generalize hu : x.fdiv (Nat.gcd x.natAbs y.natAbs : Nat) = u at *
  generalize hv : y.fdiv (Nat.gcd x.natAbs y.natAbs : Nat) = v at *
  generalize hg : Nat.gcd x.natAbs y.natAbs = g at *
  have hvp : 0 < v := by
    rcases Int.lt_or_le 0 v with h | h
    · exact h
    · have : v * g ≤ 0 := Int.mul_nonpos_of_nonpos_of_nonneg h (by omega)
      omega
  refine ⟨⟨hvp, ?_⟩, ?_⟩
  · have e3 : 1 * g = Nat.gcd u.natAbs v.natAbs * g := by
      rw [← Nat.gcd_mul_right]
      have a1 : u.natAbs * g = x.natAbs := by rw [← e1, Int.natAbs_mul]; rfl
      have a2 : v.natAbs * g = y.natAbs := by rw [← e2, Int.natAbs_mul]; rfl
      rw [a1, a2, hg, Nat.one_mul]
    exact (Nat.eq_of_mul_eq_mul_right hgp e3).symm
  · rw [← e1, ← e2]; grind
theorem mkQ_spec (n d : Int) (hd : d ≠ 0) : Nm (mkQ n d) ∧ (mkQ n d).1 * d = n * (mkQ n d).2 := by
  unfold mkQ
  by_cases h : d < 0
  · rw [if_pos h]
    obtain ⟨k1, k2⟩ := mkQ_key (-n) (-d) (by omega)
    rw [Int.natAbs_neg, Int.natAbs_neg] at k1 k2
    exact ⟨k1, by dsimp only at *; grind⟩
  · rw [if_neg h]
    exact mkQ_key n d (by omega)
theorem mkQ_nm {n d : Int} (hd : d ≠ 0) : Nm (mkQ n d) := (mkQ_spec n d hd).1
theorem mkQ_eq {n d : Int} (hd : d ≠ 0) : (mkQ n d).1 * d = n * (mkQ n d).2 := (mkQ_spec n d hd).2
theorem mkQ_sz1 {n d : Int} {k : Nat} (h : Sz k n) : Sz k (mkQ n d).1 := by
  unfold mkQ; split
  · exact (h.neg).fdiv
  · exact h.fdiv
theorem mkQ_sz2 {n d : Int} {k : Nat} (h : Sz k d) : Sz k (mkQ n d).2 := by
  unfold mkQ; split
  · exact (h.neg).fdiv
  · exact h.fdiv
/-- numbers in lowest terms are the same if they are equal -/
theorem Nm.uniq {p q : Int × Int} (hp : Nm p) (hq : Nm q) (h : p.1 * q.2 = q.1 * p.2) : p = q := by
  have h1 := hp.pos
  have h2 := hq.pos
  have a : p.2.natAbs ∣ q.2.natAbs := by
    have : p.2.natAbs ∣ p.1.natAbs * q.2.natAbs := by
      rw [← Int.natAbs_mul, h, Int.natAbs_mul]; exact ⟨q.1.natAbs, Nat.mul_comm _ _⟩
    exact (Nat.Coprime.dvd_of_dvd_mul_left (Nat.Coprime.symm hp.low) this)
  have b : q.2.natAbs ∣ p.2.natAbs := by
    have : q.2.natAbs ∣ q.1.natAbs * p.2.natAbs := by
      rw [← Int.natAbs_mul, ← h, Int.natAbs_mul]; exact ⟨p.1.natAbs, Nat.mul_comm _ _⟩
    exact (Nat.Coprime.dvd_of_dvd_mul_left (Nat.Coprime.symm hq.low) this)
  have e : p.2 = q.2 := by
    have := Nat.dvd_antisymm a b
    omega
  rw [e] at h
  have e1 : p.1 = q.1 := Int.eq_of_mul_eq_mul_right (by omega) h
  exact Prod.ext e1 e
theorem gcd_sz {n d : Int} {k : Nat} (h : Sz k d) (hd : d ≠ 0) : Sz k (Nat.gcd n.natAbs d.natAbs : Nat) := h.of_le (by
  have := Nat.le_of_dvd (by omega) (Nat.gcd_dvd_right n.natAbs d.natAbs)
  omega)
theorem gcd_ne {n d : Int} (hd : d ≠ 0) : (Nat.gcd n.natAbs d.natAbs : Int) ≠ 0 := by
  have := Nat.gcd_pos_of_pos_right n.natAbs (show 0 < d.natAbs by omega)
  omega
theorem okDiv_gcd {n d : Int} (h : Sz 9000 d) (hd : d ≠ 0) (x : Int) : okDiv x (Nat.gcd n.natAbs d.natAbs : Nat) = true := okDiv_of (gcd_sz h hd) (gcd_ne hd)
theorem s2 : (2 : Nat) ≤ sizeLine := by decide
theorem number_ok {n d : Int} (h2 : Sz 9000 d) (hd : d ≠ 0) : m_number [.int n, .int d] = .ok (.sh (qD (mkQ n d))) := by
  have o := okDiv_gcd (n := n) h2 hd
  by_cases h : d < 0
  · simp [m_number, c_number, h, o, s2, qD, mkQ]
  · simp [m_number, c_number, h, o, s2, qD, mkQ]
@[simp] theorem ix_q0 (q : Int × Int) : ixD (qD q) (.int 0) = some (.int q.1) := by simp [qD]
@[simp] theorem ix_q1 (q : Int × Int) : ixD (qD q) (.int 1) = some (.int q.2) := by simp [qD]
@[simp] theorem okD_q (n : Nat) (q : Int × Int) : okD (n + 1) (qD q) = true := by simp [qD]
/-- a number within 2^k -/
structure Nk (k : Nat) (q : Int × Int) : Prop where
  nm : Nm q
  s1 : Sz k q.1
  s2 : Sz k q.2
theorem Nk.mono {k l : Nat} {q : Int × Int} (h : Nk k q) (e : k ≤ l) : Nk l q := ⟨h.nm, h.s1.mono e, h.s2.mono e⟩
theorem Nk.ne {k : Nat} {q : Int × Int} (h : Nk k q) : q.2 ≠ 0 := by have := h.nm.pos; omega
theorem mkQ_nk {n d : Int} {k : Nat} (hd : d ≠ 0) (h1 : Sz k n) (h2 : Sz k d) : Nk k (mkQ n d) := ⟨mkQ_nm hd, mkQ_sz1 h1, mkQ_sz2 h2⟩
def addQ (p q : Int × Int) : Int × Int := mkQ (p.1 * q.2 + q.1 * p.2) (p.2 * q.2)
def mulQ (p q : Int × Int) : Int × Int := mkQ (p.1 * q.1) (p.2 * q.2)
def subQ (p q : Int × Int) : Int × Int := mkQ (p.1 * q.2 - q.1 * p.2) (p.2 * q.2)
def divQ (p q : Int × Int) : Int × Int := mkQ (p.1 * q.2) (p.2 * q.1)
def negQ (p : Int × Int) : Int × Int := (-p.1, p.2)
theorem Nm.neg {p : Int × Int} (h : Nm p) : Nm (negQ p) := ⟨h.pos, by show Nat.gcd (-p.1).natAbs _ = 1; rw [Int.natAbs_neg]; exact h.low⟩
section
variable {p q : Int × Int} {k l : Nat}
theorem Nk.neg (h : Nk k p) : Nk k (negQ p) := ⟨h.nm.neg, h.s1.neg, h.s2⟩
theorem Nk.mulne (hp : Nk k p) (hq : Nk l q) : p.2 * q.2 ≠ 0 := Int.mul_ne_zero hp.ne hq.ne
theorem Nk.add (hp : Nk k p) (hq : Nk l q) : Nk (k + l + 1) (addQ p q) := mkQ_nk (hp.mulne hq) ((hp.s1.mul hq.s2).add (Nat.add_comm l k ▸ hq.s1.mul hp.s2)) ((hp.s2.mul hq.s2).mono (by omega))
theorem Nk.sub (hp : Nk k p) (hq : Nk l q) : Nk (k + l + 1) (subQ p q) := mkQ_nk (hp.mulne hq) ((hp.s1.mul hq.s2).sub (Nat.add_comm l k ▸ hq.s1.mul hp.s2)) ((hp.s2.mul hq.s2).mono (by omega))
theorem Nk.mul (hp : Nk k p) (hq : Nk l q) : Nk (k + l) (mulQ p q) := mkQ_nk (hp.mulne hq) (hp.s1.mul hq.s1) (hp.s2.mul hq.s2)
theorem Nk.div (hp : Nk k p) (hq : Nk l q) (h0 : q.1 ≠ 0) : Nk (k + l) (divQ p q) := mkQ_nk (Int.mul_ne_zero hp.ne h0) (hp.s1.mul hq.s2) (hp.s2.mul hq.s1)
theorem plus_ok (hp : Nk k p) (hq : Nk l q) (e : k + l ≤ 8000) : m_plus [qD p, qD q] = .ok (.sh (qD (addQ p q))) := by
  have o1 := okMul_of hp.s1 hq.s2 (by omega)
  have o2 := okMul_of hq.s1 hp.s2 (by omega)
  have o3 := okMul_of hp.s2 hq.s2 (by omega)
  have n := number_ok (n := p.1 * q.2 + q.1 * p.2) ((hp.s2.mul hq.s2).mono (show _ ≤ 9000 by omega)) (hp.mulne hq)
  simp [m_plus, c_plus, o1, o2, o3, n, addQ]
theorem times_ok (hp : Nk k p) (hq : Nk l q) (e : k + l ≤ 8000) : m_times [qD p, qD q] = .ok (.sh (qD (mulQ p q))) := by
  have o1 := okMul_of hp.s1 hq.s1 (by omega)
  have o3 := okMul_of hp.s2 hq.s2 (by omega)
  have n := number_ok (n := p.1 * q.1) ((hp.s2.mul hq.s2).mono (show _ ≤ 9000 by omega)) (hp.mulne hq)
  simp [m_times, c_times, o1, o3, n, mulQ]
theorem divided_ok (hp : Nk k p) (hq : Nk l q) (h0 : q.1 ≠ 0) (e : k + l ≤ 8000) : m_divided [qD p, qD q] = .ok (.sh (qD (divQ p q))) := by
  have o1 := okMul_of hp.s1 hq.s2 (by omega)
  have o3 := okMul_of hp.s2 hq.s1 (by omega)
  have n := number_ok (n := p.1 * q.2) ((hp.s2.mul hq.s1).mono (show _ ≤ 9000 by omega)) (Int.mul_ne_zero hp.ne h0)
  simp [m_divided, c_divided, o1, o3, n, divQ]
end

/-! ### looks at numbers -/
theorem nk01 : Nk 1 (0, 1) := ⟨⟨by decide, by decide⟩, .lit (by decide), .lit (by decide)⟩
end W

set_option Elab.async false
set_option linter.all false
set_option maxRecDepth 100000
set_option autoImplicit false
namespace W
open PySem PySem.Spec PyProof.Rows L2 VL
noncomputable def b_trimmed_1 : Ev → Out := sAug 1 subD (cst (.int 1))
noncomputable def c_trimmed : Ev → Out := sSeq (sSet 1 (e1 lenD (eCons (eOwn 0) (cst [])))) (sSeq (sWhile (eAnd (e1 bOf (e2 gtD (eOwn 1) (cst (.int 0)))) (e1 bOf (e2 eqD (e2 ixD (eOwn 0) (e2 subD (eOwn 1) (cst (.int 1)))) (cst (.int 0))))) b_trimmed_1) (sRet (e3 sliceD (eOwn 0) (pNo) (e1 intOf (eVar 1)))))
noncomputable def m_trimmed : List D → R SD := runD 1 2 c_trimmed
noncomputable def c_coefficient_of : Ev → Out := sRet (eIf (e1 bOf (e2 ltD (eOwn 1) (e1 lenD (eCons (eOwn 0) (cst []))))) (e2 ixD (eOwn 0) (eOwn 1)) (cst (.int 0)))
noncomputable def m_coefficient_of : List D → R SD := runD 2 2 c_coefficient_of
noncomputable def c_add : Ev → Out := sSeq (sSet 2 (e1 maxD (eCons (e1 lenD (eCons (eOwn 0) (cst []))) (eCons (e1 lenD (eCons (eOwn 1) (cst []))) (cst []))))) (sRet (eCall m_trimmed (eCons (eLst (eComp [3] (e1 range1D (eCons (eOwn 2) (cst []))) (gSet 3) (cst true) (e2 addD (eCall m_coefficient_of (eCons (eVar 0) (eCons (eVar 3) (cst [])))) (eCall m_coefficient_of (eCons (eVar 1) (eCons (eVar 3) (cst []))))))) (cst []))))
noncomputable def m_add : List D → R SD := runD 2 4 c_add
noncomputable def c_scale : Ev → Out := sRet (eCall m_trimmed (eCons (eLst (eComp [2] (e1 seqD (eVar 0)) (gSet 2) (cst true) (e2 mulD (eOwn 2) (eOwn 1)))) (cst [])))
noncomputable def m_scale : List D → R SD := runD 2 3 c_scale
noncomputable def c_subtract : Ev → Out := sRet (eCall m_add (eCons (eVar 0) (eCons (eCall m_scale (eCons (eVar 1) (eCons (e1 negD (cst (.int 1))) (cst [])))) (cst []))))
noncomputable def m_subtract : List D → R SD := runD 2 2 c_subtract
noncomputable def b_multiply_1 : Ev → Out := sAugIx 2 iaddD (e2 addD (eOwn 3) (eOwn 5)) (e2 mulD (eOwn 4) (eOwn 6))
noncomputable def b_multiply_2 : Ev → Out := sFor (e1 enuD (eCons (eVar 1) (cst []))) (gTupD 2 (gsCons (gSet 5) (gsCons (gSet 6) (gsNil)))) b_multiply_1
noncomputable def c_multiply : Ev → Out := sSeq (sIf (eOr (eNot (e1 truD (eOwn 0))) (eNot (e1 truD (eOwn 1)))) (sRetO (e1 lim (cst []))) (sNil)) (sSeq (sSetO 2 (e2 mulO (eLst (e1 lim (eCons (cst (.int 0)) (cst [])))) (e2 subD (e2 addD (e1 lenD (eCons (eOwn 0) (cst []))) (e1 lenD (eCons (eOwn 1) (cst [])))) (cst (.int 1))))) (sSeq (sFor (e1 enuD (eCons (eVar 0) (cst []))) (gTupD 2 (gsCons (gSet 3) (gsCons (gSet 4) (gsNil)))) b_multiply_2) (sRetV 2)))
noncomputable def m_multiply : List D → R SD := runD 2 7 c_multiply
noncomputable def b_product_1 : Ev → Out := sSet 1 (eCall m_multiply (eCons (eVar 1) (eCons (eVar 2) (cst []))))
noncomputable def c_product : Ev → Out := sSeq (sSet 1 (eLst (e1 lim (eCons (cst (.int 1)) (cst []))))) (sSeq (sFor (e1 seqD (eVar 0)) (gSet 2) b_product_1) (sRet (eVar 1)))
noncomputable def m_product : List D → R SD := runD 1 3 c_product
noncomputable def c_derivative : Ev → Out := sRetO (eComp [1] (e1 range2D (eCons (cst (.int 1)) (eCons (e1 lenD (eCons (eOwn 0) (cst []))) (cst [])))) (gSet 1) (cst true) (e2 mulD (e2 ixD (eOwn 0) (eOwn 1)) (eOwn 1)))
noncomputable def m_derivative : List D → R SD := runD 1 2 c_derivative
noncomputable def b__law_multiply_1 : Ev → Out := sStore 2 (e2 addD (eOwn 3) (eOwn 4)) (e2 addD (e2 ixD (eOwn 2) (e2 addD (eOwn 3) (eOwn 4))) (e2 mulD (e2 ixD (eOwn 0) (eOwn 3)) (e2 ixD (eOwn 1) (eOwn 4))))
noncomputable def b__law_multiply_2 : Ev → Out := sFor (e1 range1D (eCons (e1 lenD (eCons (eOwn 1) (cst []))) (cst []))) (gSet 4) b__law_multiply_1
noncomputable def b_value_at_1 : Ev → Out := sSet 2 (eCall m_plus (eCons (eCall m_times (eCons (eVar 2) (eCons (eVar 1) (cst [])))) (eCons (e1 tupD (eCons (eVar 3) (eCons (cst (.int 1)) (cst [])))) (cst []))))
noncomputable def c_value_at : Ev → Out := sSeq (sSet 2 (cst (.tuple [(.int 0), (.int 1)]))) (sSeq (sFor (e1 seqD (eLst (e1 revO (eOwn 0)))) (gSet 3) b_value_at_1) (sRet (eVar 2)))
noncomputable def m_value_at : List D → R SD := runD 2 4 c_value_at
/-! ### lists of whole numbers as data -/
def pD (l : List Int) : D := .list (l.map .int)
@[simp] theorem pD_fold (l : List Int) : PyData.list (List.map .int l) = pD l := rfl
@[simp] theorem p_len (l : List Int) : lenD [pD l] = some (.int l.length) := by unfold pD; rw [r_len_l, List.length_map]
@[simp] theorem p_tru (l : List Int) : truD (pD l) = some (!l.isEmpty) := by unfold pD; rw [r_tru_l]; cases l <;> rfl
@[simp] theorem p_seq (l : List Int) : seqD (pD l) = some (l.map .int) := id rfl
@[simp] theorem p_listO (l : List Int) : listO [pD l] = some (l.map .int) := id rfl
@[simp] theorem p_rev (l : List Int) : revO (pD l) = some (l.reverse.map .int) := by unfold pD; rw [r_revO, List.map_reverse]
@[simp] theorem p_isi (n : String) (l : List Int) : isiD n (pD l) = (kitB "list" n).map .bool := id rfl
@[simp] theorem p_okD (n : Nat) (l : List Int) : okD (n + 1) (pD l) = true := okL_ints n l
@[simp] theorem p_enu (l : List Int) : enuD [pD l] = some (enuL (l.map .int)) := id rfl
theorem p_ix {l : List Int} {x : Int} (h : 0 ≤ x) : ixD (pD l) (.int x) = (l[x.toNat]?).map .int := by unfold pD; rw [r_ix_l, r_atI h, List.getElem?_map]
theorem p_ixn (l : List Int) (n : Nat) : ixD (pD l) (.int (n : Int)) = (l[n]?).map .int := by rw [p_ix (by omega)]; simp
theorem p_ne {a b : List Int} : neD (pD a) (pD b) = some (.bool (!decide (a = b))) := by
  rw [r_neD (by simp) (by simp)]
  congr 3
  show PyData.eqvAll (a.map .int) (b.map .int) = _
  induction a generalizing b with
  | nil => cases b <;> simp [PyData.eqvAll]
  | cons x a ih =>
    cases b with
    | nil => simp [PyData.eqvAll]
    | cons y b => simp only [List.map_cons, PyData.eqvAll, PyData.eqv, ih, List.cons.injEq]; by_cases e : x = y <;> by_cases e' : a = b <;> simp [e, e']
theorem p_eq {a b : List Int} : eqD (pD a) (pD b) = some (.bool (decide (a = b))) := by
  have h := p_ne (a := a) (b := b)
  rw [r_neD (by simp) (by simp)] at h
  rw [r_eqD (by simp) (by simp)]
  simp only [Option.some.injEq, PyData.bool.injEq] at h ⊢
  cases h1 : PyData.eqv (pD a) (pD b) <;> cases h2 : decide (a = b) <;> simp_all
def cutI (l : List Int) (lo hi : Option Int) : List Int := (l.drop (HT.sIx l.length 0 lo)).take (HT.sIx l.length l.length hi - HT.sIx l.length 0 lo)
@[simp] theorem p_slice (l : List Int) (o o' : Option Int) : sliceD (pD l) o o' = some (pD (cutI l o o')) := by unfold pD; rw [r_slice, cut_map]; rfl
@[simp] theorem p_sliceO (l : List Int) (o o' : Option Int) : sliceO (pD l) o o' = some ((cutI l o o').map .int) := by unfold pD; rw [r_sliceO, cut_map]; rfl
theorem cutI_to (l : List Int) (n : Nat) (h : n ≤ l.length) : cutI l none (some (n : Int)) = l.take n := by
  unfold cutI; rw [HT.sIx_none, sIx_in (by omega) (by omega)]; simp

/-! ### coefficients -/
def cf (l : List Int) (k : Nat) : Int := l.getD k 0
@[simp] theorem cf_nil (k : Nat) : cf [] k = 0 := by simp [cf]
@[simp] theorem cf_zero (a : Int) (l : List Int) : cf (a :: l) 0 = a := rfl
@[simp] theorem cf_succ (a : Int) (l : List Int) (k : Nat) : cf (a :: l) (k + 1) = cf l k := rfl
theorem cf_get {l : List Int} {k : Nat} (h : k < l.length) : l[k]? = some (cf l k) := by
  unfold cf; rw [List.getD_eq_getElem?_getD, List.getElem?_eq_getElem h]; rfl
@[simp] theorem cf_elem {l : List Int} {k : Nat} (h : k < l.length) : l[k] = cf l k := by
  have := List.getElem?_eq_getElem h
  rw [cf_get h] at this
  exact (Option.some.inj this).symm
theorem cf_out {l : List Int} {k : Nat} (h : l.length ≤ k) : cf l k = 0 := by
  unfold cf; rw [List.getD_eq_getElem?_getD, List.getElem?_eq_none h]; rfl
theorem cf_take (l : List Int) (n k : Nat) : cf (l.take n) k = if k < n then cf l k else 0 := by
  unfold cf
  rw [List.getD_eq_getElem?_getD, List.getD_eq_getElem?_getD, List.getElem?_take]
  split <;> rfl
theorem cf_mem {l : List Int} {k : Nat} (h : k < l.length) : cf l k ∈ l := List.mem_of_getElem? (cf_get h)
theorem cf_all {l : List Int} {Q : Int → Prop} (h : ∀ c ∈ l, Q c) (h0 : Q 0) (k : Nat) : Q (cf l k) := by
  by_cases e : k < l.length
  · exact h _ (cf_mem e)
  · rw [cf_out (by omega)]; exact h0
/-- the first n values -/
def fl (n : Nat) (φ : Nat → Int) : List Int := (List.range n).map φ
@[simp] theorem fl_length (n : Nat) (φ : Nat → Int) : (fl n φ).length = n := by simp [fl]
theorem cf_fl (n : Nat) (φ : Nat → Int) (k : Nat) : cf (fl n φ) k = if k < n then φ k else 0 := by
  split
  · rename_i h
    have := cf_get (l := fl n φ) (k := k) (by simpa using h)
    unfold fl at this
    rw [List.getElem?_map, List.getElem?_range h] at this
    exact (Option.some.inj this).symm
  · rename_i h
    exact cf_out (by simpa using h)
theorem fl_get {n : Nat} {φ : Nat → Int} {k : Nat} (h : k < n) : (fl n φ)[k]? = some (φ k) := by rw [cf_get (by simpa using h), cf_fl, if_pos h]
theorem cf_ext {l m : List Int} (hl : l.length = m.length) (h : ∀ k, k < l.length → cf l k = cf m k) : l = m := by
  apply List.ext_getElem?
  intro i
  by_cases e : i < l.length
  · rw [cf_get e, cf_get (by omega), h i e]
  · rw [List.getElem?_eq_none (by omega), List.getElem?_eq_none (by omega)]
theorem fl_eq {n : Nat} {l : List Int} {φ : Nat → Int} (hl : l.length = n) (h : ∀ k, k < n → cf l k = φ k) : l = fl n φ :=
  cf_ext (by simpa using hl) fun k hk => by rw [h k (by omega), cf_fl, if_pos (by omega)]
theorem fl_set {n : Nat} {φ : Nat → Int} {p : Nat} {v : Int} : (fl n φ).set p v = fl n (fun k => if k = p then v else φ k) := by
  refine fl_eq (by simp) fun k hk => ?_
  have : ((fl n φ).set p v)[k]? = some (if k = p then v else φ k) := by
    rw [List.getElem?_set]
    by_cases e : p = k
    · subst e; simp [hk]
    · rw [if_neg e, fl_get hk, if_neg (Ne.symm e)]
  unfold cf
  rw [List.getD_eq_getElem?_getD, this]; rfl
theorem fl_congr {n : Nat} {φ ψ : Nat → Int} (h : ∀ k, k < n → φ k = ψ k) : fl n φ = fl n ψ := fl_eq (by simp) fun k hk => by rw [cf_fl, if_pos hk, h k hk]

/-! ### trimming -/
/-- no zero at the end -/
def Tr (l : List Int) : Prop := ∀ m, l.length = m + 1 → cf l m ≠ 0
theorem tr_nil : Tr [] := fun m h => by cases h
theorem Tr.uniq {l m : List Int} (hl : Tr l) (hm : Tr m) (h : ∀ k, cf l k = cf m k) : l = m := by
  have : l.length = m.length := by
    rcases Nat.lt_trichotomy l.length m.length with e | e | e
    · exact absurd (by rw [← h, cf_out (by omega)]) (hm (m.length - 1) (by omega))
    · exact e
    · exact absurd (by rw [h, cf_out (by omega)]) (hl (l.length - 1) (by omega))
  exact cf_ext this fun k _ => h k
def tlen (l : List Int) : Nat → Nat
  | 0 => 0
  | m + 1 => if cf l m = 0 then tlen l m else m + 1
theorem tlen_le (l : List Int) : ∀ m, tlen l m ≤ m
  | 0 => Nat.le_refl _
  | m + 1 => by
    unfold tlen
    split
    · exact Nat.le_succ_of_le (tlen_le l m)
    · exact Nat.le_refl _
theorem tlen_zero (l : List Int) : ∀ m k, tlen l m ≤ k → k < m → cf l k = 0
  | 0, k, _, h => by omega
  | m + 1, k, h1, h2 => by
    unfold tlen at h1
    split at h1
    · rename_i z
      by_cases e : k = m
      · subst e; exact z
      · exact tlen_zero l m k h1 (by omega)
    · omega
theorem tlen_last (l : List Int) : ∀ m j, tlen l m = j + 1 → cf l j ≠ 0
  | 0, j, h => by cases h
  | m + 1, j, h => by
    unfold tlen at h
    split at h
    · exact tlen_last l m j h
    · rename_i z
      have : m = j := by omega
      subst this; exact z
def trimP (l : List Int) : List Int := l.take (tlen l l.length)
theorem cf_trim (l : List Int) (k : Nat) : cf (trimP l) k = cf l k := by
  unfold trimP
  rw [cf_take]
  split
  · rfl
  · by_cases e : k < l.length
    · exact (tlen_zero l l.length k (by omega) e).symm
    · exact (cf_out (by omega)).symm
theorem trim_length (l : List Int) : (trimP l).length = tlen l l.length := by
  unfold trimP
  rw [List.length_take]
  have := tlen_le l l.length
  omega
theorem trim_le (l : List Int) : (trimP l).length ≤ l.length := by rw [trim_length]; exact tlen_le l l.length
theorem tr_trim (l : List Int) : Tr (trimP l) := fun m h => by
  rw [cf_trim]
  rw [trim_length] at h
  exact tlen_last l l.length m h
theorem trim_eq {l m : List Int} (hm : Tr m) (h : ∀ k, cf l k = cf m k) : trimP l = m := (tr_trim l).uniq hm fun k => by rw [cf_trim, h]
theorem Tr.trim {l : List Int} (h : Tr l) : trimP l = l := trim_eq h fun _ => rfl
theorem trim_mem {l : List Int} {Q : Int → Prop} (h : ∀ c ∈ l, Q c) : ∀ c ∈ trimP l, Q c := fun c hc => h c (List.mem_of_mem_take hc)
def SzP (s : Nat) (l : List Int) : Prop := ∀ c ∈ l, Sz s c
theorem sz0 (s : Nat) : Sz s 0 := ⟨by simpa using Nat.two_pow_pos s⟩
theorem SzP.cf {s : Nat} {l : List Int} (h : SzP s l) (k : Nat) : Sz s (cf l k) := cf_all h (sz0 s) k
theorem SzP.mono {s t : Nat} {l : List Int} (h : SzP s l) (e : s ≤ t) : SzP t l := fun c hc => (h c hc).mono e
theorem SzP.trim {s : Nat} {l : List Int} (h : SzP s l) : SzP s (trimP l) := trim_mem h
theorem SzP.fl {s n : Nat} {φ : Nat → Int} (h : ∀ k, k < n → Sz s (φ k)) : SzP s (fl n φ) := fun c hc => by
  unfold W.fl at hc
  obtain ⟨k, hk, rfl⟩ := List.mem_map.mp hc
  exact h k (List.mem_range.mp hk)

theorem trimmed_loop (l : List Int) : ∀ m, m ≤ l.length → whileO (eAnd (e1 bOf (e2 gtD (eOwn 1) (cst (.int 0)))) (e1 bOf (e2 eqD (e2 ixD (eOwn 0) (e2 subD (eOwn 1) (cst (.int 1)))) (cst (.int 0))))) b_trimmed_1 (m + 1) [.sh (pD l), .sh (.int (m : Nat))] = .nx [.sh (pD l), .sh (.int (tlen l m : Nat))]
  | 0, _ => by simp [whileO, tlen]
  | m + 1, h => by
    have ix : ixD (pD l) (.int (m : Nat)) = some (.int (cf l m)) := by rw [p_ixn, cf_get (by omega)]; rfl
    have he : ((m + 1 : Nat) : Int) - 1 = (m : Nat) := by omega
    have hh : (0 : Int) < ((m + 1 : Nat) : Int) := by omega
    have ih := trimmed_loop l m (by omega)
    rw [whileO]
    by_cases z : cf l m = 0
    · rw [tlen, if_pos z, ← ih]
      simp [-Int.natCast_add, he, hh, ix, z, b_trimmed_1]
    · rw [tlen, if_neg z]
      simp [-Int.natCast_add, he, hh, ix, z]
theorem trimmed_ok (l : List Int) (h : l.length ≤ 100000) : m_trimmed [pD l] = .ok (.sh (pD (trimP l))) := by
  have e := sWhile_eq (trimmed_loop l l.length (Nat.le_refl _)) (by simp)
  have c := cutI_to l (tlen l l.length) (tlen_le l _)
  simp [m_trimmed, c_trimmed, e, c, trimP]
/-! ### the law's own trimming -/
theorem tr_take {l : List Int} {n : Nat} (hz : ∀ k, n ≤ k → cf l k = 0) (hn : n ≤ l.length) (hl : ∀ m, n = m + 1 → cf l m ≠ 0) : trimP l = l.take n := by
  refine trim_eq (fun m hm => ?_) fun k => ?_
  · rw [List.length_take] at hm
    rw [cf_take, if_pos (by omega)]
    exact hl m (by omega)
  · rw [cf_take]
    split
    · rfl
    · exact hz k (by omega)
theorem take_snoc {l : List Int} {n : Nat} (h : n < l.length) : (l.take (n + 1)).map PyData.int = (l.take n).map .int ++ [.int (cf l n)] := by
  rw [List.take_add_one, cf_get h, List.map_append]; rfl
/-! ### sums -/
theorem coefficient_ok (a : List Int) (k : Nat) : m_coefficient_of [pD a, .int (k : Nat)] = .ok (.sh (.int (cf a k))) := by
  by_cases h : k < a.length
  · have : ((k : Nat) : Int) < a.length := by omega
    simp [m_coefficient_of, c_coefficient_of, h, p_ixn, cf_get h]
  · simp [m_coefficient_of, c_coefficient_of, h, cf_out (Nat.not_lt.mp h)]
def addP (a b : List Int) : List Int := trimP (fl (max a.length b.length) fun k => cf a k + cf b k)
theorem cf_add (a b : List Int) (k : Nat) : cf (addP a b) k = cf a k + cf b k := by
  unfold addP
  rw [cf_trim, cf_fl]
  split
  · rfl
  · rw [cf_out (l := a) (by omega), cf_out (l := b) (by omega)]; rfl
theorem tr_add (a b : List Int) : Tr (addP a b) := tr_trim _
theorem SzP.add {s : Nat} {a b : List Int} (ha : SzP s a) (hb : SzP s b) : SzP (s + 1) (addP a b) := SzP.trim (SzP.fl fun k _ => (ha.cf k).add (hb.cf k))
theorem add_len (a b : List Int) : (addP a b).length ≤ max a.length b.length := Nat.le_trans (trim_le _) (by simp)
theorem max2 (a b : Nat) : (if (b : Int) > (a : Int) then (b : Int) else (a : Int)) = ((max a b : Nat) : Int) := by split <;> omega
@[simp] theorem r_max2 (a b : Nat) : maxD [.int (a : Int), .int (b : Int)] = some (.int ((max a b : Nat) : Int)) := by
  show some (PyData.int (if (b : Int) > (a : Int) then (b : Int) else (a : Int))) = _
  rw [max2]
theorem rng0 (n : Nat) : rngL 0 1 n = (List.range n).map fun i => .int (i : Nat) := by unfold rngL; simp
theorem add_ok {a b : List Int} (ha : a.length ≤ 50000) (hb : b.length ≤ 50000) : m_add [pD a, pD b] = .ok (.sh (pD (addP a b))) := by
  have hr := range1_ok (x := ((max a.length b.length : Nat) : Int)) (by omega) (by omega)
  have hc : compR (compS [3] (gSet 3) (cst true) (e2 addD (eCall m_coefficient_of (eCons (eVar 0) (eCons (eVar 3) (cst [])))) (eCall m_coefficient_of (eCons (eVar 1) (eCons (eVar 3) (cst []))))) [.sh (pD a), .sh (pD b), .sh (.int ((max a.length b.length : Nat) : Int)), .no]) (rngL 0 1 (max a.length b.length)) = .ok ((fl (max a.length b.length) fun k => cf a k + cf b k).map .int) := by
    rw [rng0, fl, List.map_map]
    exact compR_map' fun k hk => by simp [compS, coefficient_ok]
  have ht := trimmed_ok (fl (max a.length b.length) fun k => cf a k + cf b k) (by simp; omega)
  have hl : max a.length b.length ≤ sizeLine := slB (by omega)
  simp only [Int.toNat_natCast] at hr
  simp [m_add, c_add, hr, rngL_length, hl, hc, ht, addP]
def scaleP (a : List Int) (c : Int) : List Int := trimP (a.map (· * c))
theorem cf_map {a : List Int} {f : Int → Int} (h0 : f 0 = 0) (k : Nat) : cf (a.map f) k = f (cf a k) := by
  by_cases e : k < a.length
  · have := cf_get (l := a.map f) (k := k) (by simpa using e)
    rw [List.getElem?_map, cf_get e] at this
    exact (Option.some.inj this).symm
  · rw [cf_out (by simpa using Nat.not_lt.mp e), cf_out (by omega), h0]
theorem cf_scale (a : List Int) (c : Int) (k : Nat) : cf (scaleP a c) k = cf a k * c := by
  unfold scaleP; rw [cf_trim, cf_map (by simp)]
theorem tr_scale (a : List Int) (c : Int) : Tr (scaleP a c) := tr_trim _
theorem scale_len (a : List Int) (c : Int) : (scaleP a c).length ≤ a.length := Nat.le_trans (trim_le _) (by simp)
theorem SzP.scale {s t : Nat} {a : List Int} {c : Int} (ha : SzP s a) (hc : Sz t c) : SzP (s + t) (scaleP a c) := SzP.trim fun x hx => by
  obtain ⟨y, hy, rfl⟩ := List.mem_map.mp hx
  exact (ha y hy).mul hc
theorem scale_comp {a : List Int} {c : Int} {s t : Nat} (ha : SzP s a) (hc : Sz t c) (hst : s + t ≤ 134217728) (ρ : Ev) (hρ : ρ.length = 3) (h1 : ρ[1]? = some (.sh (.int c))) :
    compR (compS [2] (gSet 2) (cst true) (e2 mulD (eOwn 2) (eOwn 1)) ρ) (a.map .int) = .ok ((a.map (· * c)).map .int) := by
  rw [List.map_map]
  match ρ, hρ with
  | [x, y, z], _ =>
    simp at h1
    subst h1
    exact compR_map' fun k hk => by simp [compS, okMul_of (ha k hk) hc hst]
theorem scale_ok {a : List Int} {c : Int} {s t : Nat} (ha : SzP s a) (hc : Sz t c) (hst : s + t ≤ 134217728) (hl : a.length ≤ 100000) : m_scale [pD a, .int c] = .ok (.sh (pD (scaleP a c))) := by
  have h := scale_comp ha hc hst [.sh (pD a), .sh (.int c), .no] rfl rfl
  have ht := trimmed_ok (a.map (· * c)) (by simpa using hl)
  simp only [List.map_map] at h
  simp [m_scale, c_scale, slB hl, h, scaleP, -List.map_map]
  rw [show (PyData.list (List.map (PyData.int ∘ fun x => x * c) a)) = pD (a.map (· * c)) by unfold pD; rw [List.map_map]]
  simp [ht]
def subP (a b : List Int) : List Int := addP a (scaleP b (-1))
theorem cf_sub (a b : List Int) (k : Nat) : cf (subP a b) k = cf a k - cf b k := by unfold subP; rw [cf_add, cf_scale]; omega
theorem sz1 : Sz 1 (-1) := .lit (by decide)
theorem subtract_ok {a b : List Int} {s : Nat} (hb : SzP s b) (hs : s ≤ 100000000) (hla : a.length ≤ 50000) (hlb : b.length ≤ 50000) : m_subtract [pD a, pD b] = .ok (.sh (pD (subP a b))) := by
  have h1 := scale_ok hb sz1 (by omega) (by omega)
  have h2 := add_ok (a := a) (b := scaleP b (-1)) hla (Nat.le_trans (scale_len b _) hlb)
  simp [m_subtract, c_subtract, h1, h2, subP]
end W

set_option Elab.async false
set_option linter.all false
set_option maxRecDepth 100000
set_option autoImplicit false
namespace W
open PySem PySem.Spec PyProof.Rows L2 VL
/-! ### products -/
def sumN : Nat → (Nat → Int) → Int
  | 0, _ => 0
  | n + 1, f => sumN n f + f n
theorem sumN_congr {f g : Nat → Int} : ∀ {n : Nat}, (∀ i, i < n → f i = g i) → sumN n f = sumN n g
  | 0, _ => rfl
  | n + 1, h => by unfold sumN; rw [sumN_congr (n := n) fun i hi => h i (by omega), h n (by omega)]
theorem sumN_zero {f : Nat → Int} : ∀ {n : Nat}, (∀ i, i < n → f i = 0) → sumN n f = 0
  | 0, _ => rfl
  | n + 1, h => by unfold sumN; rw [sumN_zero (n := n) fun i hi => h i (by omega), h n (by omega)]; rfl
theorem sumN_mul (c : Int) (f : Nat → Int) : ∀ n, sumN n (fun i => c * f i) = c * sumN n f
  | 0 => by simp [sumN]
  | n + 1 => by unfold sumN; rw [sumN_mul c f n]; grind
theorem sumN_succ' (f : Nat → Int) : ∀ n, sumN (n + 1) f = f 0 + sumN n (fun i => f (i + 1))
  | 0 => by simp [sumN]
  | n + 1 => by rw [sumN, sumN_succ' f n, sumN]; omega
theorem sumN_ext {f : Nat → Int} {n m : Nat} (h : n ≤ m) (hz : ∀ i, n ≤ i → i < m → f i = 0) : sumN m f = sumN n f := by
  induction m with
  | zero => rw [show n = 0 by omega]
  | succ m ih =>
    by_cases e : n = m + 1
    · rw [e]
    · rw [sumN, ih (by omega) fun i h1 h2 => hz i h1 (by omega), hz m (by omega) (by omega)]; omega
/-- one summand of a coefficient of a product -/
def tm (a b : List Int) (k i : Nat) : Int := if i ≤ k then cf a i * cf b (k - i) else 0
/-- the coefficient of a product -/
def cv (a b : List Int) (k : Nat) : Int := sumN a.length (tm a b k)
theorem cv_all (a b : List Int) (k : Nat) : cv a b k = sumN (k + 1) (tm a b k) := by
  unfold cv
  rcases Nat.le_total a.length (k + 1) with h | h
  · refine (sumN_ext h fun i h1 _ => ?_).symm
    unfold tm; split
    · rw [cf_out h1]; simp
    · rfl
  · exact sumN_ext h fun i h1 _ => by unfold tm; rw [if_neg (by omega)]
theorem cv_nil (b : List Int) (k : Nat) : cv [] b k = 0 := rfl
theorem cv_cons (x : Int) (a b : List Int) : ∀ k, cv (x :: a) b k = x * cf b k + (if k = 0 then 0 else cv a b (k - 1)) := by
  intro k
  unfold cv
  rw [List.length_cons, sumN_succ']
  cases k with
  | zero =>
    rw [if_pos rfl, sumN_zero fun i _ => by unfold tm; rw [if_neg (by omega)]]
    simp [tm]
  | succ k =>
    rw [if_neg (by omega), show tm (x :: a) b (k + 1) 0 = x * cf b (k + 1) by simp [tm]]
    congr 1
    refine sumN_congr fun i _ => ?_
    unfold tm
    by_cases h : i ≤ k
    · rw [if_pos (by omega), if_pos (by omega), cf_succ, show k + 1 - (i + 1) = k + 1 - 1 - i by omega]
    · rw [if_neg (by omega), if_neg (by omega)]
theorem cv_out {a b : List Int} {k : Nat} (h : a.length + b.length ≤ k + 1) : cv a b k = 0 := sumN_zero fun i hi => by
  unfold tm; split
  · rw [cf_out (l := b) (by omega)]; simp
  · rfl
theorem cv_last {a b : List Int} {m n : Nat} (ha : a.length = m + 1) (hb : b.length = n + 1) : cv a b (m + n) = cf a m * cf b n := by
  unfold cv
  rw [ha, sumN, sumN_zero fun i hi => ?_]
  · unfold tm; rw [if_pos (by omega), show m + n - m = n by omega]; omega
  · unfold tm; rw [if_pos (by omega), cf_out (l := b) (by omega)]; simp
def mulP (a b : List Int) : List Int := if a = [] ∨ b = [] then [] else fl (a.length + b.length - 1) (cv a b)
theorem cf_mul (a b : List Int) (k : Nat) : cf (mulP a b) k = cv a b k := by
  unfold mulP
  by_cases h : a = [] ∨ b = []
  · rw [if_pos h]
    rcases h with rfl | rfl
    · simp [cv_nil]
    · rw [cf_nil, eq_comm]
      exact sumN_zero fun i hi => by unfold tm; split <;> simp
  · rw [if_neg h, cf_fl]
    split
    · rfl
    · rw [cv_out]
      have : 0 < a.length := by cases a with | nil => simp at h | cons _ _ => simp
      omega
theorem mul_len (a b : List Int) : (mulP a b).length ≤ a.length + b.length := by
  unfold mulP; split
  · simp
  · rw [fl_length]; omega
theorem tr_mul {a b : List Int} (ha : Tr a) (hb : Tr b) : Tr (mulP a b) := by
  intro m hm
  rw [cf_mul]
  unfold mulP at hm
  split at hm
  · simp at hm
  · rename_i h
    rw [fl_length] at hm
    obtain ⟨i, hi⟩ : ∃ i, a.length = i + 1 := ⟨a.length - 1, by cases a with | nil => simp at h | cons _ _ => simp⟩
    obtain ⟨j, hj⟩ : ∃ j, b.length = j + 1 := ⟨b.length - 1, by cases b with | nil => simp at h | cons _ _ => simp⟩
    rw [show m = i + j by omega, cv_last hi hj]
    exact Int.mul_ne_zero (ha i hi) (hb j hj)
theorem sz_sum {f : Nat → Int} {s : Nat} : ∀ {n : Nat}, (∀ i, i < n → Sz s (f i)) → Sz (s + n) (sumN n f)
  | 0, _ => sz0 _
  | n + 1, h => (sz_sum (n := n) fun i hi => h i (by omega)).add ((h n (by omega)).mono (by omega))
theorem SzP.cv {s t : Nat} {a b : List Int} (ha : SzP s a) (hb : SzP t b) (k : Nat) : Sz (s + t + a.length) (cv a b k) := sz_sum fun i _ => by
  unfold tm; split
  · exact (ha.cf i).mul (hb.cf _)
  · exact sz0 _
theorem SzP.mul {s t : Nat} {a b : List Int} (ha : SzP s a) (hb : SzP t b) : SzP (s + t + a.length) (mulP a b) := by
  unfold mulP; split
  · exact fun c hc => by cases hc
  · exact SzP.fl fun k _ => ha.cv hb k
theorem enu_get {l : List Int} {i : Nat} {d : D} (h : (enuL (l.map .int))[i]? = some d) : i < l.length ∧ d = .tuple [.int (i : Nat), .int (cf l i)] := by
  unfold enuL at h
  rw [List.length_map, List.getElem?_zipWith] at h
  by_cases e : i < l.length
  · rw [List.getElem?_range e, List.getElem?_map, cf_get e] at h
    exact ⟨e, (Option.some.inj h).symm⟩
  · rw [List.getElem?_eq_none (by simpa using e)] at h
    cases h
theorem enu_length (l : List Int) : (enuL (l.map .int)).length = l.length := by simp [enuL]
theorem fl_ix {n : Nat} {φ : Nat → Int} {k : Nat} (h : k < n) : ((fl n φ).map PyData.int)[k]? = some (.int (φ k)) := by rw [List.getElem?_map, fl_get h]; rfl
/-- one step of the inner loop -/
theorem mul_step {a b : List Int} {s t L : Nat} {φ : Nat → Int} {i j : Nat} (ha : SzP s a) (hb : SzP t b) (hst : s + t ≤ 134217728) (hL : i + j < L) (hL2 : L ≤ 100000) (x0 x1 x5 x6 : SD) :
    gTo (gTupD 2 (gsCons (gSet 5) (gsCons (gSet 6) (gsNil)))) b_multiply_1 (.tuple [.int (j : Nat), .int (cf b j)]) [x0, x1, .ow ((fl L φ).map .int), .sh (.int (i : Nat)), .sh (.int (cf a i)), x5, x6]
      = .nx [x0, x1, .ow ((fl L fun k => if k = i + j then φ k + cf a i * cf b j else φ k).map .int), .sh (.int (i : Nat)), .sh (.int (cf a i)), .sh (.int (j : Nat)), .sh (.int (cf b j))] := by
  have m := okMul_of (ha.cf i) (hb.cf j) hst
  have ix := fl_ix (φ := φ) hL
  have e : ((i : Int) + (j : Int)).toNat = i + j := by omega
  have h1 : (0 : Int) ≤ (i : Int) + (j : Int) := by omega
  have h2 : (i : Int) + (j : Int) < 9223372036854775808 := by omega
  have st : ((fl L φ).map PyData.int).set (i + j) (.int (φ (i + j) + cf a i * cf b j)) = (fl L fun k => if k = i + j then φ k + cf a i * cf b j else φ k).map .int := by
    rw [← List.map_set, fl_set]
    congr 2
    funext k
    by_cases z : k = i + j
    · subst z; simp
    · simp [z]
  simp only [List.getElem?_map] at ix
  simp [b_multiply_1, placeD, h1, h2, e, ix, m, st]
theorem mul_inner {a b : List Int} {s t L : Nat} {φ : Nat → Int} {i : Nat} (ha : SzP s a) (hb : SzP t b) (hst : s + t ≤ 134217728) (hL : i + b.length ≤ L) (hL2 : L ≤ 100000) (x0 x1 x5 x6 : SD) :
    ∃ y5 y6, forO (gTo (gTupD 2 (gsCons (gSet 5) (gsCons (gSet 6) (gsNil)))) b_multiply_1) (enuL (b.map .int)) [x0, x1, .ow ((fl L φ).map .int), .sh (.int (i : Nat)), .sh (.int (cf a i)), x5, x6]
      = .nx [x0, x1, .ow ((fl L fun k => φ k + tm a b k i).map .int), .sh (.int (i : Nat)), .sh (.int (cf a i)), y5, y6] := by
  obtain ⟨ρ', e, y5, y6, rfl⟩ := forO_inv (F := gTo (gTupD 2 (gsCons (gSet 5) (gsCons (gSet 6) (gsNil)))) b_multiply_1) (l := enuL (b.map .int))
    (fun j ρ => ∃ y5 y6, ρ = [x0, x1, .ow ((fl L fun k => φ k + if i ≤ k ∧ k < i + j then cf a i * cf b (k - i) else 0).map .int), .sh (.int (i : Nat)), .sh (.int (cf a i)), y5, y6])
    (ρ := [x0, x1, .ow ((fl L φ).map .int), .sh (.int (i : Nat)), .sh (.int (cf a i)), x5, x6])
    ⟨x5, x6, by
      rw [show fl L φ = fl L fun k => φ k + if i ≤ k ∧ k < i + 0 then cf a i * cf b (k - i) else 0 from fl_congr fun k _ => by rw [if_neg (by omega)]; omega]⟩
    (fun j d ρ hd hi => by
      obtain ⟨hj, rfl⟩ := enu_get hd
      obtain ⟨y5, y6, rfl⟩ := hi
      refine ⟨_, .inl (mul_step ha hb hst (by omega) hL2 _ _ _ _), .sh (.int (j : Nat)), .sh (.int (cf b j)), ?_⟩
      refine congrArg (fun l => [x0, x1, SD.ow (List.map PyData.int l), .sh (.int (i : Nat)), .sh (.int (cf a i)), .sh (.int (j : Nat)), .sh (.int (cf b j))]) (fl_congr fun k _ => ?_)
      by_cases z : k = i + j
      · subst z
        rw [if_pos rfl, if_neg (by omega), if_pos (by omega)]
        simp
      · rw [if_neg z]
        by_cases w : i ≤ k ∧ k < i + j
        · rw [if_pos w, if_pos (by omega)]
        · rw [if_neg w, if_neg (by omega)])
  refine ⟨y5, y6, ?_⟩
  rw [e, enu_length]
  refine congrArg (fun l => Out.nx [x0, x1, SD.ow (List.map PyData.int l), .sh (.int (i : Nat)), .sh (.int (cf a i)), y5, y6]) (fl_congr fun k _ => ?_)
  unfold tm
  by_cases w : i ≤ k
  · rw [if_pos w]
    by_cases v : k < i + b.length
    · rw [if_pos ⟨w, v⟩]
    · rw [if_neg (by omega), cf_out (l := b) (by omega)]; simp
  · rw [if_neg w, if_neg (by omega)]
theorem rep_zero (n : Nat) : (List.replicate n [PyData.int 0]).flatten = (fl n fun _ => 0).map .int := by
  induction n with
  | zero => rfl
  | succ n ih => rw [List.replicate_succ, List.flatten_cons, ih]; simp [fl, List.range_succ_eq_map, List.map_map, Function.comp_def]
theorem multiply_ok {a b : List Int} {s t : Nat} (ha : SzP s a) (hb : SzP t b) (hst : s + t ≤ 134217728) (hla : a.length ≤ 50000) (hlb : b.length ≤ 50000) : m_multiply [pD a, pD b] = .ok (.ow ((mulP a b).map .int)) := by
  by_cases h1 : a = []
  · subst h1
    simp [m_multiply, c_multiply, mulP]
  by_cases h2 : b = []
  · subst h2
    cases a with
    | nil => simp at h1
    | cons x a => simp [m_multiply, c_multiply, mulP]
  · have t1 : truD (pD a) = some true := by rw [p_tru]; cases a with | nil => simp at h1 | cons _ _ => rfl
    have t2 : truD (pD b) = some true := by rw [p_tru]; cases b with | nil => simp at h2 | cons _ _ => rfl
    have la : 0 < a.length := by cases a with | nil => simp at h1 | cons _ _ => simp
    obtain ⟨L, hL⟩ : ∃ L, L = a.length + b.length - 1 := ⟨_, rfl⟩
    have rp : repD [.int 0] ((a.length : Int) + (b.length : Int) - 1) = some ((fl L fun _ => 0).map .int) := by
      unfold repD
      have e : ((a.length : Int) + (b.length : Int) - 1).toNat = L := by omega
      rw [if_pos ⟨by omega, by omega, by rw [e]; exact slB (by simp; omega)⟩, e, rep_zero]
    obtain ⟨ρ', e, y3, y4, y5, y6, rfl⟩ := forO_inv (F := gTo (gTupD 2 (gsCons (gSet 3) (gsCons (gSet 4) (gsNil)))) b_multiply_2) (l := enuL (a.map .int))
      (fun i ρ => ∃ y3 y4 y5 y6, ρ = [.sh (pD a), .sh (pD b), .ow ((fl L fun k => sumN i (tm a b k)).map .int), y3, y4, y5, y6])
      (ρ := [.sh (pD a), .sh (pD b), .ow ((fl L fun _ => 0).map .int), .no, .no, .no, .no])
      ⟨_, _, _, _, rfl⟩
      (fun i d ρ hd hi => by
        obtain ⟨hj, rfl⟩ := enu_get hd
        obtain ⟨y3, y4, y5, y6, rfl⟩ := hi
        obtain ⟨z5, z6, e⟩ := mul_inner (φ := fun k => sumN i (tm a b k)) (i := i) (L := L) ha hb hst (by omega) (by omega) (.sh (pD a)) (.sh (pD b)) y5 y6
        exact ⟨_, .inl (by simp [b_multiply_2, e, -Out.nx.injEq]; rfl), _, _, _, _, rfl⟩)
    rw [enu_length] at e
    have : mulP a b = fl L fun k => sumN a.length (tm a b k) := by
      unfold mulP
      rw [if_neg (by simp [h1, h2]), hL]; rfl
    simp [m_multiply, c_multiply, h1, h2, rp, e, this]

/-! ### products of lists, derivative -/
def prodP (ps : List (List Int)) : List Int := ps.foldl mulP [1]
theorem szp1 : SzP 1 [1] := fun c hc => by simp at hc; subst hc; exact .lit (by decide)
theorem product_loop {s LT : Nat} (hLT : LT ≤ 50000) (x : SD) : ∀ (ps : List (List Int)) (acc : List Int) (t : Nat) (j : SD), (∀ p ∈ ps, SzP s p) → SzP t acc → t + ps.length * (s + LT) ≤ 1000000 → acc.length + (ps.map List.length).sum ≤ LT →
    ∃ j', forO (gTo (gSet 2) b_product_1) (ps.map pD) [x, .sh (pD acc), j] = .nx [x, .sh (pD (ps.foldl mulP acc)), j'] ∧ SzP (t + ps.length * (s + LT)) (ps.foldl mulP acc) ∧ (ps.foldl mulP acc).length ≤ LT
  | [], acc, t, j, _, ha, _, h2 => ⟨j, rfl, by simpa using ha, by simpa using h2⟩
  | p :: ps, acc, t, j, hp, ha, h1, h2 => by
    have hp1 := hp p (by simp)
    rw [List.length_cons, Nat.succ_mul] at h1
    rw [List.map_cons, List.sum_cons] at h2
    have e : gTo (gSet 2) b_product_1 (pD p) [x, .sh (pD acc), j] = .nx [x, .sh (pD (mulP acc p)), .sh (pD p)] := by
      have m := multiply_ok ha hp1 (by omega) (by omega) (by omega)
      simp [b_product_1, m]
    have hl := mul_len acc p
    obtain ⟨j', ih, i2, i3⟩ := product_loop (s := s) hLT x ps (mulP acc p) (t + (s + LT)) (.sh (pD p)) (fun q hq => hp q (by simp [hq])) ((ha.mul hp1).mono (by omega)) (by omega) (by omega)
    refine ⟨j', ?_, ?_, i3⟩
    · rw [List.map_cons]
      unfold forO
      rw [e]
      exact ih
    · rw [List.length_cons, Nat.succ_mul]
      exact i2.mono (by omega)
theorem product_ok {s LT : Nat} {ps : List (List Int)} (hp : ∀ p ∈ ps, SzP s p) (hLT : LT ≤ 50000) (h1 : 1 + ps.length * (s + LT) ≤ 1000000) (h2 : 1 + (ps.map List.length).sum ≤ LT) :
    m_product [.list (ps.map pD)] = .ok (.sh (pD (prodP ps))) ∧ SzP (1 + ps.length * (s + LT)) (prodP ps) ∧ (prodP ps).length ≤ LT := by
  obtain ⟨j, e, i2, i3⟩ := product_loop hLT (.sh (.list (ps.map pD))) ps [1] 1 .no hp szp1 h1 h2
  refine ⟨?_, i2, i3⟩
  have one : PyData.list [PyData.int 1] = pD [1] := rfl
  simp [m_product, c_product, one, e, prodP]
theorem tr_foldl : ∀ {ps : List (List Int)} {acc : List Int}, (∀ p ∈ ps, Tr p) → Tr acc → Tr (ps.foldl mulP acc)
  | [], _, _, h => h
  | p :: ps, acc, hp, h => tr_foldl (ps := ps) (fun q hq => hp q (by simp [hq])) (tr_mul h (hp p (by simp)))
theorem tr_one : Tr [1] := fun m h => by
  have : m = 0 := by simpa using h.symm
  subst this; simp
def derP (a : List Int) : List Int := fl (a.length - 1) fun k => cf a (k + 1) * ((k : Int) + 1)
theorem cf_der (a : List Int) (k : Nat) : cf (derP a) k = cf a (k + 1) * ((k : Int) + 1) := by
  unfold derP
  rw [cf_fl]
  split
  · rfl
  · rw [cf_out (by omega)]; simp
theorem tr_der {a : List Int} (h : Tr a) : Tr (derP a) := fun m hm => by
  rw [cf_der]
  unfold derP at hm
  rw [fl_length] at hm
  exact Int.mul_ne_zero (h (m + 1) (by omega)) (by omega)
theorem nat_sz (n : Nat) (h : n ≤ 100000) : Sz 17 ((n : Nat) : Int) := .of 131072 (by omega) (by omega) (by decide)
theorem der_len (a : List Int) : (derP a).length = a.length - 1 := by simp [derP]
theorem rng1 (n : Nat) : rngL 1 1 n = (List.range n).map fun i => .int ((i : Nat) + 1) := by
  unfold rngL
  refine List.map_congr_left fun i _ => ?_
  congr 1; omega
theorem derivative_ok {a : List Int} {s : Nat} (ha : SzP s a) (hs : s ≤ 1000000) (hl : a.length ≤ 100000) : m_derivative [pD a] = .ok (.ow ((derP a).map .int)) := by
  have hr := range2_ok (x := 1) (y := (a.length : Nat)) (by decide) (by decide) (by omega) (by omega)
  have e : ((a.length : Int) - 1).toNat = a.length - 1 := by omega
  rw [e] at hr
  have hc : compR (compS [1] (gSet 1) (cst true) (e2 mulD (e2 ixD (eOwn 0) (eOwn 1)) (eOwn 1)) [.sh (pD a), .no]) (rngL 1 1 (a.length - 1)) = .ok ((derP a).map .int) := by
    rw [rng1, derP, fl, List.map_map]
    refine compR_map' fun k hk => ?_
    have hk' := List.mem_range.mp hk
    have ix : ixD (pD a) (.int ((k : Int) + 1)) = some (.int (cf a (k + 1))) := by
      have := p_ixn a (k + 1)
      rw [cf_get (by omega)] at this
      exact this
    have m := okMul_of (ha.cf (k + 1)) (nat_sz (k + 1) (by omega)) (by omega)
    have m' : okMul (cf a (k + 1)) ((k : Int) + 1) = true := m
    simp [compS, ix, m']
  have hz : a.length - 1 ≤ sizeLine := slB (by omega)
  simp [m_derivative, c_derivative, hr, rngL_length, hz, hc]
end W

set_option Elab.async false
set_option linter.all false
set_option maxRecDepth 100000
set_option autoImplicit false
namespace W
open PySem PySem.Spec PyProof.Rows L2 VL
/-! ### numbers as Rat -/
def tQ (r : Rat) : Int × Int := (r.num, (r.den : Int))
def rD (r : Rat) : D := qD (tQ r)
theorem nm_tQ (r : Rat) : Nm (tQ r) := ⟨by
  have := r.den_pos
  show (1 : Int) ≤ (r.den : Int)
  omega, by
  show Nat.gcd r.num.natAbs (r.den : Int).natAbs = 1
  rw [Int.natAbs_natCast]; exact r.reduced⟩
theorem den_ne (r : Rat) : ((r.den : Int) : Rat) ≠ 0 := by
  have := r.den_nz
  exact_mod_cast this
theorem num_eq (r : Rat) : (r.num : Rat) = r * ((r.den : Int) : Rat) := by
  have h : (r.num : Rat) / ((r.den : Int) : Rat) = r := by rw [← Rat.divInt_eq_div]; exact Rat.num_divInt_den r
  have := den_ne r
  grind
theorem mkQ_rat {n d : Int} (h : d ≠ 0) : mkQ n d = tQ ((n : Rat) / (d : Rat)) := by
  have hd : (d : Rat) ≠ 0 := by exact_mod_cast h
  refine (mkQ_nm h).uniq (nm_tQ _) ?_
  have e := mkQ_eq (n := n) h
  have e2 := num_eq ((n : Rat) / (d : Rat))
  generalize hr : (n : Rat) / (d : Rat) = r at e2 ⊢
  have e3 : (r.num : Rat) * (d : Rat) = (n : Rat) * ((r.den : Int) : Rat) := by rw [e2, ← hr]; grind
  have e4 : r.num * d = n * (r.den : Int) := by exact_mod_cast e3
  show (mkQ n d).1 * (r.den : Int) = r.num * (mkQ n d).2
  have : ((mkQ n d).1 * (r.den : Int)) * d = (r.num * (mkQ n d).2) * d := by grind
  exact Int.eq_of_mul_eq_mul_right h this
theorem addQ_rat (r s : Rat) : addQ (tQ r) (tQ s) = tQ (r + s) := by
  unfold addQ
  have h1 := den_ne r
  have h2 := den_ne s
  have h3 : (tQ r).2 * (tQ s).2 ≠ 0 := by
    show (r.den : Int) * (s.den : Int) ≠ 0
    have := r.den_nz
    have := s.den_nz
    exact Int.mul_ne_zero (by omega) (by omega)
  rw [mkQ_rat h3]
  congr 1
  have e1 := num_eq r
  have e2 := num_eq s
  show ((r.num * (s.den : Int) + s.num * (r.den : Int) : Int) : Rat) / (((r.den : Int) * (s.den : Int) : Int) : Rat) = r + s
  rw [Rat.intCast_add, Rat.intCast_mul, Rat.intCast_mul, Rat.intCast_mul, e1, e2]
  grind
theorem mulQ_rat (r s : Rat) : mulQ (tQ r) (tQ s) = tQ (r * s) := by
  unfold mulQ
  have h1 := den_ne r
  have h2 := den_ne s
  have h3 : (tQ r).2 * (tQ s).2 ≠ 0 := by
    show (r.den : Int) * (s.den : Int) ≠ 0
    have := r.den_nz
    have := s.den_nz
    exact Int.mul_ne_zero (by omega) (by omega)
  rw [mkQ_rat h3]
  congr 1
  have e1 := num_eq r
  have e2 := num_eq s
  show ((r.num * s.num : Int) : Rat) / (((r.den : Int) * (s.den : Int) : Int) : Rat) = r * s
  rw [Rat.intCast_mul, Rat.intCast_mul, e1, e2]
  grind
/-! ### values -/
def evP (a : List Int) (x : Rat) : Rat := a.foldr (fun (c : Int) (v : Rat) => v * x + (c : Rat)) 0
def Rk (k : Nat) (r : Rat) : Prop := Nk k (tQ r)
theorem Rk.mono {k l : Nat} {r : Rat} (h : Rk k r) (e : k ≤ l) : Rk l r := Nk.mono h e
theorem Rk.add {k l : Nat} {r s : Rat} (h : Rk k r) (h' : Rk l s) : Rk (k + l + 1) (r + s) := by
  have := Nk.add h h'
  rwa [addQ_rat] at this
theorem Rk.mul {k l : Nat} {r s : Rat} (h : Rk k r) (h' : Rk l s) : Rk (k + l) (r * s) := by
  have := Nk.mul h h'
  rwa [mulQ_rat] at this
theorem rk_int {k : Nat} {c : Int} (h : Sz k c) (hk : 1 ≤ k) : Rk k (c : Rat) := ⟨nm_tQ _, h, (Sz.lit (i := 1) (a := 1) (by decide)).mono hk⟩
theorem rD_int (c : Int) : (PyData.tuple [.int c, .int 1]) = rD (c : Rat) := rfl
theorem rD_0 : (PyData.tuple [.int 0, .int 1]) = rD 0 := rfl
theorem rk0 : Rk 1 0 := nk01
theorem plus_r {r s : Rat} {k l : Nat} (h : Rk k r) (h' : Rk l s) (e : k + l ≤ 8000) : m_plus [rD r, rD s] = .ok (.sh (rD (r + s))) := by
  have := plus_ok h h' e
  rwa [addQ_rat] at this
theorem times_r {r s : Rat} {k l : Nat} (h : Rk k r) (h' : Rk l s) (e : k + l ≤ 8000) : m_times [rD r, rD s] = .ok (.sh (rD (r * s))) := by
  have := times_ok h h' e
  rwa [mulQ_rat] at this
theorem rk_div {n d : Int} {k : Nat} (hd : d ≠ 0) (h1 : Sz k n) (h2 : Sz k d) : Rk k ((n : Rat) / (d : Rat)) := by
  unfold Rk; rw [← mkQ_rat hd]; exact mkQ_nk hd h1 h2
@[simp] theorem okD_r (n : Nat) (r : Rat) : okD (n + 1) (rD r) = true := okD_q n _
@[simp] theorem ix_r0 (r : Rat) : ixD (rD r) (.int 0) = some (.int r.num) := ix_q0 _
@[simp] theorem ix_r1 (r : Rat) : ixD (rD r) (.int 1) = some (.int (r.den : Int)) := ix_q1 _
theorem r_neR {r s : Rat} : neD (rD r) (rD s) = some (.bool (!decide (r = s))) := by
  rw [r_neD (by simp) (by simp)]
  congr 3
  show (((r.num == s.num)) && (((r.den : Int) == (s.den : Int)) && true)) = decide (r = s)
  by_cases h : r = s
  · subst h; simp
  · simp [h]
    intro h1 h2
    exact h (Rat.ext h1 (by omega))
theorem r_eqR {r s : Rat} : eqD (rD r) (rD s) = some (.bool (decide (r = s))) := by
  have h := r_neR (r := r) (s := s)
  rw [r_neD (by simp) (by simp)] at h
  rw [r_eqD (by simp) (by simp)]
  simp only [Option.some.injEq, PyData.bool.injEq] at h ⊢
  cases h1 : PyData.eqv (rD r) (rD s) <;> cases h2 : decide (r = s) <;> simp_all
theorem value_loop {a0 : SD} {x : Rat} {kx c : Nat} (hx : Rk kx x) (hc : 1 ≤ c) : ∀ (r : List Int) (s : Rat) (k : Nat) (j : SD), (∀ z ∈ r, Sz c z) → Rk k s → k + r.length * (kx + c + 1) + kx + c ≤ 8000 →
    ∃ j', forO (gTo (gSet 3) b_value_at_1) (r.map .int) [a0, .sh (rD x), .sh (rD s), j] = .nx [a0, .sh (rD x), .sh (rD (r.foldl (fun (v : Rat) (c : Int) => v * x + (c : Rat)) s)), j'] ∧ Rk (k + r.length * (kx + c + 1)) (r.foldl (fun (v : Rat) (c : Int) => v * x + (c : Rat)) s)
  | [], s, k, j, _, hs, _ => ⟨j, rfl, by simpa using hs⟩
  | z :: r, s, k, j, hr, hs, h => by
    rw [List.length_cons, Nat.succ_mul] at h
    have hz := rk_int (hr z (by simp)) hc
    have e1 := times_r hs hx (by omega)
    have e2 := plus_r (hs.mul hx) hz (by omega)
    have e : gTo (gSet 3) b_value_at_1 (.int z) [a0, .sh (rD x), .sh (rD s), j] = .nx [a0, .sh (rD x), .sh (rD (s * x + (z : Rat))), .sh (.int z)] := by
      simp [b_value_at_1, e1, rD_int, e2]
    obtain ⟨j', i1, i2⟩ := value_loop (a0 := a0) hx hc r (s * x + (z : Rat)) (k + (kx + c + 1)) (.int z |> .sh) (fun y hy => hr y (by simp [hy])) (((hs.mul hx).add hz).mono (by omega)) (by omega)
    refine ⟨j', ?_, ?_⟩
    · rw [List.map_cons]
      unfold forO
      rw [e]
      exact i1
    · rw [List.length_cons, Nat.succ_mul]
      exact i2.mono (by omega)
theorem evP_rev (a : List Int) (x : Rat) : a.reverse.foldl (fun (v : Rat) (c : Int) => v * x + (c : Rat)) 0 = evP a x := by rw [List.foldl_reverse]; rfl
theorem value_at_ok {a : List Int} {x : Rat} {kx c : Nat} (ha : SzP c a) (hx : Rk kx x) (hc : 1 ≤ c) (h : 1 + a.length * (kx + c + 1) + kx + c ≤ 8000) :
    m_value_at [pD a, rD x] = .ok (.sh (rD (evP a x))) ∧ Rk (1 + a.length * (kx + c + 1)) (evP a x) := by
  obtain ⟨j', e, i2⟩ := value_loop (a0 := .sh (pD a)) hx hc a.reverse 0 1 .no (fun z hz => ha z (by simpa using hz)) rk0 (by simpa using h)
  rw [evP_rev] at e i2
  refine ⟨?_, by simpa using i2⟩
  rw [List.map_reverse] at e
  simp [m_value_at, c_value_at, rD_0, e]
/-! ### values of sums and products -/
def evS : Nat → (Nat → Int) → Rat → Rat
  | 0, _, _ => 0
  | n + 1, f, x => evS n f x + (f n : Rat) * x ^ n
theorem evS_add (f g : Nat → Int) (x : Rat) : ∀ n, evS n (fun k => f k + g k) x = evS n f x + evS n g x
  | 0 => by simp [evS, Rat.add_zero]
  | n + 1 => by unfold evS; rw [evS_add f g x n, Rat.intCast_add]; grind
theorem evS_mul (c : Int) (f : Nat → Int) (x : Rat) : ∀ n, evS n (fun k => c * f k) x = (c : Rat) * evS n f x
  | 0 => by simp [evS]
  | n + 1 => by unfold evS; rw [evS_mul c f x n, Rat.intCast_mul]; grind
theorem evS_congr {f g : Nat → Int} {x : Rat} : ∀ {n : Nat}, (∀ k, k < n → f k = g k) → evS n f x = evS n g x
  | 0, _ => rfl
  | n + 1, h => by unfold evS; rw [evS_congr (n := n) fun k hk => h k (by omega), h n (by omega)]
theorem evS_succ (f : Nat → Int) (x : Rat) : ∀ n, evS (n + 1) f x = (f 0 : Rat) + x * evS n (fun k => f (k + 1)) x
  | 0 => by simp [evS, Rat.add_zero, Rat.zero_add]
  | n + 1 => by rw [evS, evS_succ f x n, evS, Rat.pow_succ]; grind
theorem evS_ext {f : Nat → Int} {x : Rat} {n m : Nat} (h : n ≤ m) (hz : ∀ k, n ≤ k → f k = 0) : evS m f x = evS n f x := by
  induction m with
  | zero => rw [show n = 0 by omega]
  | succ m ih =>
    by_cases e : n = m + 1
    · rw [e]
    · rw [evS, ih (by omega), hz m (by omega)]; simp [Rat.add_zero]
theorem evP_S (a : List Int) (x : Rat) : ∀ n, a.length ≤ n → evP a x = evS n (cf a) x := by
  induction a with
  | nil =>
    intro n _
    rw [evS_ext (n := 0) (Nat.zero_le n) fun k _ => cf_nil k]; rfl
  | cons c a ih =>
    intro n hn
    cases n with
    | zero => simp at hn
    | succ n =>
      rw [evS_succ, cf_zero]
      have := ih n (by simpa using hn)
      rw [show (fun k => cf (c :: a) (k + 1)) = cf a from funext fun k => cf_succ c a k, ← this]
      show evP a x * x + (c : Rat) = _
      grind
theorem evP_ext {a b : List Int} (h : ∀ k, cf a k = cf b k) (x : Rat) : evP a x = evP b x := by
  rw [evP_S a x (max a.length b.length) (by omega), evP_S b x (max a.length b.length) (by omega)]
  exact evS_congr fun k _ => h k
theorem evP_add (a b : List Int) (x : Rat) : evP (addP a b) x = evP a x + evP b x := by
  have h1 := add_len a b
  rw [evP_S _ x (max a.length b.length) h1, evP_S a x (max a.length b.length) (by omega), evP_S b x (max a.length b.length) (by omega), ← evS_add]
  exact evS_congr fun k _ => cf_add a b k
theorem evS_cv (b : List Int) (x : Rat) : ∀ (a : List Int) (n : Nat), a.length + b.length ≤ n → evS n (cv a b) x = evP a x * evP b x
  | [], n, _ => by
    rw [evS_ext (n := 0) (Nat.zero_le n) fun k _ => cv_nil b k]
    show (0 : Rat) = 0 * _
    grind
  | c :: a, n, h => by
    rw [List.length_cons] at h
    obtain ⟨m, rfl⟩ : ∃ m, n = m + 1 := ⟨n - 1, by omega⟩
    have e1 : evS (m + 1) (cv (c :: a) b) x = evS (m + 1) (fun k => c * cf b k + if k = 0 then 0 else cv a b (k - 1)) x := evS_congr fun k _ => cv_cons c a b k
    rw [e1, evS_add (fun k => c * cf b k) (fun k => if k = 0 then 0 else cv a b (k - 1)), evS_mul, ← evP_S b x (m + 1) (by omega), evS_succ]
    have ih := evS_cv b x a m (by omega)
    rw [show (fun k => if k + 1 = 0 then (0 : Int) else cv a b (k + 1 - 1)) = cv a b from funext fun k => by simp, ih]
    show _ = (evP a x * x + (c : Rat)) * evP b x
    simp
    grind
theorem evP_mul (a b : List Int) (x : Rat) : evP (mulP a b) x = evP a x * evP b x := by
  rw [evP_S _ x (a.length + b.length) (mul_len a b), ← evS_cv b x a (a.length + b.length) (Nat.le_refl _)]
  exact evS_congr fun k _ => cf_mul a b k
theorem rD_div {n d : Int} (hd : d ≠ 0) : qD (mkQ n d) = rD ((n : Rat) / (d : Rat)) := by rw [mkQ_rat hd]; rfl
end W

set_option Elab.async false
set_option linter.all false
set_option maxRecDepth 100000
set_option autoImplicit false
namespace W
open PySem PySem.Spec PyProof.Rows L2 VL
theorem ixN_nat {n i : Nat} (h : i < n) : ixN n (i : Int) = some i := by unfold ixN; rw [if_pos (by omega), if_pos (by omega)]; simp
theorem p_ixc {l : List Int} {n : Nat} (h : n < l.length) : ixD (pD l) (.int (n : Int)) = some (.int (cf l n)) := by rw [p_ixn, cf_get h]; rfl
theorem rep_ok {n : Nat} {z : Int} (hz : z = (n : Int)) (h : n ≤ 1000000) : repD [.int 0] z = some ((fl n fun _ => 0).map .int) := by
  subst hz
  unfold repD
  rw [if_pos ⟨by omega, by omega, by simp; exact Nat.le_trans h (by decide)⟩, Int.toNat_natCast, rep_zero]
theorem fl_pix {L n : Nat} {φ : Nat → Int} (h : n < L) : ixD (pD (fl L φ)) (.int (n : Int)) = some (.int (φ n)) := by rw [p_ixn, fl_get h]; rfl
theorem st_fl {L n : Nat} {φ : Nat → Int} {v : Int} : ((fl L φ).map PyData.int).set n (.int v) = (fl L fun k => if k = n then v else φ k).map .int := by rw [← List.map_set, fl_set]
theorem lmul_step {a b : List Int} {s t L : Nat} {φ : Nat → Int} {i j : Nat} (ha : SzP s a) (hb : SzP t b) (hst : s + t ≤ 134217728) (hi : i < a.length) (hj : j < b.length) (hL : i + j < L) (x4 : SD) :
    gTo (gSet 4) b__law_multiply_1 (.int (j : Nat)) [.sh (pD a), .sh (pD b), .ow ((fl L φ).map .int), .sh (.int (i : Nat)), x4]
      = .nx [.sh (pD a), .sh (pD b), .ow ((fl L fun k => if k = i + j then φ k + cf a i * cf b j else φ k).map .int), .sh (.int (i : Nat)), .sh (.int (j : Nat))] := by
  have m := okMul_of (ha.cf i) (hb.cf j) hst
  have ix : ixD (pD (fl L φ)) (.int ((i : Int) + (j : Int))) = some (.int (φ (i + j))) := fl_pix (n := i + j) hL
  have ij : ixN L ((i : Int) + (j : Int)) = some (i + j) := ixN_nat (i := i + j) hL
  have st : ((fl L φ).map PyData.int).set (i + j) (.int (φ (i + j) + cf a i * cf b j)) = (fl L fun k => if k = i + j then φ k + cf a i * cf b j else φ k).map .int := by
    rw [st_fl]
    refine congrArg _ (fl_congr fun k _ => ?_)
    by_cases z : k = i + j
    · subst z; simp
    · simp [z]
  simp [b__law_multiply_1, p_ixc hi, p_ixc hj, ix, ij, m, st]
theorem lmul_inner {a b : List Int} {s t L : Nat} {φ : Nat → Int} {i : Nat} (ha : SzP s a) (hb : SzP t b) (hst : s + t ≤ 134217728) (hi : i < a.length) (hL : i + b.length ≤ L) (x4 : SD) :
    ∃ y4, forO (gTo (gSet 4) b__law_multiply_1) (rngL 0 1 b.length) [.sh (pD a), .sh (pD b), .ow ((fl L φ).map .int), .sh (.int (i : Nat)), x4]
      = .nx [.sh (pD a), .sh (pD b), .ow ((fl L fun k => φ k + tm a b k i).map .int), .sh (.int (i : Nat)), y4] := by
  obtain ⟨ρ', e, y4, rfl⟩ := forO_inv (F := gTo (gSet 4) b__law_multiply_1) (l := rngL 0 1 b.length)
    (fun j ρ => ∃ y4, ρ = [.sh (pD a), .sh (pD b), .ow ((fl L fun k => φ k + if i ≤ k ∧ k < i + j then cf a i * cf b (k - i) else 0).map .int), .sh (.int (i : Nat)), y4])
    (ρ := [.sh (pD a), .sh (pD b), .ow ((fl L φ).map .int), .sh (.int (i : Nat)), x4])
    ⟨x4, by
      rw [show fl L φ = fl L fun k => φ k + if i ≤ k ∧ k < i + 0 then cf a i * cf b (k - i) else 0 from fl_congr fun k _ => by rw [if_neg (by omega)]; omega]⟩
    (fun j d ρ hd hi' => by
      obtain ⟨hj, rfl⟩ := rng0_get hd
      obtain ⟨y4, rfl⟩ := hi'
      refine ⟨_, .inl (lmul_step ha hb hst hi hj (by omega) _), .sh (.int (j : Nat)), ?_⟩
      refine congrArg (fun l => [SD.sh (pD a), .sh (pD b), SD.ow (List.map PyData.int l), .sh (.int (i : Nat)), .sh (.int (j : Nat))]) (fl_congr fun k _ => ?_)
      by_cases z : k = i + j
      · subst z
        rw [if_pos rfl, if_neg (by omega), if_pos (by omega)]
        simp
      · rw [if_neg z]
        by_cases w : i ≤ k ∧ k < i + j
        · rw [if_pos w, if_pos (by omega)]
        · rw [if_neg w, if_neg (by omega)])
  refine ⟨y4, ?_⟩
  rw [e, rngL_length]
  refine congrArg (fun l => Out.nx [SD.sh (pD a), .sh (pD b), SD.ow (List.map PyData.int l), .sh (.int (i : Nat)), y4]) (fl_congr fun k _ => ?_)
  unfold tm
  by_cases w : i ≤ k
  · rw [if_pos w]
    by_cases v : k < i + b.length
    · rw [if_pos ⟨w, v⟩]
    · rw [if_neg (by omega), cf_out (l := b) (by omega)]; simp
  · rw [if_neg w, if_neg (by omega)]
end W

set_option Elab.async false
set_option linter.all false
set_option maxRecDepth 100000
set_option autoImplicit false
namespace W
open PySem PySem.Spec PyProof.Rows L2 VL
noncomputable def b__law_lowest_1 : Ev → Out := sSeq (sIf (e1 bOf (e2 eqD (eOwn 3) (cst (.int 0)))) (.bk) (sNil)) (sPar 2 3 (eCons (eVar 3) (eCons (e2 modD (e1 intD (eCons (eOwn 2) (cst []))) (eOwn 3)) (cst []))))
noncomputable def c__law_lowest : Ev → Out := sSeq (sIf (e1 bOf (e2 ltD (eOwn 1) (cst (.int 0)))) (sPar 0 1 (eCons (e1 negD (eOwn 0)) (eCons (e1 negD (eOwn 1)) (cst [])))) (sNil)) (sSeq (sPar 2 3 (eCons (e1 absD (eCons (eOwn 0) (cst []))) (eCons (eVar 1) (cst [])))) (sSeq (sFor (e1 range1D (eCons (cst (.int 5000)) (cst []))) (gSet 4) b__law_lowest_1) (sRet (e1 tupD (eCons (e2 fdivD (eOwn 0) (eOwn 2)) (eCons (e2 fdivD (eOwn 1) (eOwn 2)) (cst [])))))))
noncomputable def m__law_lowest : List D → R SD := runD 2 5 c__law_lowest
noncomputable def c_sign_of : Ev → Out := sRet (e2 subD (e1 intD (eCons (e2 gtD (eOwn 0) (cst (.int 0))) (cst []))) (e1 intD (eCons (e2 ltD (eOwn 0) (cst (.int 0))) (cst []))))
noncomputable def m_sign_of : List D → R SD := runD 1 1 c_sign_of
noncomputable def c_sign_at : Ev → Out := sRet (eCall m_sign_of (eCons (e2 ixD (eCall m_value_at (eCons (eVar 0) (eCons (eVar 1) (cst [])))) (cst (.int 0))) (cst [])))
noncomputable def m_sign_at : List D → R SD := runD 2 2 c_sign_at
noncomputable def c__law_add_k40 : Ev → Out := sRet (eCall m__law_lowest (eCons (e2 addD (e2 mulD (e2 ixD (eOwn 0) (cst (.int 0))) (e2 ixD (eOwn 1) (cst (.int 1)))) (e2 mulD (e2 ixD (eOwn 1) (cst (.int 0))) (e2 ixD (eOwn 0) (cst (.int 1))))) (eCons (e2 mulD (e2 ixD (eOwn 0) (cst (.int 1))) (e2 ixD (eOwn 1) (cst (.int 1)))) (cst []))))
noncomputable def m__law_add_k40 : List D → R SD := runD 2 2 c__law_add_k40
noncomputable def c__law_mul : Ev → Out := sRet (eCall m__law_lowest (eCons (e2 mulD (e2 ixD (eOwn 0) (cst (.int 0))) (e2 ixD (eOwn 1) (cst (.int 0)))) (eCons (e2 mulD (e2 ixD (eOwn 0) (cst (.int 1))) (e2 ixD (eOwn 1) (cst (.int 1)))) (cst []))))
noncomputable def m__law_mul : List D → R SD := runD 2 2 c__law_mul
noncomputable def b__law_value_1 : Ev → Out := sSet 2 (eCall m__law_add_k40 (eCons (eCall m__law_mul (eCons (eVar 2) (eCons (eVar 1) (cst [])))) (eCons (e1 tupD (eCons (e2 ixD (eOwn 0) (e2 subD (e2 subD (e1 lenD (eCons (eOwn 0) (cst []))) (cst (.int 1))) (eOwn 3))) (eCons (cst (.int 1)) (cst [])))) (cst []))))
noncomputable def c__law_value : Ev → Out := sSeq (sSet 2 (e1 tupD (eCons (cst (.int 0)) (eCons (cst (.int 1)) (cst []))))) (sSeq (sFor (e1 range1D (eCons (e1 lenD (eCons (eOwn 0) (cst []))) (cst []))) (gSet 3) b__law_value_1) (sRet (eVar 2)))
noncomputable def m__law_value : List D → R SD := runD 2 4 c__law_value
/-! ### the pool of small numbers -/
structure IsPool (l : List Int) : Prop where
  two : 2 ≤ l.length
  len : l.length ≤ 10000
  lo : ∀ x ∈ l, 0 ≤ x
  hi : ∀ x ∈ l, x < 1000000
structure SmallP (n : Nat) (a : List Int) : Prop where
  tr : Tr a
  sz : SzP 6 a
  len : a.length ≤ n
/-! ### rows -/
structure Row where
  ps : List (List Int)
  q : List Int
  s : Str
def rowD (r : Row) : D := .tuple [.list (r.ps.map pD), pD r.q, .str r.s]
structure RowOk (m : Nat) (r : Row) : Prop where
  len : r.ps.length = m
  ps : ∀ p ∈ r.ps, SmallP 3 p
  q : SmallP 3 r.q
  s : r.s = "<=" ∨ r.s = "<" ∨ r.s = "="
theorem SmallP.mono {n m : Nat} {a : List Int} (h : SmallP n a) (e : n ≤ m) : SmallP m a := ⟨h.tr, h.sz, Nat.le_trans h.len e⟩
/-! ### numbers in lowest terms, another way -/
theorem low_step {n d : SD} {a b : Nat} {x : D} {j : SD} (hb : b ≠ 0) : gTo (gSet 4) b__law_lowest_1 x [n, d, .sh (.int (a : Nat)), .sh (.int (b : Nat)), j] = .nx [n, d, .sh (.int (b : Nat)), .sh (.int ((a % b : Nat) : Int)), .sh x] := by
  have hm : modD (.int (a : Nat)) (.int (b : Nat)) = some (.int ((a % b : Nat) : Int)) := by
    rw [r_mod (by omega)]; simp [Int.fmod_eq_emod_of_nonneg]
  simp [b__law_lowest_1, hm, hb]
theorem low_loop {n d : SD} {a b : Nat} (ha : a < 2 ^ 1990) (hb : b < 2 ^ 1990) : ∃ y j, forO (gTo (gSet 4) b__law_lowest_1) (rngL 0 1 5000) [n, d, .sh (.int (a : Nat)), .sh (.int (b : Nat)), .no] = .nx [n, d, .sh (.int (Nat.gcd a b : Nat)), y, j] := by
  refine forO_gen (F := gTo (gSet 4) b__law_lowest_1) (l := rngL 0 1 5000) (fun o => ∃ y j, o = .nx [n, d, .sh (.int (Nat.gcd a b : Nat)), y, j])
    (fun i ρ => ∃ (x y : Nat) (j : SD), ρ = [n, d, .sh (.int (x : Nat)), .sh (.int (y : Nat)), j] ∧ Nat.gcd x y = Nat.gcd a b ∧ ((i = 0 ∧ x * y * 2 < 2 ^ 5000) ∨ (x * y * 2 ^ i < 2 ^ 5000 ∧ y ≤ x)))
    ⟨_, _, _, rfl, rfl, .inl ⟨rfl, by
      have h1 := Nat.mul_lt_mul'' ha hb
      rw [← Nat.pow_add] at h1
      have h2 : (2 : Nat) ^ 5000 = 2 ^ (1990 + 1990) * 2 ^ 1020 := by rw [← Nat.pow_add]
      have h3 : (2 : Nat) ≤ 2 ^ 1020 := by
        have : (2 : Nat) ^ 1 ≤ 2 ^ 1020 := Nat.pow_le_pow_right (by decide) (by decide)
        simpa using this
      rw [h2]
      generalize (2 : Nat) ^ (1990 + 1990) = q at *
      exact Nat.lt_of_lt_of_le (Nat.mul_lt_mul_of_pos_right h1 (by decide)) (Nat.mul_le_mul_left q h3)⟩⟩
    (fun i z ρ hd hi => ?_) (fun ρ h => ?_)
  · obtain ⟨x, y, j, rfl, hg, hp⟩ := hi
    by_cases hy : y = 0
    · subst hy
      right; left
      exact ⟨_, by simp [b__law_lowest_1, -Out.bk.injEq] <;> rfl, .sh (.int 0), .sh z, by rw [← hg]; simp⟩
    · left
      refine ⟨_, .inl (low_step hy), y, x % y, _, rfl, by rw [← hg, Nat.gcd_comm x y, Nat.gcd_comm y (x % y), ← Nat.gcd_rec], .inr ?_⟩
      rcases hp with ⟨rfl, hp⟩ | ⟨hp, hl⟩
      · have : x % y < y := Nat.mod_lt _ (by omega)
        have h2 : x % y ≤ x := Nat.mod_le _ _
        refine ⟨Nat.lt_of_le_of_lt ?_ hp, by omega⟩
        calc y * (x % y) * 2 ^ (0 + 1) = y * (x % y) * 2 := by simp
          _ ≤ y * x * 2 := Nat.mul_le_mul_right 2 (Nat.mul_le_mul_left y h2)
          _ = x * y * 2 := by rw [Nat.mul_comm y x]
      · obtain ⟨h1, h2⟩ := gcd_halves hl hy
        refine ⟨Nat.lt_of_le_of_lt ?_ hp, h2⟩
        calc y * (x % y) * 2 ^ (i + 1) = 2 * (y * (x % y)) * 2 ^ i := by rw [Nat.pow_succ]; grind
          _ ≤ x * y * 2 ^ i := Nat.mul_le_mul_right _ h1
  · obtain ⟨x, y, j, rfl, hg, hp⟩ := h
    rw [rngL_length] at hp
    rcases hp with ⟨h, _⟩ | ⟨hp, hl⟩
    · cases h
    · have h0 : x * y = 0 := by
        rcases Nat.eq_zero_or_pos (x * y) with h | h
        · exact h
        · have : 1 * 2 ^ 5000 ≤ x * y * 2 ^ 5000 := Nat.mul_le_mul_right _ h
          rw [Nat.one_mul] at this
          exact absurd hp (Nat.not_lt.mpr this)
      have hy : y = 0 := by
        rcases Nat.mul_eq_zero.mp h0 with h | h
        · omega
        · exact h
      subst hy
      exact ⟨.sh (.int 0), j, by rw [← hg]; simp⟩
theorem lowest_ok {n d : Int} (h1 : Sz 1990 n) (h2 : Sz 1990 d) (hd : d ≠ 0) : m__law_lowest [.int n, .int d] = .ok (.sh (rD ((n : Rat) / (d : Rat)))) := by
  show _ = VL.R.ok (SD.sh (qD (tQ _)))
  rw [← mkQ_rat hd]
  have o := okDiv_gcd (n := n) (h2.mono (show 1990 ≤ 9000 by decide)) hd
  have hr := range1_ok (x := 5000) (by decide) (by decide)
  have ea : ∀ a : Int, (if a < 0 then -a else a) = (a.natAbs : Int) := fun a => by split <;> omega
  by_cases h : d < 0
  · obtain ⟨y, j, e⟩ := low_loop (n := .sh (.int (-n))) (d := .sh (.int (-d))) h1.lt h2.lt
    have ed : -d = (d.natAbs : Int) := by omega
    have ea' : (if 0 < n then n else -n) = (n.natAbs : Int) := by split <;> omega
    have e' := e
    rw [← ed] at e'
    simp [m__law_lowest, c__law_lowest, h, hr, mkQ, qD, ea', e', o]
  · obtain ⟨y, j, e⟩ := low_loop (n := .sh (.int n)) (d := .sh (.int d)) h1.lt h2.lt
    have ed : ((d.natAbs : Nat) : Int) = d := by omega
    rw [ed] at e
    simp [m__law_lowest, c__law_lowest, h, hr, mkQ, qD, ea, e, o]

theorem ladd2_r {r s : Rat} {k l : Nat} (h : Rk k r) (h' : Rk l s) (e : k + l ≤ 1900) : m__law_add_k40 [rD r, rD s] = .ok (.sh (rD (r + s))) := by
  have o1 := okMul_of h.s1 h'.s2 (by omega)
  have o2 := okMul_of h'.s1 h.s2 (by omega)
  have o3 := okMul_of h.s2 h'.s2 (by omega)
  have n := lowest_ok (((h.s1.mul h'.s2).add (Nat.add_comm l k ▸ h'.s1.mul h.s2)).mono (show _ ≤ 1990 by omega)) ((h.s2.mul h'.s2).mono (show _ ≤ 1990 by omega)) (h.mulne h')
  rw [← rD_div (h.mulne h')] at n
  have e2 := addQ_rat r s
  unfold addQ at e2
  rw [e2] at n
  have n' : m__law_lowest [.int (r.num * (s.den : Int) + s.num * (r.den : Int)), .int ((r.den : Int) * (s.den : Int))] = .ok (.sh (rD (r + s))) := n
  have o1' : okMul r.num (s.den : Int) = true := o1
  have o2' : okMul s.num (r.den : Int) = true := o2
  have o3' : okMul (r.den : Int) (s.den : Int) = true := o3
  simp [m__law_add_k40, c__law_add_k40, o1', o2', o3', n']
theorem lmul2_r {r s : Rat} {k l : Nat} (h : Rk k r) (h' : Rk l s) (e : k + l ≤ 1900) : m__law_mul [rD r, rD s] = .ok (.sh (rD (r * s))) := by
  have o1' : okMul r.num s.num = true := okMul_of h.s1 h'.s1 (by omega)
  have o3' : okMul (r.den : Int) (s.den : Int) = true := okMul_of h.s2 h'.s2 (by omega)
  have n := lowest_ok ((h.s1.mul h'.s1).mono (show _ ≤ 1990 by omega)) ((h.s2.mul h'.s2).mono (show _ ≤ 1990 by omega)) (h.mulne h')
  rw [← rD_div (h.mulne h')] at n
  have e2 := mulQ_rat r s
  unfold mulQ at e2
  rw [e2] at n
  have n' : m__law_lowest [.int (r.num * s.num), .int ((r.den : Int) * (s.den : Int))] = .ok (.sh (rD (r * s))) := n
  simp [m__law_mul, c__law_mul, o1', o3', n']
theorem lvalue_loop {a : List Int} {x : Rat} {kx c : Nat} (ha : SzP c a) (hx : Rk kx x) (hc : 1 ≤ c) (h : 1 + a.length * (kx + c + 1) + kx + c ≤ 1900) :
    ∃ j', forO (gTo (gSet 3) b__law_value_1) (rngL 0 1 a.length) [.sh (pD a), .sh (rD x), .sh (rD 0), .no] = .nx [.sh (pD a), .sh (rD x), .sh (rD (evP a x)), j'] := by
  obtain ⟨ρ', e, j, rfl, _⟩ := forO_inv (F := gTo (gSet 3) b__law_value_1) (l := rngL 0 1 a.length)
    (fun i ρ => ∃ j, ρ = [.sh (pD a), .sh (rD x), .sh (rD (evP (a.drop (a.length - i)) x)), j] ∧ Rk (1 + i * (kx + c + 1)) (evP (a.drop (a.length - i)) x))
    (ρ := [.sh (pD a), .sh (rD x), .sh (rD 0), .no])
    ⟨.no, by rw [Nat.sub_zero, List.drop_length]; rfl, by rw [Nat.sub_zero, List.drop_length, Nat.zero_mul]; exact rk0⟩
    (fun i d ρ hd hi => by
      obtain ⟨hil, rfl⟩ := rng0_get hd
      obtain ⟨j, rfl, hs⟩ := hi
      obtain ⟨n, hn⟩ : ∃ n, a.length - i = n + 1 := ⟨a.length - i - 1, by omega⟩
      rw [hn] at hs ⊢
      have hz := rk_int (ha.cf n) hc
      have hmul : (i + 1) * (kx + c + 1) ≤ a.length * (kx + c + 1) := Nat.mul_le_mul_right _ (by omega)
      rw [Nat.succ_mul] at hmul
      have u1 := lmul2_r hs hx (by omega)
      have u2 := ladd2_r (hs.mul hx) hz (by omega)
      have ix : ixD (pD a) (.int ((a.length : Int) - 1 - (i : Int))) = some (.int (cf a n)) := by
        rw [show (a.length : Int) - 1 - (i : Int) = (n : Int) by omega]
        exact p_ixc (by omega)
      have dr : a.drop n = cf a n :: a.drop (n + 1) := by
        rw [List.drop_eq_getElem_cons (by omega), cf_elem (by omega)]
      have ev : evP (a.drop n) x = evP (a.drop (n + 1)) x * x + (cf a n : Rat) := by rw [dr]; rfl
      refine ⟨_, .inl (by simp [b__law_value_1, u1, rD_int, u2, ix, -Out.nx.injEq] <;> rfl), .sh (.int (i : Nat)), ?_, ?_⟩
      · rw [show a.length - (i + 1) = n by omega, ev]
      · rw [show a.length - (i + 1) = n by omega, ev, Nat.succ_mul]
        exact ((hs.mul hx).add hz).mono (by omega))
  rw [rngL_length, Nat.sub_self] at e
  exact ⟨j, e⟩
theorem lvalue_ok {a : List Int} {x : Rat} {kx c : Nat} (ha : SzP c a) (hx : Rk kx x) (hc : 1 ≤ c) (h : 1 + a.length * (kx + c + 1) + kx + c ≤ 1900) (hl : a.length ≤ 100000) :
    m__law_value [pD a, rD x] = .ok (.sh (rD (evP a x))) := by
  obtain ⟨j', e⟩ := lvalue_loop ha hx hc h
  have hr := range1_ok (x := (a.length : Nat)) (by omega) (by omega)
  simp [m__law_value, c__law_value, rD_0, hr, e]
/-- the sign of a number, as both sides write it -/
def sgI (n : Int) : Int := (if 0 < n then 1 else 0) - (if n < 0 then 1 else 0)
/-! ### how the pool is made -/
structure Sm (c : Nat) (l : List Int) : Prop where
  len : l.length ≤ c
  lo : ∀ x ∈ l, 0 ≤ x
  hi : ∀ x ∈ l, x < 60
theorem Sm.mono {c d : Nat} {l : List Int} (h : Sm c l) (e : c ≤ d) : Sm d l := ⟨Nat.le_trans h.len e, h.lo, h.hi⟩
end W

set_option Elab.async false
set_option linter.all false
set_option maxRecDepth 100000
set_option autoImplicit false
namespace W
open PySem PySem.Spec PyProof.Rows L2 VL
theorem row_ix0 (r : Row) : ixD (rowD r) (.int 0) = some (.list (r.ps.map pD)) := by simp [rowD]
end W

set_option Elab.async false
set_option linter.all false
set_option maxRecDepth 100000
set_option autoImplicit false
namespace W
open PySem PySem.Spec PyProof.Rows L2 VL
/-! ### the value of a row -/
structure RowG (m c : Nat) (r : Row) : Prop where
  len : r.ps.length = m
  ps : ∀ p ∈ r.ps, SzP 6 p ∧ p.length ≤ 3
  q : SzP c r.q
  ql : r.q.length ≤ 3
  s : r.s = "<=" ∨ r.s = "<" ∨ r.s = "="
theorem RowOk.g {m : Nat} {r : Row} (h : RowOk m r) {c : Nat} (hc : 6 ≤ c) : RowG m c r := ⟨h.len, fun p hp => ⟨(h.ps p hp).sz, (h.ps p hp).len⟩, h.q.sz.mono hc, h.q.len, h.s⟩
def rvL (ps : List (List Int)) (xs : List Rat) (t acc : Rat) : Rat := (ps.zip xs).foldl (fun a px => a + evP px.1 t * px.2) acc
def rv (r : Row) (xs : List Rat) (t : Rat) : Rat := rvL r.ps xs t (evP r.q t)
theorem rowD_ix1 (r : Row) : ixD (rowD r) (.int 1) = some (pD r.q) := by simp [rowD]
/-! ### signs that fit -/
/-! ### rows that are fulfilled -/
end W

set_option Elab.async false
set_option linter.all false
set_option maxRecDepth 100000
set_option autoImplicit false
namespace W
open PySem PySem.Spec PyProof.Rows L2 VL
/-! ### one number taken out of rows: plain law -/
inductive Sg | lt | le | eq
deriving DecidableEq
/-- a row in one number: coefficient, rest, sign -/
structure R1 where
  a : Rat
  b : Rat
  s : Sg
/-! ### rows with numbers put in -/
theorem rnum_neg {r : Rat} : r.num < 0 ↔ r < 0 := by
  have := Rat.num_nonneg (q := r)
  rw [← Int.not_le, this, Rat.not_le]
theorem rnum_pos {r : Rat} : 0 < r.num ↔ 0 < r := by
  have h1 := Rat.num_nonneg (q := r)
  have h2 := Rat.num_eq_zero (q := r)
  constructor
  · intro h
    have h3 : 0 ≤ r := h1.mp (by omega)
    have h4 : ¬ r = 0 := fun z => by have := h2.mpr z; omega
    grind
  · intro h
    have h3 : 0 ≤ r.num := h1.mpr (Rat.le_of_lt h)
    have h4 : ¬ r.num = 0 := fun z => by have := h2.mp z; grind
    omega
def withoutR (r : Row) (k : Nat) : Row := ⟨r.ps.take k ++ r.ps.drop (k + 1), r.q, r.s⟩
def mixP (f g a b : List Int) : List Int := subP (mulP a f) (mulP b g)
theorem ev_scale (a : List Int) (c : Int) (x : Rat) : evP (scaleP a c) x = evP a x * (c : Rat) := by
  rw [evP_S _ x a.length (scale_len a c), evP_S a x a.length (Nat.le_refl _), show cf (scaleP a c) = fun k => c * cf a k from funext fun k => by rw [cf_scale]; exact Int.mul_comm _ _, evS_mul]
  grind
theorem ev_sub (a b : List Int) (x : Rat) : evP (subP a b) x = evP a x - evP b x := by
  unfold subP
  rw [evP_add, ev_scale]; grind
def mixedR (row : Row) (f : List Int) (other : Row) (g : List Int) (s : Str) : Row := ⟨List.zipWith (mixP f g) row.ps other.ps, mixP f g row.q other.q, s⟩
def contN (a : List Int) : Nat := a.foldl (fun g c => Nat.gcd g c.natAbs) 0
theorem cont_dvd : ∀ (a : List Int) (g : Nat), (a.foldl (fun g c => Nat.gcd g c.natAbs) g ∣ g) ∧ ∀ c ∈ a, ((a.foldl (fun g c => Nat.gcd g c.natAbs) g : Nat) : Int) ∣ c
  | [], g => ⟨Nat.dvd_refl _, by simp⟩
  | c :: a, g => by
    obtain ⟨h1, h2⟩ := cont_dvd a (Nat.gcd g c.natAbs)
    refine ⟨Nat.dvd_trans h1 (Nat.gcd_dvd_left _ _), fun d hd => ?_⟩
    rcases List.mem_cons.mp hd with rfl | hd
    · exact Int.ofNat_dvd_left.mpr (Nat.dvd_trans h1 (Nat.gcd_dvd_right _ _))
    · exact h2 d hd
theorem contN_dvd {a : List Int} {c : Int} (h : c ∈ a) : (contN a : Int) ∣ c := (cont_dvd a 0).2 c h
def contR (r : Row) : Nat := contN ((r.ps ++ [r.q]).map fun p => (contN p : Int))
def divP (c : Int) (p : List Int) : List Int := p.map fun x => x.fdiv c
def dividedR (r : Row) : Row := if contR r = 0 then r else ⟨r.ps.map (divP (contR r)), divP (contR r) r.q, r.s⟩
/-! ### a number taken out: what the program computes -/
def row0 : Row := ⟨[], [], "="⟩
def rowAt (rs : List Row) (i : Nat) : Row := rs.getD i row0
theorem rowAt_get {rs : List Row} {i : Nat} (h : i < rs.length) : rs[i]? = some (rowAt rs i) := by
  unfold rowAt
  rw [List.getD_eq_getElem?_getD, List.getElem?_eq_getElem h]; rfl
theorem rowAt_mem {rs : List Row} {i : Nat} (h : i < rs.length) : rowAt rs i ∈ rs := List.mem_of_getElem? (rowAt_get h)
def sclP (a : List Int) (c : Int) : List Int := a.map (· * c)
theorem sgI_iff (r : Rat) : (sgI r.num = 0 ↔ r = 0) ∧ (sgI r.num = 1 ↔ 0 < r) ∧ (sgI r.num = -1 ↔ r < 0) := by
  have h1 : (r.num < 0) = (r < 0) := propext rnum_neg
  have h2 : (0 < r.num) = (0 < r) := propext rnum_pos
  have h3 : (r.num = 0) = (r = 0) := propext Rat.num_eq_zero
  rw [← h1, ← h2, ← h3]
  unfold sgI
  split <;> split <;> omega
def Len3 (m : Nat) (r : Row) : Prop := r.ps.length = m ∧ (r.s = "<=" ∨ r.s = "<" ∨ r.s = "=")
end W

set_option Elab.async false
set_option linter.all false
set_option maxRecDepth 100000
set_option autoImplicit false
namespace W
open PySem PySem.Spec PyProof.Rows L2 VL
noncomputable def c_without : Ev → Out := sSeq (sAsg (eVar 0) (gTupD 3 (gsCons (gSet 2) (gsCons (gSet 3) (gsCons (gSet 4) (gsNil)))))) (sSeq (sSetO 5 (eComp [6] (e1 seqD (e2 addD (e3 sliceD (eOwn 2) (pNo) (e1 intOf (eVar 1))) (e3 sliceD (eOwn 2) (e1 intOf (e2 addD (eOwn 1) (cst (.int 1)))) (pNo)))) (gSet 6) (cst true) (eLst (e1 listO (eCons (eOwn 6) (cst [])))))) (sFz 5 (sRet (e1 tupD (eCons (eVar 5) (eCons (eLst (e1 listO (eCons (eOwn 3) (cst [])))) (eCons (eVar 4) (cst []))))))))
noncomputable def m_without : List D → R SD := runD 2 7 c_without
noncomputable def b_content_1 : Ev → Out := sSet 1 (e1 gcdD (eCons (eOwn 1) (eCons (eOwn 2) (cst []))))
noncomputable def c_content : Ev → Out := sSeq (sSet 1 (cst (.int 0))) (sSeq (sFor (e1 seqD (eVar 0)) (gSet 2) b_content_1) (sRet (eVar 1)))
noncomputable def m_content : List D → R SD := runD 1 3 c_content
noncomputable def c_divided_row : Ev → Out := sSeq (sAsg (eVar 0) (gTupD 3 (gsCons (gSet 1) (gsCons (gSet 2) (gsCons (gSet 3) (gsNil)))))) (sSeq (sSet 4 (eCall m_content (eCons (eLst (eComp [5] (e1 seqD (e2 addD (eOwn 1) (eLst (e1 lim (eCons (eVar 2) (cst [])))))) (gSet 5) (cst true) (eCall m_content (eCons (eVar 5) (cst []))))) (cst [])))) (sSeq (sIf (e1 bOf (e2 eqD (eOwn 4) (cst (.int 0)))) (sRet (eVar 0)) (sNil)) (sSeq (sSetO 6 (eComp [5] (e1 seqD (e2 addD (eOwn 1) (eLst (e1 lim (eCons (eVar 2) (cst [])))))) (gSet 5) (cst true) (eLst (eComp [7] (e1 seqD (eVar 5)) (gSet 7) (cst true) (e2 fdivD (eOwn 7) (eOwn 4)))))) (sFz 6 (sRet (e1 tupD (eCons (e3 sliceD (eOwn 6) (pNo) (e1 intOf (e1 negD (cst (.int 1))))) (eCons (e2 ixD (eOwn 6) (e1 negD (cst (.int 1)))) (eCons (eVar 3) (cst []))))))))))
noncomputable def m_divided_row : List D → R SD := runD 1 8 c_divided_row
noncomputable def b_mixed_1 : Ev → Out := sApp 5 (eCall m_subtract (eCons (eCall m_multiply (eCons (eVar 6) (eCons (eVar 1) (cst [])))) (eCons (eCall m_multiply (eCons (eVar 7) (eCons (eVar 3) (cst [])))) (cst []))))
noncomputable def c_mixed : Ev → Out := sSeq (sSetO 5 (e1 lim (cst []))) (sSeq (sFor (e1 zipD (eCons (e2 addD (e2 ixD (eOwn 0) (cst (.int 0))) (eLst (e1 lim (eCons (e2 ixD (eOwn 0) (cst (.int 1))) (cst []))))) (eCons (e2 addD (e2 ixD (eOwn 2) (cst (.int 0))) (eLst (e1 lim (eCons (e2 ixD (eOwn 2) (cst (.int 1))) (cst []))))) (cst [])))) (gTupD 2 (gsCons (gSet 6) (gsCons (gSet 7) (gsNil)))) b_mixed_1) (sRet (e1 tupD (eCons (e3 sliceD (eOwn 5) (pNo) (e1 intOf (e1 negD (cst (.int 1))))) (eCons (e2 ixD (eOwn 5) (e1 negD (cst (.int 1)))) (eCons (eVar 4) (cst [])))))))
noncomputable def m_mixed : List D → R SD := runD 5 8 c_mixed
@[simp] theorem r_run5 (n : Nat) (F : Ev → Out) (a b c d e : D) : runD 5 n F [a, b, c, d, e] = fin (F (.sh a :: .sh b :: .sh c :: .sh d :: .sh e :: List.replicate (n - 5) .no)) := id rfl
@[simp] theorem r_run6 (n : Nat) (F : Ev → Out) (a b c d e f : D) : runD 6 n F [a, b, c, d, e, f] = fin (F (.sh a :: .sh b :: .sh c :: .sh d :: .sh e :: .sh f :: List.replicate (n - 6) .no)) := id rfl
/-! ### a number taken out: the program's functions -/
theorem cut_to (l : List D) (k : Nat) (h : k ≤ l.length) : cutL l none (some (k : Int)) = l.take k := by
  unfold cutL; rw [HT.sIx_none, sIx_in (by omega) (by omega)]; simp
theorem cut_from (l : List D) (k : Int) (j : Nat) (hj : k = j) (h : j ≤ l.length) : cutL l (some k) none = l.drop j := by
  subst hj
  unfold cutL; rw [HT.sIx_none, sIx_in (by omega) (by omega)]; simp
  rw [List.take_of_length_le (by simp)]
theorem cut_init {α : Type} (F : α → D) (l : List α) (a : α) : cutL ((l ++ [a]).map F) none (some (-1)) = l.map F := by
  rw [cut_map, HT.sIx_none]
  have : HT.sIx (l ++ [a]).length (l ++ [a]).length (some (-1)) = l.length := by
    show (if (-1 : Int) < 0 then (-1 + ((l ++ [a]).length : Int)).toNat else min (-1 : Int).toNat (l ++ [a]).length) = _
    rw [if_pos (by decide)]; simp; omega
  rw [this, List.drop_zero, Nat.sub_zero, List.take_left]
theorem at_last {α : Type} (F : α → D) (l : List α) (a : α) : atI ((l ++ [a]).map F) (-1 : Int) = some (F a) := by rw [List.map_append]; exact r_at_last
theorem withoutR_len {r : Row} {k : Nat} (hk : k < r.ps.length) : ((withoutR r k).ps.length : Nat) = r.ps.length - 1 := by unfold withoutR; simp; omega
theorem without_ok {r : Row} {k : Nat} (hk : k < r.ps.length) (hl : r.ps.length ≤ 1000) : m_without [rowD r, .int (k : Int)] = .ok (.sh (rowD (withoutR r k))) := by
  have c1 := cut_to (r.ps.map pD) k (by simp; omega)
  have c2 := cut_from (r.ps.map pD) ((k : Int) + 1) (k + 1) (by omega) (by simp; omega)
  have ca : catD ((r.ps.map pD).take k) ((r.ps.map pD).drop (k + 1)) = some ((withoutR r k).ps.map pD) := by
    rw [r_cat (by simp; exact slB (by omega))]; unfold withoutR; rw [List.map_append, List.map_take, List.map_drop]
  have hw : (withoutR r k).ps.length ≤ sizeLine := slB (by rw [withoutR_len hk]; omega)
  have hc : ∀ ρ : Ev, ρ.length = 7 → compR (compS [6] (gSet 6) (cst true) (eLst (e1 listO (eCons (eOwn 6) (cst [])))) ρ) ((withoutR r k).ps.map pD) = .ok ((withoutR r k).ps.map pD) := fun ρ hρ => by
    match ρ, hρ with
    | [a0, a1, a2, a3, a4, a5, a6], _ => exact compR_map' fun p hp => by simp [compS]
  simp [m_without, c_without, rowD, c1, c2, ca, hw, hc, -r_cat]
  unfold withoutR; simp
/-! contents -/
theorem content_loop (w0 : SD) : ∀ (a : List Int) (g : Nat) (j : SD), ∃ j', forO (gTo (gSet 2) b_content_1) (a.map .int) [w0, .sh (.int (g : Int)), j] = .nx [w0, .sh (.int ((a.foldl (fun g c => Nat.gcd g c.natAbs) g : Nat) : Int)), j']
  | [], g, j => ⟨j, rfl⟩
  | c :: a, g, j => by
    obtain ⟨j', e⟩ := content_loop w0 a (Nat.gcd g c.natAbs) (.sh (.int c))
    refine ⟨j', ?_⟩
    have st : gTo (gSet 2) b_content_1 (.int c) [w0, .sh (.int (g : Int)), j] = .nx [w0, .sh (.int ((Nat.gcd g c.natAbs : Nat) : Int)), .sh (.int c)] := by simp [b_content_1]
    rw [List.map_cons, forO, st]
    exact e
theorem content_ok (a : List Int) : m_content [pD a] = .ok (.sh (.int (contN a : Int))) := by
  obtain ⟨j, e⟩ := content_loop (.sh (pD a)) a 0 .no
  have e' : forO (gTo (gSet 2) b_content_1) (a.map .int) [.sh (pD a), .sh (.int 0), .no] = .nx [.sh (pD a), .sh (.int (contN a : Int)), j] := e
  simp [m_content, c_content, e']
theorem contN_zero : ∀ {a : List Int}, (∀ c ∈ a, c = 0) → contN a = 0 := fun {a} h => by
  unfold contN
  induction a with
  | nil => rfl
  | cons c a ih =>
    rw [List.foldl_cons, h c (by simp)]
    exact ih fun d hd => h d (by simp [hd])
theorem contN_sz {a : List Int} {s : Nat} (h : SzP s a) : Sz s (contN a : Int) := by
  by_cases z : ∀ c ∈ a, c = 0
  · rw [contN_zero z]; exact sz0 _
  · obtain ⟨c, hc, c0⟩ : ∃ c, c ∈ a ∧ c ≠ 0 := by
      apply Classical.byContradiction
      intro g
      exact z fun c hc => Classical.byContradiction fun w => g ⟨c, hc, w⟩
    refine (h c hc).of_le ?_
    have := Int.natAbs_dvd_natAbs.mpr (contN_dvd hc)
    exact Nat.le_of_dvd (by omega) this
structure RowZ (m n c : Nat) (r : Row) : Prop where
  len : r.ps.length = m
  ps : ∀ p ∈ r.ps, SzP c p ∧ p.length ≤ n
  q : SzP c r.q
  ql : r.q.length ≤ n
  s : r.s = "<=" ∨ r.s = "<" ∨ r.s = "="
theorem RowZ.mono {m n c n' c' : Nat} {r : Row} (h : RowZ m n c r) (e : n ≤ n') (e' : c ≤ c') : RowZ m n' c' r := ⟨h.len, fun p hp => ⟨(h.ps p hp).1.mono e', Nat.le_trans (h.ps p hp).2 e⟩, h.q.mono e', Nat.le_trans h.ql e, h.s⟩
theorem RowZ.all {m n c : Nat} {r : Row} (h : RowZ m n c r) : ∀ p ∈ r.ps ++ [r.q], SzP c p ∧ p.length ≤ n := fun p hp => by
  rcases List.mem_append.mp hp with g | g
  · exact h.ps p g
  · simp at g; subst g; exact ⟨h.q, h.ql⟩
theorem RowZ.l3 {m n c : Nat} {r : Row} (h : RowZ m n c r) : Len3 m r := ⟨h.len, h.s⟩
theorem RowZ.cont {m n c : Nat} {r : Row} (h : RowZ m n c r) : Sz c (contR r : Int) := contN_sz fun x hx => by
  obtain ⟨p, hp, rfl⟩ := List.mem_map.mp hx
  exact contN_sz (h.all p hp).1
theorem RowZ.divided {m n c : Nat} {r : Row} (h : RowZ m n c r) : RowZ m n c (dividedR r) := by
  unfold dividedR
  split
  · exact h
  · have : ∀ {p : List Int}, SzP c p → SzP c (divP (contR r) p) := fun {p} hp x hx => by
      obtain ⟨y, hy, rfl⟩ := List.mem_map.mp hx
      exact (hp y hy).fdiv
    exact ⟨by simpa using h.len, fun p hp => by
      obtain ⟨q, hq, rfl⟩ := List.mem_map.mp hp
      exact ⟨this (h.ps q hq).1, by simpa [divP] using (h.ps q hq).2⟩, this h.q, by simpa [divP] using h.ql, h.s⟩
theorem RowZ.without {m n c k : Nat} {r : Row} (h : RowZ (m + 1) n c r) (hk : k < m + 1) : RowZ m n c (withoutR r k) :=
  ⟨by rw [withoutR_len (by rw [h.len]; exact hk), h.len]; rfl, fun p hp => by
    unfold withoutR at hp
    rcases List.mem_append.mp hp with g | g
    · exact h.ps p (List.mem_of_mem_take g)
    · exact h.ps p (List.mem_of_mem_drop g), h.q, h.ql, h.s⟩
theorem SzP.mix {c d n : Nat} {f g a b : List Int} (ha : SzP c a) (hb : SzP c b) (hf : SzP d f) (hg : SzP d g) (la : a.length ≤ n) (lb : b.length ≤ n) : SzP (c + d + n + 2) (mixP f g a b) := by
  have h1 := (ha.mul hf).mono (show _ ≤ c + d + n by omega)
  have h2 := (hb.mul hg).mono (show _ ≤ c + d + n by omega)
  unfold mixP subP
  exact (h1.mono (show _ ≤ c + d + n + 1 by omega)).add (h2.scale (Sz.lit (i := -1) (a := 1) (by decide)))
theorem mix_len {f g a b : List Int} {n l : Nat} (la : a.length ≤ n) (lb : b.length ≤ n) (lf : f.length ≤ l) (lg : g.length ≤ l) : (mixP f g a b).length ≤ n + l := by
  unfold mixP subP
  have h1 := mul_len a f
  have h2 := mul_len b g
  have h3 := scale_len (mulP b g) (-1)
  have h4 := add_len (mulP a f) (scaleP (mulP b g) (-1))
  omega
theorem RowZ.mixed {m n c d l : Nat} {r o : Row} {f g : List Int} {s : Str} (h : RowZ m n c r) (ho : RowZ m n c o) (hf : SzP d f) (hg : SzP d g) (lf : f.length ≤ l) (lg : g.length ≤ l) (hs : s = "<=" ∨ s = "<" ∨ s = "=") : RowZ m (n + l) (c + d + n + 2) (mixedR r f o g s) := by
  refine ⟨?_, fun p hp => ?_, ?_, ?_, hs⟩
  · unfold mixedR; simp [h.len, ho.len]
  · unfold mixedR at hp
    simp only at hp
    obtain ⟨i, hi, e⟩ := List.mem_iff_getElem.mp hp
    rw [List.getElem_zipWith] at e
    subst e
    have m1 := h.ps _ (List.getElem_mem (l := r.ps) (n := i) (by simp at hi; omega))
    have m2 := ho.ps _ (List.getElem_mem (l := o.ps) (n := i) (by simp at hi; omega))
    exact ⟨SzP.mix m1.1 m2.1 hf hg m1.2 m2.2, mix_len m1.2 m2.2 lf lg⟩
  · exact SzP.mix h.q ho.q hf hg h.ql ho.ql
  · exact mix_len h.ql ho.ql lf lg
theorem divided_row_ok {m n c : Nat} {r : Row} (h : RowZ m n c r) (hm : m ≤ 1000) (hn : n ≤ 1000) (hc : c ≤ 9000) : m_divided_row [rowD r] = .ok (.sh (rowD (dividedR r))) := by
  have hs : r.ps.length + 1 ≤ sizeLine := slB (by rw [h.len]; omega)
  have ca : catD (r.ps.map pD) [pD r.q] = some ((r.ps ++ [r.q]).map pD) := by
    rw [r_cat (by simpa using hs), List.map_append]; rfl
  have hl : (r.ps ++ [r.q]).length ≤ sizeLine := by simpa using hs
  have hsz := h.cont
  have h1 : ∀ ρ : Ev, ρ.length = 8 → compR (compS [5] (gSet 5) (cst true) (eCall m_content (eCons (eVar 5) (cst []))) ρ) ((r.ps ++ [r.q]).map pD) = .ok ((r.ps ++ [r.q]).map fun p => .int (contN p : Int)) := fun ρ hρ => by
    match ρ, hρ with
    | [a0, a1, a2, a3, a4, a5, a6, a7], _ => exact compR_map' fun p hp => by simp [compS, content_ok]
  have e1' : PyData.list ((r.ps ++ [r.q]).map fun p => .int (contN p : Int)) = pD ((r.ps ++ [r.q]).map fun p => (contN p : Int)) := by unfold pD; rw [List.map_map]; rfl
  have c1 : m_content [.list ((r.ps ++ [r.q]).map fun p => .int (contN p : Int))] = .ok (.sh (.int (contR r : Int))) := by rw [e1', content_ok]; rfl
  by_cases z : contR r = 0
  · have hd : dividedR r = r := by unfold dividedR; rw [if_pos z]
    rw [hd]
    simp [m_divided_row, c_divided_row, rowD, ca, hs, h1, c1, z, -r_cat, -List.map_append]
  · have hz : ¬ ((contR r : Int) = 0) := by omega
    have od : ∀ x, okDiv x (contR r : Int) = true := fun x => okDiv_of (hsz.mono hc) hz
    have h2 : ∀ (a0 a1 a2 a3 a5 a6 a7 : SD), compR (compS [5] (gSet 5) (cst true) (eLst (eComp [7] (e1 seqD (eVar 5)) (gSet 7) (cst true) (e2 fdivD (eOwn 7) (eOwn 4)))) [a0, a1, a2, a3, .sh (.int (contR r : Int)), a5, a6, a7]) ((r.ps ++ [r.q]).map pD) = .ok ((r.ps ++ [r.q]).map fun p => pD (divP (contR r) p)) := fun a0 a1 a2 a3 a5 a6 a7 =>
      compR_map' fun p hp => by
        have hl : p.length ≤ sizeLine := slB (by have := (h.all p hp).2; omega)
        have : ∀ b5 b7, compR (compS [7] (gSet 7) (cst true) (e2 fdivD (eOwn 7) (eOwn 4)) [a0, a1, a2, a3, .sh (.int (contR r : Int)), b5, a6, b7]) (p.map .int) = .ok (p.map fun x => .int (x.fdiv (contR r : Int))) := fun b5 b7 => compR_map' fun x hx => by simp [compS, od]
        have e3' : PyData.list (p.map fun x => .int (x.fdiv (contR r : Int))) = pD (divP (contR r) p) := by unfold pD divP; rw [List.map_map]; rfl
        simp [compS, hl, this, e3', od]
    have e4 : ((r.ps ++ [r.q]).map fun p => pD (divP (contR r) p)) = (((r.ps.map (divP (contR r))) ++ [divP (contR r) r.q]).map pD) := by simp [Function.comp_def]
    have s1' := cut_init pD (r.ps.map (divP (contR r))) (divP (contR r) r.q)
    have s2' := at_last pD (r.ps.map (divP (contR r))) (divP (contR r) r.q)
    have hd : dividedR r = ⟨r.ps.map (divP (contR r)), divP (contR r) r.q, r.s⟩ := by unfold dividedR; rw [if_neg z]
    rw [hd]
    rw [e4] at h2
    simp [m_divided_row, c_divided_row, rowD, ca, hs, h1, c1, z, h2, s1', s2', -r_cat, -List.map_append]
/-! rows mixed -/
theorem mixed_loop {f g : List Int} {c d n : Nat} (hf : SzP d f) (hg : SzP d g) (lf : f.length ≤ 1000) (lg : g.length ≤ 1000) (hcd : c + d + n ≤ 10000) (hn : n ≤ 1000) (w0 w2 w4 : SD) : ∀ (as bs : List (List Int)) (acc : List (List Int)) (w6 w7 : SD), (∀ p ∈ as, SzP c p ∧ p.length ≤ n) → (∀ p ∈ bs, SzP c p ∧ p.length ≤ n) → acc.length + as.length ≤ 10000 →
    ∃ y6 y7, forO (gTo (gTupD 2 (gsCons (gSet 6) (gsCons (gSet 7) (gsNil)))) b_mixed_1) (zipL (as.map pD) (bs.map pD)) [w0, .sh (pD f), w2, .sh (pD g), w4, .ow (acc.map pD), w6, w7] = .nx [w0, .sh (pD f), w2, .sh (pD g), w4, .ow ((acc ++ List.zipWith (mixP f g) as bs).map pD), y6, y7]
  | [], bs, acc, w6, w7, _, _, _ => ⟨w6, w7, by simp [zipL]⟩
  | a :: as, [], acc, w6, w7, _, _, _ => ⟨w6, w7, by simp [zipL]⟩
  | a :: as, b :: bs, acc, w6, w7, ha, hb, hl => by
    obtain ⟨a1, a2⟩ := ha a (by simp)
    obtain ⟨b1, b2⟩ := hb b (by simp)
    obtain ⟨y6, y7, ih⟩ := mixed_loop hf hg lf lg hcd hn w0 w2 w4 as bs (acc ++ [mixP f g a b]) (.sh (pD a)) (.sh (pD b)) (fun q hq => ha q (by simp [hq])) (fun q hq => hb q (by simp [hq])) (by simp at hl ⊢; omega)
    refine ⟨y6, y7, ?_⟩
    have m1 := multiply_ok a1 hf (by omega) (by omega) (by omega)
    have m2 := multiply_ok b1 hg (by omega) (by omega) (by omega)
    have l1 := mul_len a f
    have l2 := mul_len b g
    have s1' := subtract_ok (a := mulP a f) (b1.mul hg) (by omega) (by omega) (by omega)
    have hs : acc.length < sizeLine := Nat.lt_of_lt_of_le (show acc.length < 100000 by simp at hl; omega) (by decide)
    have st : gTo (gTupD 2 (gsCons (gSet 6) (gsCons (gSet 7) (gsNil)))) b_mixed_1 (.tuple [pD a, pD b]) [w0, .sh (pD f), w2, .sh (pD g), w4, .ow (acc.map pD), w6, w7] = .nx [w0, .sh (pD f), w2, .sh (pD g), w4, .ow ((acc ++ [mixP f g a b]).map pD), .sh (pD a), .sh (pD b)] := by
      simp [b_mixed_1, m1, m2, s1', hs, mixP]
    have e : zipL ((a :: as).map pD) ((b :: bs).map pD) = .tuple [pD a, pD b] :: zipL (as.map pD) (bs.map pD) := rfl
    rw [e, forO, st]
    rw [List.append_assoc] at ih
    exact ih
theorem mixed_ok {m n c d : Nat} {r o : Row} {f g : List Int} {s : Str} (h : RowZ m n c r) (ho : RowZ m n c o) (hf : SzP d f) (hg : SzP d g) (lf : f.length ≤ 1000) (lg : g.length ≤ 1000) (hcd : c + d + n ≤ 10000) (hn : n ≤ 1000) (hm : m ≤ 1000) :
    m_mixed [rowD r, pD f, rowD o, pD g, .str s] = .ok (.sh (rowD (mixedR r f o g s))) := by
  have ca : ∀ {r : Row}, RowZ m n c r → catD (r.ps.map pD) [pD r.q] = some ((r.ps ++ [r.q]).map pD) := fun {r} h => by
    rw [r_cat (slB (by simp [h.len]; omega)), List.map_append]; rfl
  obtain ⟨y6, y7, e⟩ := mixed_loop hf hg lf lg hcd hn (.sh (rowD r)) (.sh (rowD o)) (.sh (.str s)) (r.ps ++ [r.q]) (o.ps ++ [o.q]) [] .no .no h.all ho.all (by simp [h.len]; omega)
  have e4 : List.zipWith (mixP f g) (r.ps ++ [r.q]) (o.ps ++ [o.q]) = List.zipWith (mixP f g) r.ps o.ps ++ [mixP f g r.q o.q] := by
    rw [List.zipWith_append (by rw [h.len, ho.len])]; rfl
  rw [e4, List.nil_append, List.map_nil] at e
  have s1' := cut_init pD (List.zipWith (mixP f g) r.ps o.ps) (mixP f g r.q o.q)
  have s2' := at_last pD (List.zipWith (mixP f g) r.ps o.ps) (mixP f g r.q o.q)
  simp [m_mixed, c_mixed, row_ix0, rowD_ix1, ca h, ca ho, e, s1', s2', -r_cat, -List.map_append, -r_ix_t]
  simp [rowD, mixedR]
/-! rows used up by an equation -/
theorem sgI_sz (n : Int) : Sz 1 (sgI n) := by
  unfold sgI
  split <;> split <;> exact .lit (by decide)
theorem SzP.scl {s : Nat} {a : List Int} {n : Int} (h : SzP s a) : SzP (s + 1) (sclP a (sgI n)) := fun x hx => by
  obtain ⟨y, hy, rfl⟩ := List.mem_map.mp hx
  exact (h y hy).mul (sgI_sz n)
structure RowsZ (k n c : Nat) (rs : List Row) : Prop where
  all : ∀ r ∈ rs, RowZ (k + 1) n c r
  len : rs.length ≤ 1000
  hk : k ≤ 10
  hn : n ≤ 100
  hc : c ≤ 1000
theorem RowsZ.at {k n c i : Nat} {rs : List Row} (h : RowsZ k n c rs) (hi : i < rs.length) : RowZ (k + 1) n c (rowAt rs i) := h.all _ (rowAt_mem hi)
/-- the size of what is mixed -/
theorem RowsZ.mix {k n c i j : Nat} {rs : List Row} (h : RowsZ k n c rs) (hi : i < rs.length) (hj : j < rs.length) {f g : List Int} {s : Str} (hf : SzP (c + 1) f) (hg : SzP (c + 1) g) (lf : f.length ≤ n) (lg : g.length ≤ n) (hs : s = "<=" ∨ s = "<" ∨ s = "=") :
    m_mixed [rowD (rowAt rs i), pD f, rowD (rowAt rs j), pD g, .str s] = .ok (.sh (rowD (mixedR (rowAt rs i) f (rowAt rs j) g s))) ∧
    m_without [rowD (mixedR (rowAt rs i) f (rowAt rs j) g s), .int (k : Int)] = .ok (.sh (rowD (withoutR (mixedR (rowAt rs i) f (rowAt rs j) g s) k))) ∧
    m_divided_row [rowD (withoutR (mixedR (rowAt rs i) f (rowAt rs j) g s) k)] = .ok (.sh (rowD (dividedR (withoutR (mixedR (rowAt rs i) f (rowAt rs j) g s) k)))) ∧
    RowZ k (2 * n) (2 * c + n + 3) (dividedR (withoutR (mixedR (rowAt rs i) f (rowAt rs j) g s) k)) := by
  have a := h.at hi
  have b := h.at hj
  have := h.hk
  have := h.hn
  have := h.hc
  have z := (a.mixed b hf hg lf lg hs).mono (show n + n ≤ 2 * n by omega) (show c + (c + 1) + n + 2 ≤ 2 * c + n + 3 by omega)
  have w := z.without (show k < k + 1 by omega)
  exact ⟨mixed_ok a b hf hg (by omega) (by omega) (by omega) (by omega) (by omega), without_ok (by rw [z.len]; omega) (by rw [z.len]; omega), divided_row_ok w (by omega) (by omega) (by omega), w.divided⟩
/-! signs, stages, blocks -/
@[simp] theorem r_eApp (n k : Nat) (f g : Ev → R (List D)) (ρ : Ev) : eApp n k f g ρ = (f ρ).bind fun a => (g ρ).bind fun b => if a.length = n ∧ b.length = k then .ok (a ++ b) else .bad := id rfl
end W

set_option Elab.async false
set_option linter.all false
set_option maxRecDepth 100000
set_option autoImplicit false
namespace W
open PySem PySem.Spec PyProof.Rows L2 VL
/-! ### numbers taken out of rows of numbers: the law's functions -/
structure NRow where
  c : List Rat
  s : Str
def nrow0 : NRow := ⟨[], "="⟩
def nAt (rs : List NRow) (i : Nat) : NRow := rs.getD i nrow0
theorem nAt_get {rs : List NRow} {i : Nat} (h : i < rs.length) : rs[i]? = some (nAt rs i) := by
  unfold nAt
  rw [List.getD_eq_getElem?_getD, List.getElem?_eq_getElem h]; rfl
theorem nAt_mem {rs : List NRow} {i : Nat} (h : i < rs.length) : nAt rs i ∈ rs := List.mem_of_getElem? (nAt_get h)
def hdN (n : NRow) : Rat := n.c.headD 0
def tlN (n : NRow) : NRow := ⟨n.c.tail, n.s⟩
def lessN (a : List Rat) (f : Rat) (b : List Rat) (g : Rat) : List Rat := List.zipWith (fun x y => x * f - y * g) a b
def nv : List Rat → List Rat → Rat
  | c :: cs, x :: xs => c * x + nv cs xs
  | c :: _, [] => c
  | [], _ => 0
structure NOk (l : Nat) (n : NRow) : Prop where
  len : n.c.length = l + 1
  s : n.s = "<=" ∨ n.s = "<" ∨ n.s = "="
theorem NOk.cons {l : Nat} {n : NRow} (h : NOk l n) : n.c = hdN n :: (tlN n).c := by
  have := h.len
  unfold hdN tlN
  cases hc : n.c with
  | nil => rw [hc] at this; simp at this
  | cons a b => rfl
/-! the functions -/
theorem Rk.neg {k : Nat} {r : Rat} (h : Rk k r) : Rk k (-r) := ⟨nm_tQ _, by
  show Sz k (-r).num
  rw [Rat.neg_num]; exact h.s1.neg, by
  show Sz k ((-r).den : Int)
  rw [Rat.neg_den]; exact h.s2⟩
structure NZ (l k : Nat) (n : NRow) : Prop where
  len : n.c.length = l + 1
  sz : ∀ x ∈ n.c, Rk k x
  s : n.s = "<=" ∨ n.s = "<" ∨ n.s = "="
theorem NZ.ok {l k : Nat} {n : NRow} (h : NZ l k n) : NOk l n := ⟨h.len, h.s⟩
theorem NZ.hd {l k : Nat} {n : NRow} (h : NZ l k n) : Rk k (hdN n) := h.sz _ (by rw [h.ok.cons]; simp)
theorem NZ.ix {l k : Nat} {n : NRow} (h : NZ l k n) : ixD (.list (n.c.map rD)) (.int 0) = some (rD (hdN n)) := by
  rw [h.ok.cons]; simp
theorem NZ.tl {l k : Nat} {n : NRow} (h : NZ (l + 1) k n) : NZ l k (tlN n) := ⟨by unfold tlN; simp [h.len], fun x hx => h.sz x (List.mem_of_mem_tail hx), h.s⟩
theorem mem_lessN {a b : List Rat} {f g x : Rat} (h : x ∈ lessN a f b g) : ∃ y z, y ∈ a ∧ z ∈ b ∧ x = y * f - z * g := by
  unfold lessN at h
  obtain ⟨i, hi, e⟩ := List.mem_iff_getElem.mp h
  rw [List.getElem_zipWith] at e
  simp at hi
  exact ⟨_, _, List.getElem_mem (by omega), List.getElem_mem (by omega), e.symm⟩
theorem NZ.less {l k j : Nat} {a b : List Rat} {f g : Rat} {s : Str} (ha : a.length = l + 1) (hb : b.length = l + 1) (sa : ∀ x ∈ a, Rk k x) (sb : ∀ x ∈ b, Rk k x) (hf : Rk j f) (hg : Rk j g) (hs : s = "<=" ∨ s = "<" ∨ s = "=") : NZ l (2 * (k + j) + 1) ⟨lessN a f b g, s⟩ :=
  ⟨by simp [lessN, ha, hb], fun x hx => by
    obtain ⟨y, z, hy, hz, rfl⟩ := mem_lessN hx
    rw [Rat.sub_eq_add_neg]
    exact (((sa y hy).mul hf).add ((sb z hz).mul hg).neg).mono (by omega), hs⟩
theorem NZ.mono {l k j : Nat} {n : NRow} (h : NZ l k n) (e : k ≤ j) : NZ l j n := ⟨h.len, fun x hx => (h.sz x hx).mono e, h.s⟩
structure NsZ (l k : Nat) (rs : List NRow) : Prop where
  all : ∀ n ∈ rs, NZ (l + 1) k n
  len : rs.length ≤ 1000
  hl : l ≤ 10
  hk : 4 * k ≤ 1900
theorem NsZ.at {l k i : Nat} {rs : List NRow} (h : NsZ l k rs) (hi : i < rs.length) : NZ (l + 1) k (nAt rs i) := h.all _ (nAt_mem hi)
/-! rows at a number, and blocks -/
theorem RowOk.z {m : Nat} {r : Row} (h : RowOk m r) : RowZ m 3 6 r := ⟨h.len, fun p hp => ⟨(h.ps p hp).sz, (h.ps p hp).len⟩, h.q.sz, h.q.len, h.s⟩
end W

set_option Elab.async false
set_option linter.all false
set_option maxRecDepth 100000
set_option autoImplicit false
namespace W
open PySem PySem.Spec PyProof.Rows L2 VL
/-! ### sizes of values, sharper -/
theorem ev_frac {t : Rat} {kt c : Nat} (ht : Rk kt t) : ∀ {a : List Int}, SzP c a → ∃ N : Int, evP a t * (((t.den : Int) ^ a.length : Int) : Rat) = (N : Rat) ∧ Sz (c + (kt + 1) * a.length + 1) N ∧ Sz (kt * a.length + 1) ((t.den : Int) ^ a.length) ∧ ((t.den : Int) ^ a.length) ≠ 0
  | [], _ => ⟨0, by simp [evP], sz0 _, by simpa using Sz.lit (i := 1) (a := 1) (by decide), by simp⟩
  | x :: a, h => by
    obtain ⟨N, e, s1, s2, hz⟩ := ev_frac ht (a := a) fun y hy => h y (by simp [hy])
    have hx := h x (by simp)
    have hd : (t.den : Int) ≠ 0 := by have := t.den_nz; omega
    have s3 : Sz (kt * (a.length + 1) + 1) ((t.den : Int) ^ (a.length + 1)) := by
      rw [Int.pow_succ]
      exact (s2.mul ht.s2).mono (by rw [Nat.mul_succ]; omega)
    refine ⟨N * t.num + x * (t.den : Int) ^ (a.length + 1), ?_, ?_, ?_, Int.pow_ne_zero hd⟩
    · have ev : evP (x :: a) t = evP a t * t + (x : Rat) := rfl
      have n2 := num_eq t
      rw [ev, List.length_cons, Int.pow_succ, Rat.intCast_add, Rat.intCast_mul, Rat.intCast_mul, Rat.intCast_mul, ← e, n2]
      grind
    · rw [List.length_cons]
      have a1 : Sz (c + (kt + 1) * (a.length + 1)) (N * t.num) := (s1.mul ht.s1).mono (by rw [Nat.mul_succ]; omega)
      have a2 : Sz (c + (kt + 1) * (a.length + 1)) (x * (t.den : Int) ^ (a.length + 1)) := (hx.mul s3).mono (by rw [Nat.mul_succ, Nat.mul_succ, Nat.succ_mul]; omega)
      exact a1.add a2
    · exact s3
theorem ev_rk {t : Rat} {kt c : Nat} {a : List Int} (ht : Rk kt t) (ha : SzP c a) : Rk (c + (kt + 1) * a.length + 1) (evP a t) := by
  obtain ⟨N, e, s1, s2, hz⟩ := ev_frac ht ha
  have hr : (((t.den : Int) ^ a.length : Int) : Rat) ≠ 0 := by exact_mod_cast hz
  have : evP a t = (N : Rat) / (((t.den : Int) ^ a.length : Int) : Rat) := by rw [← e]; grind
  rw [this]
  exact rk_div hz s1 (s2.mono (by rw [Nat.succ_mul]; omega))
theorem div_r {r s : Rat} {k l : Nat} (h : Rk k r) (h' : Rk l s) (h0 : s ≠ 0) (e : k + l ≤ 8000) : m_divided [rD r, rD s] = .ok (.sh (rD (r / s))) ∧ Rk (k + l) (r / s) := by
  have h1 : s.num ≠ 0 := fun z => h0 (Rat.num_eq_zero.mp z)
  have := divided_ok h h' h1 e
  have nz : (r.den : Int) * s.num ≠ 0 := Int.mul_ne_zero (by have := r.den_nz; omega) h1
  have e2 : divQ (tQ r) (tQ s) = tQ (r / s) := by
    unfold divQ
    show mkQ (r.num * (s.den : Int)) ((r.den : Int) * s.num) = _
    rw [mkQ_rat nz]
    congr 1
    have a1 := num_eq r
    have a2 := num_eq s
    have a3 := den_ne r
    have a4 := den_ne s
    rw [Rat.intCast_mul, Rat.intCast_mul, a1, a2]
    grind
  rw [e2] at this
  refine ⟨this, ?_⟩
  have := Nk.div h h' h1
  rwa [e2] at this
/-! ### rows with numbers put in, any size -/
structure RowV (B : Nat) (t : Rat) (r : Row) : Prop where
  ps : ∀ p ∈ r.ps ++ [r.q], m_value_at [pD p, rD t] = .ok (.sh (rD (evP p t))) ∧ Rk B (evP p t)
  s : r.s = "<=" ∨ r.s = "<" ∨ r.s = "="
theorem RowZ.v {m n c kt : Nat} {t : Rat} {r : Row} (h : RowZ m n c r) (ht : Rk kt t) (h1 : 1 ≤ c) (hz : 1 + n * (kt + c + 1) + kt + c ≤ 8000) : RowV (c + (kt + 1) * n + 1) t r :=
  ⟨fun p hp => by
    obtain ⟨a, b⟩ := h.all p hp
    have lm : p.length * (kt + c + 1) ≤ n * (kt + c + 1) := Nat.mul_le_mul_right _ b
    have lm2 : (kt + 1) * p.length ≤ (kt + 1) * n := Nat.mul_le_mul_left _ b
    exact ⟨(value_at_ok a ht h1 (by omega)).1, (ev_rk ht a).mono (by omega)⟩, h.s⟩
structure RowL (m B : Nat) (t : Rat) (r : Row) : Prop where
  len : r.ps.length = m
  ps : ∀ p ∈ r.ps ++ [r.q], m__law_value [pD p, rD t] = .ok (.sh (rD (evP p t))) ∧ Rk B (evP p t)
  s : r.s = "<=" ∨ r.s = "<" ∨ r.s = "="
theorem RowZ.l {m n c kt : Nat} {t : Rat} {r : Row} (h : RowZ m n c r) (ht : Rk kt t) (h1 : 1 ≤ c) (hn : n ≤ 1000) (hz : 1 + n * (kt + c + 1) + kt + c ≤ 1900) : RowL m (c + (kt + 1) * n + 1) t r :=
  ⟨h.len, fun p hp => by
    obtain ⟨a, b⟩ := h.all p hp
    have lm : p.length * (kt + c + 1) ≤ n * (kt + c + 1) := Nat.mul_le_mul_right _ b
    have lm2 : (kt + 1) * p.length ≤ (kt + 1) * n := Nat.mul_le_mul_left _ b
    exact ⟨lvalue_ok a ht h1 (by omega) (by omega), (ev_rk ht a).mono (by omega)⟩, h.s⟩
end W

set_option Elab.async false
set_option linter.all false
set_option maxRecDepth 100000
set_option autoImplicit false
namespace W
open PySem PySem.Spec PyProof.Rows L2 VL
/-! ### plain polynomials: bounds of roots, polynomials by their values -/
def aR (x : Rat) : Rat := if x < 0 then -x else x
theorem aR_nonneg (x : Rat) : 0 ≤ aR x := by unfold aR; split <;> grind
theorem aR_neg (x : Rat) : aR (-x) = aR x := by unfold aR; split <;> split <;> grind
theorem aR_mul (x y : Rat) : aR (x * y) = aR x * aR y := by
  have key : ∀ x y : Rat, 0 ≤ x → aR (x * y) = aR x * aR y := fun x y hx => by
    have h1 : aR x = x := by unfold aR; split <;> grind
    by_cases hy : y < 0
    · have h2 : aR y = -y := by unfold aR; rw [if_pos hy]
      have h3 := Rat.mul_nonneg hx (show 0 ≤ -y by grind)
      have h4 : x * y ≤ 0 := by grind
      rw [h1, h2]
      unfold aR; split <;> grind
    · have h2 : aR y = y := by unfold aR; rw [if_neg hy]
      have h3 := Rat.mul_nonneg hx (show 0 ≤ y by grind)
      rw [h1, h2]
      unfold aR; split <;> grind
  by_cases hx : 0 ≤ x
  · exact key x y hx
  · have := key (-x) y (by grind)
    rw [aR_neg, show -x * y = -(x * y) by grind, aR_neg] at this
    exact this
theorem aR_sub (x y : Rat) : aR x - aR y ≤ aR (x + y) := by unfold aR; split <;> split <;> split <;> grind
theorem aR_zero {x : Rat} (h : aR x = 0) : x = 0 := by unfold aR at h; split at h <;> grind
theorem aR_int (c : Int) : aR (c : Rat) = ((c.natAbs : Int) : Rat) := by
  unfold aR
  by_cases h : c < 0
  · have h1 : (c : Rat) < 0 := by exact_mod_cast h
    rw [if_pos h1, show ((c.natAbs : Int)) = -c by omega, Rat.intCast_neg]
  · have h1 : ¬ (c : Rat) < 0 := by
      intro g
      exact h (by exact_mod_cast g)
    rw [if_neg h1, show ((c.natAbs : Int)) = c by omega]
theorem cauchy {x L M : Rat} (hx : M ≤ L * (aR x - 1)) : ∀ (a : List Int) (n : Nat), a.length = n + 1 → L ≤ aR (cf a n : Rat) → (∀ i, i < n → aR (cf a i : Rat) ≤ M) → 0 ≤ L → L ≤ aR (evP a x)
  | [], n, h, _, _, _ => by simp at h
  | [c], n, h, hL, _, _ => by
    have : n = 0 := by simpa using h.symm
    subst this
    have e : evP [c] x = (c : Rat) := by show (0 : Rat) * x + (c : Rat) = _; grind
    rw [e]; exact hL
  | c :: d :: b, n, h, hL, hM, h0 => by
    obtain ⟨m, rfl⟩ : ∃ m, n = m + 1 := ⟨n - 1, by simp at h; omega⟩
    have ih := cauchy hx (d :: b) m (by simpa using h) hL (fun i hi => hM (i + 1) (by omega)) h0
    have e : evP (c :: d :: b) x = evP (d :: b) x * x + (c : Rat) := rfl
    rw [e]
    have h1 := aR_sub (evP (d :: b) x * x) (c : Rat)
    rw [aR_mul] at h1
    have h2 : aR (c : Rat) ≤ M := hM 0 (by omega)
    have h3 := Rat.mul_nonneg (show 0 ≤ aR (evP (d :: b) x) - L by grind) (aR_nonneg x)
    grind
theorem coef_bound (a : List Int) : ∃ M : Nat, ∀ k, (cf a k).natAbs ≤ M := by
  induction a with
  | nil => exact ⟨0, fun k => by simp⟩
  | cons c a ih =>
    obtain ⟨M, h⟩ := ih
    refine ⟨max M c.natAbs, fun k => ?_⟩
    cases k with
    | zero => rw [cf_zero]; omega
    | succ k => rw [cf_succ]; have := h k; omega
theorem natR_le {a b : Nat} (h : a ≤ b) : ((a : Int) : Rat) ≤ ((b : Int) : Rat) := by exact_mod_cast (by omega : (a : Int) ≤ (b : Int))
theorem evP_zero {a : List Int} (h : ∀ x, evP a x = 0) : ∀ k, cf a k = 0 := by
  intro k
  rw [← cf_trim]
  cases ht : trimP a with
  | nil => simp
  | cons c b =>
    exfalso
    obtain ⟨n, hn⟩ : ∃ n, (trimP a).length = n + 1 := ⟨b.length, by rw [ht]; rfl⟩
    obtain ⟨M, hM⟩ := coef_bound a
    have hl := tr_trim a n hn
    have h1 : (1 : Rat) ≤ aR (cf (trimP a) n : Rat) := by
      rw [aR_int]
      exact_mod_cast (by omega : (1 : Int) ≤ ((cf (trimP a) n).natAbs : Int))
    have hx : aR (((M : Int) : Rat) + 1) = ((M : Int) : Rat) + 1 := by
      have : (0 : Rat) ≤ ((M : Int) : Rat) := by exact_mod_cast (by omega : (0 : Int) ≤ (M : Int))
      unfold aR; rw [if_neg (by grind)]
    have := cauchy (x := ((M : Int) : Rat) + 1) (L := 1) (M := ((M : Int) : Rat)) (by rw [hx]; grind) (trimP a) n hn h1 (fun i _ => by
      rw [aR_int, cf_trim]; exact natR_le (hM i)) (by decide)
    rw [evP_ext (fun k => cf_trim a k) _, h] at this
    have e0 : aR 0 = 0 := by unfold aR; rw [if_neg (by decide)]
    rw [e0] at this
    exact absurd this (by decide)
theorem evP_inj {a b : List Int} (h : ∀ x, evP a x = evP b x) : ∀ k, cf a k = cf b k := fun k => by
  have := evP_zero (a := subP a b) (fun x => by rw [ev_sub, h x]; grind) k
  rw [cf_sub] at this
  omega
theorem evP_uniq {a b : List Int} (ha : Tr a) (hb : Tr b) (h : ∀ x, evP a x = evP b x) : a = b := ha.uniq hb (evP_inj h)
theorem mulP_comm {a b : List Int} (ha : Tr a) (hb : Tr b) : mulP a b = mulP b a := evP_uniq (tr_mul ha hb) (tr_mul hb ha) fun x => by rw [evP_mul, evP_mul]; grind
theorem cv_comm (a b : List Int) (k : Nat) : cv a b k = cv b a k := by
  rw [← cf_mul, ← cf_mul]
  exact evP_inj (fun x => by rw [evP_mul, evP_mul]; grind) k
end W

set_option Elab.async false
set_option linter.all false
set_option maxRecDepth 100000
set_option autoImplicit false
namespace W
open PySem PySem.Spec PyProof.Rows L2 VL
noncomputable def c__law_factors : Ev → Out := sSeq (sSet 0 (e2 addD (eLst (eComp [1] (e1 range2D (eCons (e1 negD (cst (.int 4))) (eCons (cst (.int 5)) (cst [])))) (gSet 1) (cst true) (eLst (e1 lim (eCons (eVar 1) (eCons (cst (.int 1)) (cst []))))))) (eLst (e1 lim (eCons (eLst (e1 lim (eCons (cst (.int 1)) (eCons (cst (.int 2)) (cst []))))) (eCons (eLst (e1 lim (eCons (e1 negD (cst (.int 1))) (eCons (cst (.int 2)) (cst []))))) (eCons (eLst (e1 lim (eCons (cst (.int 3)) (eCons (cst (.int 2)) (cst []))))) (eCons (eLst (e1 lim (eCons (e1 negD (cst (.int 3))) (eCons (cst (.int 2)) (cst []))))) (eCons (eLst (e1 lim (eCons (cst (.int 1)) (eCons (cst (.int 3)) (cst []))))) (eCons (eLst (e1 lim (eCons (e1 negD (cst (.int 2))) (eCons (cst (.int 3)) (cst []))))) (cst []))))))))))) (sRetO (e2 addO (eOwn 0) (eLst (e1 lim (eCons (eLst (e1 lim (eCons (e1 negD (cst (.int 2))) (eCons (cst (.int 0)) (eCons (cst (.int 1)) (cst [])))))) (eCons (eLst (e1 lim (eCons (e1 negD (cst (.int 3))) (eCons (cst (.int 0)) (eCons (cst (.int 1)) (cst [])))))) (eCons (eLst (e1 lim (eCons (e1 negD (cst (.int 7))) (eCons (cst (.int 0)) (eCons (cst (.int 1)) (cst [])))))) (eCons (eLst (e1 lim (eCons (cst (.int 1)) (eCons (cst (.int 0)) (eCons (cst (.int 1)) (cst [])))))) (eCons (eLst (e1 lim (eCons (cst (.int 1)) (eCons (cst (.int 1)) (eCons (cst (.int 1)) (cst [])))))) (eCons (eLst (e1 lim (eCons (e1 negD (cst (.int 5))) (eCons (cst (.int 0)) (eCons (cst (.int 2)) (cst [])))))) (eCons (eLst (e1 lim (eCons (e1 negD (cst (.int 2))) (eCons (cst (.int 0)) (eCons (cst (.int 0)) (eCons (cst (.int 1)) (cst []))))))) (cst []))))))))))))
noncomputable def m__law_factors : List D → R SD := runD 0 2 c__law_factors
noncomputable def b__law_drawn_k19_1 : Ev → Out := sSeq (sSet 5 (e2 ixD (eOwn 2) (e2 modD (e1 intD (eCons (e2 ixD (eOwn 0) (e2 addD (cst (.int 1)) (eOwn 4))) (cst []))) (e1 lenD (eCons (eOwn 2) (cst [])))))) (sIf (e1 bOf (e2 nmemD (eOwn 5) (eOwn 3))) (sApp 3 (eVar 5)) (sNil))
noncomputable def c__law_drawn_k19 : Ev → Out := sSeq (sSet 2 (eCall m__law_factors (cst []))) (sSeq (sSetO 3 (e1 lim (cst []))) (sSeq (sFor (e1 range1D (eCons (e2 addD (cst (.int 1)) (e2 modD (e1 intD (eCons (e2 ixD (eOwn 0) (cst (.int 0))) (cst []))) (eOwn 1))) (cst []))) (gSet 4) b__law_drawn_k19_1) (sRetV 3)))
noncomputable def m__law_drawn_k19 : List D → R SD := runD 2 6 c__law_drawn_k19
noncomputable def b__law_trim_k19_1 : Ev → Out := sIf (eAnd (e1 bOf (e2 gtD (e1 lenD (eCons (eOwn 1) (cst []))) (cst (.int 0)))) (e1 bOf (e2 eqD (e2 ixD (eOwn 1) (e1 negD (cst (.int 1)))) (cst (.int 0))))) (sPopX 1) (sNil)
noncomputable def c__law_trim_k19 : Ev → Out := sSeq (sSetO 1 (e1 listO (eCons (eOwn 0) (cst [])))) (sSeq (sFor (e1 range1D (eCons (e1 lenD (eCons (eOwn 0) (cst []))) (cst []))) (gSet 2) b__law_trim_k19_1) (sRetV 1))
noncomputable def m__law_trim_k19 : List D → R SD := runD 1 3 c__law_trim_k19
noncomputable def b__law_mul_k19_1 : Ev → Out := sStore 2 (e2 addD (eOwn 3) (eOwn 4)) (e2 addD (e2 ixD (eOwn 2) (e2 addD (eOwn 3) (eOwn 4))) (e2 mulD (e2 ixD (eOwn 0) (eOwn 3)) (e2 ixD (eOwn 1) (eOwn 4))))
noncomputable def b__law_mul_k19_2 : Ev → Out := sFor (e1 range1D (eCons (e1 lenD (eCons (eOwn 1) (cst []))) (cst []))) (gSet 4) b__law_mul_k19_1
noncomputable def c__law_mul_k19 : Ev → Out := sSeq (sSetO 2 (e2 mulO (eLst (e1 lim (eCons (cst (.int 0)) (cst [])))) (e2 addD (e1 lenD (eCons (eOwn 0) (cst []))) (e1 lenD (eCons (eOwn 1) (cst [])))))) (sSeq (sFor (e1 range1D (eCons (e1 lenD (eCons (eOwn 0) (cst []))) (cst []))) (gSet 3) b__law_mul_k19_2) (sFz 2 (sRetO (eCallO m__law_trim_k19 (eCons (eVar 2) (cst []))))))
noncomputable def m__law_mul_k19 : List D → R SD := runD 2 5 c__law_mul_k19
noncomputable def b__law_product_1 : Ev → Out := sSet 1 (eCall m__law_mul_k19 (eCons (eVar 1) (eCons (eVar 2) (cst []))))
noncomputable def c__law_product : Ev → Out := sSeq (sSet 1 (eLst (e1 lim (eCons (cst (.int 1)) (cst []))))) (sSeq (sFor (e1 seqD (eVar 0)) (gSet 2) b__law_product_1) (sRet (eVar 1)))
noncomputable def m__law_product : List D → R SD := runD 1 3 c__law_product
noncomputable def c__law_polynomial : Ev → Out := sSeq (sSet 2 (eCall m__law_drawn_k19 (eCons (eVar 0) (eCons (eVar 1) (cst []))))) (sSeq (sSet 3 (e2 ixD (eLst (e1 lim (eCons (cst (.int 1)) (eCons (cst (.int 1)) (eCons (e1 negD (cst (.int 1))) (eCons (cst (.int 2)) (eCons (e1 negD (cst (.int 3))) (cst [])))))))) (e2 modD (e1 intD (eCons (e2 ixD (eOwn 0) (cst (.int 9))) (cst []))) (cst (.int 5))))) (sRet (e1 tupD (eCons (eLst (eComp [4] (e1 seqD (eCall m__law_product (eCons (eVar 2) (cst [])))) (gSet 4) (cst true) (e2 mulD (eOwn 3) (eOwn 4)))) (eCons (eVar 2) (cst []))))))
noncomputable def m__law_polynomial : List D → R SD := runD 2 5 c__law_polynomial
noncomputable def c__law_is_whole : Ev → Out := sRet (eAndV (e1 (isiD "int") (eOwn 0)) (e1 notD (e1 (isiD "bool") (eOwn 0))))
noncomputable def m__law_is_whole : List D → R SD := runD 1 1 c__law_is_whole
/-! ### known factors -/
def FL : List (List Int) := ((List.range 9).map fun (i : Nat) => [-4 + (i : Int), 1]) ++ [[1, 2], [-1, 2], [3, 2], [-3, 2], [1, 3], [-2, 3]] ++ [[-2, 0, 1], [-3, 0, 1], [-7, 0, 1], [1, 0, 1], [1, 1, 1], [-5, 0, 2], [-2, 0, 0, 1]]
theorem FL_len : FL.length = 22 := by decide
theorem pd2 (a b : Int) : PyData.list [.int a, .int b] = pD [a, b] := rfl
theorem pd3 (a b c : Int) : PyData.list [.int a, .int b, .int c] = pD [a, b, c] := rfl
theorem pd4 (a b c d : Int) : PyData.list [.int a, .int b, .int c, .int d] = pD [a, b, c, d] := rfl
theorem factors_ok : m__law_factors [] = .ok (.ow (FL.map pD)) := by
  have hr := range2_ok (x := -4) (y := 5) (by decide) (by decide) (by decide) (by decide)
  have e : rngL (-4) 1 ((5 : Int) - -4).toNat = (List.range 9).map fun (i : Nat) => PyData.int (-4 + (i : Int)) := by
    show rngL (-4) 1 9 = _
    unfold rngL
    refine List.map_congr_left fun i _ => ?_
    congr 1; omega
  rw [e] at hr
  have hc : ∀ a0 a1, compR (compS [1] (gSet 1) (cst true) (eLst (e1 lim (eCons (eVar 1) (eCons (cst (.int 1)) (cst []))))) [a0, a1]) ((List.range 9).map fun (i : Nat) => PyData.int (-4 + (i : Int))) = .ok ((List.range 9).map fun (i : Nat) => pD [-4 + (i : Int), 1]) := fun a0 a1 =>
    compR_map' fun i hi => by simp [compS, pd2]
  have l9 : (9 : Nat) ≤ sizeLine := slB (by decide)
  have c1 : ∀ l m : List D, l.length + m.length ≤ 100 → catD l m = some (l ++ m) := fun l m h => r_cat (slB (by omega))
  have s1' : catD ((List.range 9).map fun (i : Nat) => pD [-4 + (i : Int), 1]) [pD [1, 2], pD [-1, 2], pD [3, 2], pD [-3, 2], pD [1, 3], pD [-2, 3]] = some (((List.range 9).map fun (i : Nat) => pD [-4 + (i : Int), 1]) ++ [pD [1, 2], pD [-1, 2], pD [3, 2], pD [-3, 2], pD [1, 3], pD [-2, 3]]) := c1 _ _ (by simp)
  have s2' : catD (((List.range 9).map fun (i : Nat) => pD [-4 + (i : Int), 1]) ++ [pD [1, 2], pD [-1, 2], pD [3, 2], pD [-3, 2], pD [1, 3], pD [-2, 3]]) [pD [-2, 0, 1], pD [-3, 0, 1], pD [-7, 0, 1], pD [1, 0, 1], pD [1, 1, 1], pD [-5, 0, 2], pD [-2, 0, 0, 1]] = some (FL.map pD) := by
    rw [c1 _ _ (by simp)]
    unfold FL
    rw [List.map_append, List.map_append, List.map_map]; rfl
  simp [m__law_factors, c__law_factors, hr, hc, l9, pd2, pd3, pd4, s1', s2', -r_cat, -List.map_append]
theorem nmem_p {f : List Int} {fs : List (List Int)} : nmemD (pD f) (.list (fs.map pD)) = some (.bool (!decide (f ∈ fs))) := by
  have s1' : SeqAt.shaped (pD f) = true := shaped_of (by simp)
  have s2' : SeqAt.shaped (.list (fs.map pD)) = true := shaped_of (by
    rw [okD_list]
    exact okL_iff.mpr fun d hd => by
      obtain ⟨p, _, rfl⟩ := List.mem_map.mp hd
      simp)
  show (inD (pD f) (.list (fs.map pD))).map _ = _
  unfold inD
  simp only [s1', s2', Bool.and_self, if_true, Option.map_some]
  congr 3
  rw [Bool.eq_iff_iff, List.any_eq_true, decide_eq_true_eq]
  constructor
  · rintro ⟨d, hd, he⟩
    obtain ⟨p, hp, rfl⟩ := List.mem_map.mp hd
    have := p_eq (a := p) (b := f)
    rw [r_eqD (by simp) (by simp), he] at this
    have : p = f := by simpa using this
    exact this ▸ hp
  · intro h
    exact ⟨pD f, List.mem_map.mpr ⟨f, h, rfl⟩, eqv_self (by simp : okD 64 (pD f) = true)⟩
theorem drawn_ok {c : Nat} {xs : List Int} (h : IsDraws c xs) {z : Int} {most : Nat} (hz : z = most) (h0 : 1 ≤ most) (hc : most + 1 ≤ c) (hm : most ≤ 100) :
    ∃ fs : List (List Int), m__law_drawn_k19 [pD xs, .int z] = .ok (.ow (fs.map pD)) ∧ (∀ f ∈ fs, f ∈ FL) ∧ fs ≠ [] ∧ fs.length ≤ most ∧ fs.Nodup := by
  subst hz
  obtain ⟨v0, v1⟩ := fmod_rng (a := gI xs 0) (b := (most : Int)) (by omega)
  obtain ⟨s, hs⟩ : ∃ s : Nat, 1 + (gI xs 0).fmod (most : Int) = (s : Int) := ⟨(1 + (gI xs 0).fmod (most : Int)).toNat, by omega⟩
  have ix0 : ixD (pD xs) (.int 0) = some (.int (gI xs 0)) := p_ixc (n := 0) (by rw [h.len]; omega)
  have hr := range1_ok (x := (s : Int)) (by omega) (by omega)
  have hm0 : modD (.int (gI xs 0)) (.int (most : Int)) = some (.int ((gI xs 0).fmod (most : Int))) := r_mod (by omega)
  obtain ⟨ρ', e, fs, y4, y5, rfl, f1, f2, f3, f4⟩ := forO_inv (F := gTo (gSet 4) b__law_drawn_k19_1) (l := rngL 0 1 s)
    (fun i ρ => ∃ (fs : List (List Int)) (y4 y5 : SD), ρ = [.sh (pD xs), .sh (.int (most : Int)), .sh (.list (FL.map pD)), .ow (fs.map pD), y4, y5] ∧ (∀ f ∈ fs, f ∈ FL) ∧ fs.length ≤ i ∧ (0 < i → fs ≠ []) ∧ fs.Nodup)
    (ρ := [.sh (pD xs), .sh (.int (most : Int)), .sh (.list (FL.map pD)), .ow [], .no, .no]) ⟨[], _, _, rfl, by simp, by simp, by simp, by simp⟩
    (fun i d ρ hd hi => by
      obtain ⟨hil, rfl⟩ := rng0_get hd
      obtain ⟨fs, y4, y5, rfl, f1, f2, f3, f4⟩ := hi
      have ix1 : ixD (pD xs) (.int (1 + (i : Int))) = some (.int (gI xs (i + 1))) := by
        have := p_ixc (l := xs) (n := i + 1) (by rw [h.len]; omega)
        rw [show ((i + 1 : Nat) : Int) = 1 + (i : Int) by omega] at this
        exact this
      obtain ⟨w0, w1⟩ := fmod_rng (a := gI xs (i + 1)) (b := 22) (by decide)
      obtain ⟨w, hw⟩ : ∃ w : Nat, (gI xs (i + 1)).fmod 22 = (w : Int) := ⟨((gI xs (i + 1)).fmod 22).toNat, by omega⟩
      have hwl : w < FL.length := by rw [FL_len]; omega
      have ixf : ixD (.list (FL.map pD)) (.int (w : Int)) = some (pD FL[w]) := by
        rw [r_ix_l, r_at, List.getElem?_map, List.getElem?_eq_getElem hwl]; rfl
      have ll : lenD [.list (FL.map pD)] = some (.int 22) := by rw [r_len_l, List.length_map, FL_len]; rfl
      have hsl : fs.length < sizeLine := Nat.lt_of_le_of_lt (show fs.length ≤ 1000 by omega) (by decide)
      have nm := nmem_p (f := FL[w]) (fs := fs)
      by_cases hmem : FL[w] ∈ fs
      · refine ⟨_, .inl (by simp [b__law_drawn_k19_1, ix1, ll, hw, ixf, nm, hmem, -r_ix_l, -r_len_l, -List.getElem_map, -Out.nx.injEq] <;> rfl), fs, _, _, rfl, f1, by omega, fun _ => List.ne_nil_of_mem hmem, f4⟩
      · refine ⟨_, .inl (by simp [b__law_drawn_k19_1, ix1, ll, hw, ixf, nm, hmem, hsl, -r_ix_l, -r_len_l, -List.getElem_map, -Out.nx.injEq] <;> rfl), fs ++ [FL[w]], .sh (.int (i : Int)), .sh (pD FL[w]), by simp, fun f hf => ?_, by simp; omega, fun _ => by simp, ?_⟩
        · rcases List.mem_append.mp hf with g | g
          · exact f1 f g
          · simp at g; subst g; exact List.getElem_mem hwl
        · rw [List.nodup_append]
          exact ⟨f4, by simp, fun a ha b hb => by
            simp at hb; subst hb
            rintro rfl; exact hmem ha⟩)
  rw [rngL_length] at f2 f3
  refine ⟨fs, ?_, f1, f3 (by omega), by omega, f4⟩
  simp [m__law_drawn_k19, c__law_drawn_k19, factors_ok, ix0, hm0, hs, hr, e]
theorem trimk_loop (l : List Int) (hl : l.length ≤ 100000) : ∃ y2, forO (gTo (gSet 2) b__law_trim_k19_1) (rngL 0 1 l.length) [.sh (pD l), .ow (l.map .int), .no] = .nx [.sh (pD l), .ow ((trimP l).map .int), y2] := by
  obtain ⟨ρ', e, n, y2, rfl, hn, hz, hend⟩ := forO_inv (F := gTo (gSet 2) b__law_trim_k19_1) (l := rngL 0 1 l.length)
    (fun i ρ => ∃ (n : Nat) (y2 : SD), ρ = [.sh (pD l), .ow ((l.take n).map .int), y2] ∧ n ≤ l.length ∧ (∀ k, n ≤ k → cf l k = 0) ∧ (n + i ≤ l.length ∨ ∀ m, n = m + 1 → cf l m ≠ 0))
    (ρ := [.sh (pD l), .ow (l.map .int), .no]) ⟨l.length, .no, by rw [List.take_length], Nat.le_refl _, fun k hk => cf_out hk, .inl (by omega)⟩
    (fun i d ρ hd hi => by
      obtain ⟨hil, rfl⟩ := rng0_get hd
      obtain ⟨n, y2, rfl, hn, hz, hend⟩ := hi
      cases n with
      | zero =>
        exact ⟨_, .inl (by simp [b__law_trim_k19_1, -Out.nx.injEq] <;> rfl), 0, .sh (.int (i : Int)), by simp, Nat.zero_le _, hz, .inr fun m hm => by omega⟩
      | succ n =>
        have tk := take_snoc (l := l) (n := n) (by omega)
        have lt : (l.take n).length = n := by simp; omega
        have al : atI ((l.take n).map PyData.int ++ [.int (cf l n)]) (-1 : Int) = some (.int (cf l n)) := r_at_last
        rw [tk]
        by_cases z : cf l n = 0
        · refine ⟨_, .inl (by simp [b__law_trim_k19_1, al, z, -List.map_take, -Out.nx.injEq] <;> rfl), n, .sh (.int (i : Int)), rfl, by omega, fun k hk => ?_, ?_⟩
          · by_cases e : k = n
            · subst e; exact z
            · exact hz k (by omega)
          · rcases hend with h | h
            · exact .inl (by omega)
            · exact absurd z (h n rfl)
        · refine ⟨_, .inl (by simp [b__law_trim_k19_1, al, z, -List.map_take, -Out.nx.injEq] <;> rfl), n + 1, .sh (.int (i : Int)), by rw [tk], hn, hz, .inr fun m hm => ?_⟩
          have : m = n := by omega
          subst this; exact z)
  rw [rngL_length] at hend
  have : trimP l = l.take n := tr_take hz hn (by
    rcases hend with h | h
    · intro m hm; omega
    · exact h)
  rw [this]
  exact ⟨y2, e⟩
theorem trimk_ok (l : List Int) (hl : l.length ≤ 100000) : m__law_trim_k19 [pD l] = .ok (.ow ((trimP l).map .int)) := by
  obtain ⟨y2, e⟩ := trimk_loop l hl
  have hr := range1_ok (x := (l.length : Nat)) (by omega) (by omega)
  simp [m__law_trim_k19, c__law_trim_k19, hr, e]
theorem mulk_ok {a b : List Int} {s t : Nat} (ha : SzP s a) (hb : SzP t b) (hst : s + t ≤ 134217728) (hla : a.length ≤ 40000) (hlb : b.length ≤ 40000) (ta : Tr a) (tb : Tr b) : m__law_mul_k19 [pD a, pD b] = .ok (.ow ((mulP a b).map .int)) := by
  obtain ⟨L, hL⟩ : ∃ L, L = a.length + b.length := ⟨_, rfl⟩
  have r1 := range1_ok (x := (a.length : Nat)) (by omega) (by omega)
  have r2 := range1_ok (x := (b.length : Nat)) (by omega) (by omega)
  have rp := rep_ok (n := L) (z := (a.length : Int) + (b.length : Int)) (by omega) (by omega)
  have eb : b__law_mul_k19_2 = b__law_multiply_2 := rfl
  obtain ⟨ρ', e, y3, y4, rfl⟩ := forO_inv (F := gTo (gSet 3) b__law_mul_k19_2) (l := rngL 0 1 a.length)
    (fun i ρ => ∃ y3 y4, ρ = [.sh (pD a), .sh (pD b), .ow ((fl L fun k => sumN i (tm a b k)).map .int), y3, y4])
    (ρ := [.sh (pD a), .sh (pD b), .ow ((fl L fun _ => 0).map .int), .no, .no])
    ⟨_, _, rfl⟩
    (fun i d ρ hd hi => by
      obtain ⟨hj, rfl⟩ := rng0_get hd
      obtain ⟨y3, y4, rfl⟩ := hi
      obtain ⟨z4, e⟩ := lmul_inner (φ := fun k => sumN i (tm a b k)) (i := i) (L := L) ha hb hst hj (by omega) y4
      exact ⟨_, .inl (by rw [eb]; simp [b__law_multiply_2, r2, e, -Out.nx.injEq]; rfl), _, _, rfl⟩)
  rw [rngL_length] at e
  have ht := trimk_ok (fl L fun k => sumN a.length (tm a b k)) (by simp; omega)
  have he : trimP (fl L fun k => sumN a.length (tm a b k)) = mulP a b := trim_eq (tr_mul ta tb) fun k => by
    rw [cf_fl, cf_mul]
    split
    · rfl
    · exact (cv_out (by omega)).symm
  rw [he] at ht
  simp [m__law_mul_k19, c__law_mul_k19, rp, r1, e, ht]
theorem lprod_loop {s LT : Nat} (hLT : LT ≤ 40000) (x : SD) (ps : List (List Int)) : ∀ (acc : List Int) (t : Nat) (j : SD), (∀ p ∈ ps, SzP s p ∧ Tr p) → SzP t acc → Tr acc → t + ps.length * (s + LT) ≤ 1000000 → acc.length + (ps.map List.length).sum ≤ LT →
    ∃ j', forO (gTo (gSet 2) b__law_product_1) (ps.map pD) [x, .sh (pD acc), j] = .nx [x, .sh (pD (ps.foldl mulP acc)), j'] := by
  induction ps with
  | nil => exact fun acc t j _ ha _ _ h2 => ⟨j, rfl⟩
  | cons p ps ihh =>
    intro acc t j hp ha ta h1 h2
    obtain ⟨hp1, tp⟩ := hp p (by simp)
    rw [List.length_cons, Nat.succ_mul] at h1
    rw [List.map_cons, List.sum_cons] at h2
    have m := mulk_ok ha hp1 (by omega) (by omega) (by omega) ta tp
    have e : gTo (gSet 2) b__law_product_1 (pD p) [x, .sh (pD acc), j] = .nx [x, .sh (pD (mulP acc p)), .sh (pD p)] := by
      simp [b__law_product_1, m]
    have hl := mul_len acc p
    have hm := (ha.mul hp1).mono (show t + s + acc.length ≤ t + (s + LT) by omega)
    obtain ⟨j', ih⟩ := ihh (mulP acc p) (t + (s + LT)) (.sh (pD p)) (fun q hq => hp q (by simp [hq])) hm (tr_mul ta tp) (by omega) (by omega)
    refine ⟨j', ?_⟩
    rw [List.map_cons, List.foldl_cons, forO, e]
    exact ih
theorem FL_all : ∀ f ∈ FL, SzP 3 f ∧ Tr f ∧ f.length ≤ 4 ∧ 2 ≤ f.length := by
  have h : FL.all (fun f => f.all (fun c => decide (c.natAbs < 2 ^ 3)) && (decide (f.length ≤ 4) && decide (2 ≤ f.length)) && decide (cf f (f.length - 1) ≠ 0)) = true := by decide +kernel
  rw [List.all_eq_true] at h
  intro f hf
  have := h f hf
  simp only [Bool.and_eq_true, decide_eq_true_eq, List.all_eq_true] at this
  obtain ⟨⟨h1, h2, h3⟩, h4⟩ := this
  refine ⟨fun c hc => ⟨h1 c hc⟩, fun m hm => ?_, h2, h3⟩
  rw [hm] at h4; exact h4
theorem sum_len {fs : List (List Int)} (h : ∀ f ∈ fs, f ∈ FL) : (fs.map List.length).sum ≤ fs.length * 4 := by
  induction fs with
  | nil => simp
  | cons f fs ih =>
    have := (FL_all f (h f (by simp))).2.2.1
    have := ih fun g hg => h g (by simp [hg])
    rw [List.map_cons, List.sum_cons, List.length_cons, Nat.succ_mul]; omega
theorem lproduct_ok {fs : List (List Int)} (h : ∀ f ∈ fs, f ∈ FL) (hl : fs.length ≤ 10) : m__law_product [.list (fs.map pD)] = .ok (.sh (pD (prodP fs))) ∧ SzP 500 (prodP fs) ∧ Tr (prodP fs) ∧ (prodP fs).length ≤ 41 := by
  have hs := sum_len h
  have hs' : fs.length * (3 + 41) ≤ 10 * (3 + 41) := Nat.mul_le_mul_right _ hl
  obtain ⟨j, e⟩ := lprod_loop (s := 3) (LT := 41) (by decide) (.sh (.list (fs.map pD))) fs [1] 1 .no (fun p hp => ⟨(FL_all p (h p hp)).1, (FL_all p (h p hp)).2.1⟩) szp1 tr_one (by omega) (by simp; omega)
  obtain ⟨_, p2, p3⟩ := product_ok (s := 3) (LT := 41) (ps := fs) (fun p hp => (FL_all p (h p hp)).1) (by decide) (by omega) (by omega)
  have one : PyData.list [PyData.int 1] = pD [1] := rfl
  refine ⟨by simp [m__law_product, c__law_product, one, e, prodP], p2.mono (by omega), tr_foldl (fun p hp => (FL_all p (h p hp)).2.1) tr_one, p3⟩
def kP (by_ : Int) (fs : List (List Int)) : List Int := (prodP fs).map fun c => by_ * c
theorem cf_kP (b : Int) (fs : List (List Int)) (k : Nat) : cf (kP b fs) k = b * cf (prodP fs) k := cf_map (f := fun c => b * c) (by simp) k
theorem prod_len2 : ∀ {fs : List (List Int)} {acc : List Int}, (∀ f ∈ fs, f ∈ FL) → Tr acc → 1 ≤ acc.length → acc.length + fs.length ≤ (fs.foldl mulP acc).length
  | [], acc, _, _, _ => by simp
  | f :: fs, acc, h, ta, hl => by
    obtain ⟨_, tf, _, l2⟩ := FL_all f (h f (by simp))
    have hm : (mulP acc f).length = acc.length + f.length - 1 := by
      unfold mulP
      have h1 : acc ≠ [] := by rintro rfl; simp at hl
      have h2 : f ≠ [] := by rintro rfl; simp at l2
      rw [if_neg (by simp [h1, h2]), fl_length]
    have ih := prod_len2 (fs := fs) (acc := mulP acc f) (fun g hg => h g (by simp [hg])) (tr_mul ta tf) (by omega)
    rw [List.foldl_cons, List.length_cons]; omega
theorem polynomial_ok {c : Nat} {xs : List Int} (h : IsDraws c xs) {z : Int} {most : Nat} (hz : z = most) (h0 : 1 ≤ most) (hc : most + 1 ≤ c) (hm : most ≤ 10) (hc9 : 10 ≤ c) :
    ∃ (b : Int) (fs : List (List Int)), m__law_polynomial [pD xs, .int z] = .ok (.sh (.tuple [pD (kP b fs), .list (fs.map pD)])) ∧ (b = 1 ∨ b = -1 ∨ b = 2 ∨ b = -3) ∧ (∀ f ∈ fs, f ∈ FL) ∧ fs ≠ [] ∧ fs.length ≤ most ∧ fs.Nodup := by
  obtain ⟨fs, u, f1, f2, f3, f4⟩ := drawn_ok h hz h0 hc (by omega)
  obtain ⟨p1, p2, p3, p4⟩ := lproduct_ok f1 (by omega)
  obtain ⟨v0, v1⟩ := fmod_rng (a := gI xs 9) (b := 5) (by decide)
  have ix9 : ixD (pD xs) (.int 9) = some (.int (gI xs 9)) := p_ixc (n := 9) (by rw [h.len]; omega)
  obtain ⟨b, hb, hbc⟩ : ∃ b : Int, ixD (.list [.int 1, .int 1, .int (-1), .int 2, .int (-3)]) (.int ((gI xs 9).fmod 5)) = some (.int b) ∧ (b = 1 ∨ b = -1 ∨ b = 2 ∨ b = -3) := by
    generalize (gI xs 9).fmod 5 = w at v0 v1 ⊢
    have hc : w = 0 ∨ w = 1 ∨ w = 2 ∨ w = 3 ∨ w = 4 := by omega
    rcases hc with rfl | rfl | rfl | rfl | rfl <;> exact ⟨_, by simp <;> rfl, by decide⟩
  have sb : Sz 3 b := by rcases hbc with rfl | rfl | rfl | rfl <;> exact .lit (by decide)
  have hl : (prodP fs).length ≤ sizeLine := slB (by omega)
  have hcmp : ∀ a0 a1 a2 a4 : SD, compR (compS [4] (gSet 4) (cst true) (e2 mulD (eOwn 3) (eOwn 4)) [a0, a1, a2, .sh (.int b), a4]) ((prodP fs).map .int) = .ok ((kP b fs).map .int) := fun a0 a1 a2 a4 => by
    unfold kP
    rw [List.map_map]
    exact compR_map' fun x hx => by
      have o := okMul_of sb (p2 x hx) (by decide)
      simp [compS, o]
  exact ⟨b, fs, by simp [m__law_polynomial, c__law_polynomial, u, p1, ix9, hb, hl, hcmp, -r_ix_l], hbc, f1, f2, f3, f4⟩
/-! bounds -/
theorem ix_last {l : List Int} {n : Nat} (h : l.length = n + 1) : ixD (pD l) (.int (-1)) = some (.int (cf l n)) := by
  have := take_snoc (l := l) (n := n) (by omega)
  rw [List.take_of_length_le (by omega)] at this
  unfold pD
  rw [this]
  exact r_at_last
theorem maxI_ge : ∀ (r : List Int) (m : Int), m ≤ maxI m r ∧ (∀ x ∈ r, x ≤ maxI m r) ∧ (maxI m r = m ∨ maxI m r ∈ r)
  | [], m => ⟨Int.le_refl _, by simp, .inl rfl⟩
  | x :: r, m => by
    unfold maxI
    split
    · rename_i h
      obtain ⟨h1, h2, h3⟩ := maxI_ge r x
      exact ⟨by omega, fun y hy => by
        rcases List.mem_cons.mp hy with rfl | hy
        · exact h1
        · exact h2 y hy, by
        rcases h3 with h3 | h3
        · right; rw [h3]; simp
        · right; simp [h3]⟩
    · rename_i h
      obtain ⟨h1, h2, h3⟩ := maxI_ge r m
      exact ⟨h1, fun y hy => by
        rcases List.mem_cons.mp hy with rfl | hy
        · omega
        · exact h2 y hy, by
        rcases h3 with h3 | h3
        · left; exact h3
        · right; simp [h3]⟩
end W

set_option Elab.async false
set_option linter.all false
set_option maxRecDepth 100000
set_option autoImplicit false
namespace W
open PySem PySem.Spec PyProof.Rows L2 VL
noncomputable def c_shifted : Ev → Out := sRet (eIf (e1 truD (eOwn 0)) (e2 addD (e2 mulD (eLst (e1 lim (eCons (cst (.int 0)) (cst [])))) (eOwn 1)) (eOwn 0)) (eLst (e1 lim (cst []))))
noncomputable def m_shifted : List D → R SD := runD 2 2 c_shifted
noncomputable def b_false_rest_1 : Ev → Out := sSeq (sSet 5 (e2 subD (e2 subD (e1 lenD (eCons (eOwn 0) (cst []))) (e1 lenD (eCons (eOwn 1) (cst [])))) (eOwn 4))) (sSeq (sSet 6 (eCall m_coefficient_of (eCons (eVar 2) (eCons (e2 subD (e2 addD (eOwn 5) (e1 lenD (eCons (eOwn 1) (cst [])))) (cst (.int 1))) (cst []))))) (sSet 2 (eCall m_subtract (eCons (eCall m_scale (eCons (eVar 2) (eCons (eVar 3) (cst [])))) (eCons (eCall m_shifted (eCons (eCall m_scale (eCons (eVar 1) (eCons (eVar 6) (cst [])))) (eCons (eVar 5) (cst [])))) (cst []))))))
noncomputable def c_false_rest : Ev → Out := sSeq (sIf (e1 bOf (e2 ltD (e1 lenD (eCons (eOwn 0) (cst []))) (e1 lenD (eCons (eOwn 1) (cst []))))) (sRetO (e1 listO (eCons (eOwn 0) (cst [])))) (sNil)) (sSeq (sSet 2 (eLst (e1 listO (eCons (eOwn 0) (cst []))))) (sSeq (sSet 3 (e2 ixD (eOwn 1) (e1 negD (cst (.int 1))))) (sSeq (sFor (e1 range1D (eCons (e2 addD (e2 subD (e1 lenD (eCons (eOwn 0) (cst []))) (e1 lenD (eCons (eOwn 1) (cst [])))) (cst (.int 1))) (cst []))) (gSet 4) b_false_rest_1) (sRet (eVar 2)))))
noncomputable def m_false_rest : List D → R SD := runD 2 7 c_false_rest
/-! ### division with a false rest -/
def shP (l : List Int) (k : Nat) : List Int := if l = [] then [] else (fl k fun _ => 0) ++ l
theorem cf_app (l m : List Int) (k : Nat) : cf (l ++ m) k = if k < l.length then cf l k else cf m (k - l.length) := by
  unfold cf
  rw [List.getD_eq_getElem?_getD, List.getD_eq_getElem?_getD, List.getD_eq_getElem?_getD]
  split
  · rename_i h; rw [List.getElem?_append_left h]
  · rename_i h; rw [List.getElem?_append_right (by omega)]
theorem cf_sh (l : List Int) (k n : Nat) : cf (shP l k) n = if n < k then 0 else cf l (n - k) := by
  unfold shP
  split
  · rename_i h; subst h; simp
  · rw [cf_app, fl_length, cf_fl]
    split
    · simp
    · rfl
theorem sh_len (l : List Int) (k : Nat) : (shP l k).length ≤ k + l.length := by
  unfold shP; split
  · simp
  · simp
theorem SzP.sh {s : Nat} {l : List Int} (h : SzP s l) (k : Nat) : SzP s (shP l k) := by
  unfold shP; split
  · exact fun c hc => by cases hc
  · intro c hc
    rcases List.mem_append.mp hc with g | g
    · obtain ⟨i, _, rfl⟩ := List.mem_map.mp g
      exact sz0 _
    · exact h c g
theorem shifted_ok {l : List Int} {z : Int} {k : Nat} (hz : z = k) (hk : k ≤ 10000) (hl : l.length ≤ 10000) : m_shifted [pD l, .int z] = .ok (.sh (pD (shP l k))) := by
  subst hz
  have rp := rep_ok (n := k) (z := (k : Int)) rfl (by omega)
  have ca : addD (pD (fl k fun _ => 0)) (pD l) = some (pD ((fl k fun _ => 0) ++ l)) := by
    unfold pD
    rw [r_addL, r_cat (slB (by simp; omega)), List.map_append]; rfl
  cases l with
  | nil => simp [m_shifted, c_shifted, shP]; rfl
  | cons c l => simp [m_shifted, c_shifted, shP, rp, ca]
/-- one step of the division: the rest times the lead less the divisor times the top, moved -/
def stP (b : List Int) (lead : Int) (rest : List Int) (by_ : Nat) : List Int := subP (scaleP rest lead) (shP (scaleP b (cf rest (by_ + b.length - 1))) by_)
theorem cf_st (b : List Int) (lead : Int) (rest : List Int) (by_ n : Nat) : cf (stP b lead rest by_) n = cf rest n * lead - (if n < by_ then 0 else cf b (n - by_) * cf rest (by_ + b.length - 1)) := by
  unfold stP
  rw [cf_sub, cf_scale, cf_sh, cf_scale]
theorem tr_st (b : List Int) (lead : Int) (rest : List Int) (by_ : Nat) : Tr (stP b lead rest by_) := tr_add _ _
theorem SzP.st {s t : Nat} {b rest : List Int} {lead : Int} (hb : SzP t b) (hr : SzP s rest) (hl : Sz t lead) (by_ : Nat) : SzP (s + t + 1) (stP b lead rest by_) := by
  intro c hc
  obtain ⟨n, hn⟩ : ∃ n, W.cf (stP b lead rest by_) n = c := by
    obtain ⟨i, hi, e⟩ := List.mem_iff_getElem.mp hc
    exact ⟨i, by rw [← cf_elem hi, e]⟩
  rw [← hn, cf_st]
  refine ((hr.cf n).mul hl).sub ?_
  split
  · exact sz0 _
  · rw [Nat.add_comm]
    exact (hb.cf _).mul (hr.cf _)
/-- the rest after the first j steps -/
def frN (a b : List Int) : Nat → List Int
  | 0 => a
  | j + 1 => stP b (cf b (b.length - 1)) (frN a b j) (a.length - b.length - j)
def frP (a b : List Int) : List Int := if a.length < b.length then a else frN a b (a.length - b.length + 1)
theorem frN_sz {s t : Nat} {a b : List Int} (ha : SzP s a) (hb : SzP t b) : ∀ j, SzP (s + j * (t + 1)) (frN a b j)
  | 0 => by simpa [frN] using ha
  | j + 1 => by
    rw [Nat.succ_mul]
    exact (SzP.st hb (frN_sz ha hb j) (hb.cf _) _).mono (by omega)
theorem frN_tr {a b : List Int} (ha : Tr a) : ∀ j, Tr (frN a b j)
  | 0 => ha
  | j + 1 => tr_st _ _ _ _
/-- after j steps the rest is short -/
theorem frN_zero {a b : List Int} (hb : b ≠ []) (hl : b.length ≤ a.length) : ∀ j, j ≤ a.length - b.length + 1 → ∀ n, a.length - j ≤ n → cf (frN a b j) n = 0
  | 0, _, n, hn => by
    show cf a n = 0
    exact cf_out (by omega)
  | j + 1, hj, n, hn => by
    have lb : 0 < b.length := List.length_pos_iff.mpr hb
    have ih := frN_zero hb hl j (by omega)
    rw [frN, cf_st]
    by_cases e : n = a.length - j - 1
    · have e1 : a.length - b.length - j + b.length - 1 = n := by omega
      rw [if_neg (by omega), e1, show n - (a.length - b.length - j) = b.length - 1 by omega]
      rw [Int.mul_comm]; omega
    · rw [ih n (by omega), if_neg (by omega), cf_out (l := b) (k := n - (a.length - b.length - j)) (by omega)]; simp
theorem len_of_zero {l : List Int} (ht : Tr l) {n : Nat} (h : ∀ k, n ≤ k → cf l k = 0) : l.length ≤ n := by
  apply Classical.byContradiction
  intro g
  exact ht (l.length - 1) (by omega) (h _ (by omega))
theorem fr_len {a b : List Int} (ha : Tr a) (hb : b ≠ []) (hl : b.length ≤ a.length) : (frP a b).length < b.length := by
  have lb : 0 < b.length := List.length_pos_iff.mpr hb
  unfold frP
  rw [if_neg (by omega)]
  have := len_of_zero (frN_tr ha _) (frN_zero hb hl (a.length - b.length + 1) (Nat.le_refl _))
  omega
theorem frN_len {a b : List Int} (ha : Tr a) (hb : b ≠ []) (hl : b.length ≤ a.length) {j : Nat} (hj : j ≤ a.length - b.length + 1) : (frN a b j).length ≤ a.length - j := len_of_zero (frN_tr ha _) (frN_zero hb hl j hj)
theorem fr_tr {a b : List Int} (ha : Tr a) : Tr (frP a b) := by
  unfold frP; split
  · exact ha
  · exact frN_tr ha _
theorem rpow_add (x : Rat) (k : Nat) : ∀ n, x ^ (k + n) = x ^ k * x ^ n
  | 0 => by simp
  | n + 1 => by rw [← Nat.add_assoc, Rat.pow_succ, rpow_add x k n, Rat.pow_succ]; grind
theorem ev_sh (l : List Int) (k : Nat) (x : Rat) : evP (shP l k) x = x ^ k * evP l x := by
  rw [evP_S _ x (k + l.length) (sh_len l k)]
  have : ∀ n, evS (k + n) (cf (shP l k)) x = x ^ k * evS n (cf l) x := fun n => by
    induction n with
    | zero =>
      have : evS k (cf (shP l k)) x = 0 := by
        rw [evS_congr (g := fun _ => 0) (fun i hi => by rw [cf_sh, if_pos hi])]
        exact evS_ext (Nat.zero_le k) fun _ _ => rfl
      rw [Nat.add_zero, this]; simp [evS]
    | succ n ih =>
      rw [← Nat.add_assoc, evS, ih, evS, cf_sh, if_neg (by omega), show k + n - k = n by omega, rpow_add]
      grind
  rw [this, ← evP_S l x l.length (Nat.le_refl _)]
theorem ev_st (b : List Int) (lead : Int) (rest : List Int) (by_ : Nat) (x : Rat) : evP (stP b lead rest by_) x = (lead : Rat) * evP rest x - ((cf rest (by_ + b.length - 1) : Int) : Rat) * x ^ by_ * evP b x := by
  unfold stP
  rw [ev_sub, ev_scale, ev_sh, ev_scale]; grind
/-- the part of the quotient that is found in step j, of K steps in all -/
def qN (a b : List Int) : Nat → List Int
  | 0 => []
  | j + 1 => addP (scaleP (qN a b j) (cf b (b.length - 1))) (shP [cf (frN a b j) (a.length - b.length - j + b.length - 1)] (a.length - b.length - j))
theorem fr_eq (a b : List Int) (x : Rat) : ∀ j, (((cf b (b.length - 1)) ^ j : Int) : Rat) * evP a x = evP (qN a b j) x * evP b x + evP (frN a b j) x
  | 0 => by
    have : evP (qN a b 0) x = 0 := rfl
    rw [this, Int.pow_zero]; show ((1 : Int) : Rat) * _ = _ + evP a x
    grind
  | j + 1 => by
    have ih := fr_eq a b x j
    have e1 : ∀ c : Int, evP [c] x = (c : Rat) := fun c => by show (0 : Rat) * x + (c : Rat) = _; grind
    rw [frN, ev_st, qN, evP_add, ev_scale, ev_sh, e1, Int.pow_succ, Rat.intCast_mul]
    grind
theorem r_coef {l : List Int} {z : Int} {n : Nat} (hz : z = n) : m_coefficient_of [pD l, .int z] = .ok (.sh (.int (cf l n))) := by
  subst hz
  by_cases h : n < l.length
  · have ix := p_ixc h
    simp [m_coefficient_of, c_coefficient_of, h, ix]
  · simp [m_coefficient_of, c_coefficient_of, h, cf_out (Nat.not_lt.mp h)]
theorem fr_step {a b : List Int} {s t j : Nat} (hsa : SzP s a) (hsb : SzP t b) (ha : Tr a) (hb : b ≠ []) (hl : b.length ≤ a.length) (hj : j ≤ a.length - b.length) (hla : a.length ≤ 1000) (hst : s + 1001 * (t + 1) ≤ 10000000) (w4 w5 w6 : SD) :
    gTo (gSet 4) b_false_rest_1 (.int (j : Int)) [.sh (pD a), .sh (pD b), .sh (pD (frN a b j)), .sh (.int (cf b (b.length - 1))), w4, w5, w6]
      = .nx [.sh (pD a), .sh (pD b), .sh (pD (frN a b (j + 1))), .sh (.int (cf b (b.length - 1))), .sh (.int (j : Int)), .sh (.int ((a.length - b.length - j : Nat) : Int)), .sh (.int (cf (frN a b j) (a.length - b.length - j + b.length - 1)))] := by
  have lb : 0 < b.length := List.length_pos_iff.mpr hb
  have fz := frN_sz hsa hsb j
  have jm : j * (t + 1) ≤ 1000 * (t + 1) := Nat.mul_le_mul_right _ (by omega)
  have fl' := frN_len ha hb hl (j := j) (by omega)
  have e5 : (a.length : Int) - (b.length : Int) - (j : Int) = ((a.length - b.length - j : Nat) : Int) := by omega
  have e6 : ((a.length - b.length - j : Nat) : Int) + (b.length : Int) - 1 = ((a.length - b.length - j + b.length - 1 : Nat) : Int) := by omega
  have co := r_coef (l := frN a b j) (z := ((a.length - b.length - j : Nat) : Int) + (b.length : Int) - 1) e6
  have s1' := scale_ok fz (hsb.cf (b.length - 1)) (by omega) (by omega)
  have s2' := scale_ok hsb (fz.cf (a.length - b.length - j + b.length - 1)) (by omega) (by omega)
  have sl := scale_len b (cf (frN a b j) (a.length - b.length - j + b.length - 1))
  have s3' := shifted_ok (l := scaleP b (cf (frN a b j) (a.length - b.length - j + b.length - 1))) (z := ((a.length - b.length - j : Nat) : Int)) (k := a.length - b.length - j) rfl (by omega) (by omega)
  have shl := sh_len (scaleP b (cf (frN a b j) (a.length - b.length - j + b.length - 1))) (a.length - b.length - j)
  have scl := scale_len (frN a b j) (cf b (b.length - 1))
  have s4' := subtract_ok (a := scaleP (frN a b j) (cf b (b.length - 1))) ((hsb.scale (fz.cf (a.length - b.length - j + b.length - 1))).sh (a.length - b.length - j)) (by omega) (by omega) (by omega)
  have en : frN a b (j + 1) = subP (scaleP (frN a b j) (cf b (b.length - 1))) (shP (scaleP b (cf (frN a b j) (a.length - b.length - j + b.length - 1))) (a.length - b.length - j)) := rfl
  rw [en]
  generalize frN a b j = R at *
  simp [b_false_rest_1, e5, co, s1', s2', s3', s4', -Int.natCast_sub]
theorem false_rest_c {a b : List Int} {s t : Nat} (hsa : SzP s a) (hsb : SzP t b) (ha : Tr a) (hb : b ≠ []) (hla : a.length ≤ 1000) (hlb : b.length ≤ 1000) (hst : s + 1001 * (t + 1) ≤ 10000000) :
    (m_false_rest [pD a, pD b]).bind (fun s => ofO (toD s)) = .ok (pD (frP a b)) := by
  by_cases h : a.length < b.length
  · have e : frP a b = a := by unfold frP; rw [if_pos h]
    rw [e]
    simp [m_false_rest, c_false_rest, h]
  · have e : frP a b = frN a b (a.length - b.length + 1) := by unfold frP; rw [if_neg h]
    rw [e]
    have hl : b.length ≤ a.length := by omega
    have lb : 0 < b.length := List.length_pos_iff.mpr hb
    have hr := range1_ok (x := (a.length : Int) - (b.length : Int) + 1) (by omega) (by omega)
    have et : ((a.length : Int) - (b.length : Int) + 1).toNat = a.length - b.length + 1 := by omega
    rw [et] at hr
    have ixl := ix_last (l := b) (n := b.length - 1) (by omega)
    obtain ⟨ρ', eq, y4, y5, y6, rfl⟩ := forO_inv (F := gTo (gSet 4) b_false_rest_1) (l := rngL 0 1 (a.length - b.length + 1))
      (fun j ρ => ∃ y4 y5 y6, ρ = [.sh (pD a), .sh (pD b), .sh (pD (frN a b j)), .sh (.int (cf b (b.length - 1))), y4, y5, y6])
      (ρ := [.sh (pD a), .sh (pD b), .sh (pD a), .sh (.int (cf b (b.length - 1))), .no, .no, .no]) ⟨_, _, _, rfl⟩
      (fun j d ρ hd hi => by
        obtain ⟨hj, rfl⟩ := rng0_get hd
        obtain ⟨y4, y5, y6, rfl⟩ := hi
        exact ⟨_, .inl (fr_step hsa hsb ha hb hl (by omega) hla hst y4 y5 y6), _, _, _, rfl⟩)
    rw [rngL_length] at eq
    simp [m_false_rest, c_false_rest, h, ixl, hr, eq]
/-! plain forms -/
def plC (a : List Int) : Int := if cf a (a.length - 1) < 0 then -(contN a : Int) else (contN a : Int)
def plainP (a : List Int) : List Int := a.map fun x => x.fdiv (plC a)
theorem contN_ne {a : List Int} (ha : Tr a) (h : a ≠ []) : contN a ≠ 0 := by
  intro z
  have l : 0 < a.length := List.length_pos_iff.mpr h
  have h1 := contN_dvd (cf_mem (l := a) (k := a.length - 1) (by omega))
  rw [z] at h1
  exact ha (a.length - 1) (by omega) (Int.zero_dvd.mp h1)
theorem plC_ne {a : List Int} (ha : Tr a) (h : a ≠ []) : plC a ≠ 0 := by
  have := contN_ne ha h
  unfold plC; split <;> omega
end W

set_option Elab.async false
set_option linter.all false
set_option maxRecDepth 100000
set_option autoImplicit false
namespace W
open PySem PySem.Spec PyProof.Rows L2 VL
/-! ### plain polynomials stand for their rays -/
structure Prim (p : List Int) : Prop where
  tr : Tr p
  ne : p ≠ []
  one : contN p = 1
  pos : 0 < cf p (p.length - 1)
theorem cont_map (c : Int) : ∀ (a : List Int) (g : Nat), ((a.map fun x => c * x).foldl (fun g c => Nat.gcd g c.natAbs) (c.natAbs * g)) = c.natAbs * a.foldl (fun g c => Nat.gcd g c.natAbs) g
  | [], g => rfl
  | x :: a, g => by
    rw [List.map_cons, List.foldl_cons, List.foldl_cons, Int.natAbs_mul, Nat.gcd_mul_left, cont_map c a]
theorem contN_map (c : Int) (a : List Int) : contN (a.map fun x => c * x) = c.natAbs * contN a := cont_map c a 0
theorem cf_plain {a : List Int} (h : a ≠ []) (ha : Tr a) (k : Nat) : cf a k = plC a * cf (plainP a) k := by
  unfold plainP
  rw [cf_map (f := fun x => x.fdiv (plC a)) (by simp)]
  have hd : plC a ∣ cf a k := by
    have : (contN a : Int) ∣ cf a k := by
      by_cases hk : k < a.length
      · exact contN_dvd (cf_mem hk)
      · rw [cf_out (by omega)]; exact Int.dvd_zero _
    unfold plC
    split
    · exact Int.neg_dvd.mpr this
    · exact this
  obtain ⟨y, hy⟩ := hd
  rw [hy, Int.mul_fdiv_cancel_left y (plC_ne ha h)]
theorem plain_len (a : List Int) : (plainP a).length = a.length := by simp [plainP]
theorem plain_prim {a : List Int} (ha : Tr a) (h : a ≠ []) : Prim (plainP a) := by
  have l : 0 < a.length := List.length_pos_iff.mpr h
  have c0 := plC_ne ha h
  have e : a = (plainP a).map fun x => plC a * x := cf_ext (by simp [plainP]) fun k _ => by
    rw [cf_map (f := fun x => plC a * x) (by simp), ← cf_plain h ha]
  have hl := ha (a.length - 1) (by omega)
  have hl' := cf_plain h ha (a.length - 1)
  have one : contN (plainP a) = 1 := by
    have h1 := contN_map (plC a) (plainP a)
    rw [← e] at h1
    have h2 : (plC a).natAbs = contN a := by unfold plC; split <;> omega
    rw [h2] at h1
    have h3 := contN_ne ha h
    have : contN a * contN (plainP a) = contN a * 1 := by omega
    exact Nat.eq_of_mul_eq_mul_left (by omega) this
  refine ⟨fun m hm => ?_, by rw [← List.length_pos_iff, plain_len]; exact l, one, ?_⟩
  · rw [plain_len] at hm
    have := cf_plain h ha m
    intro z
    rw [z, Int.mul_zero] at this
    exact ha m hm this
  · rw [plain_len]
    have h3 := contN_ne ha h
    generalize cf (plainP a) (a.length - 1) = y at hl' ⊢
    unfold plC at hl'
    split at hl'
    · rename_i g
      rw [Int.neg_mul] at hl'
      have : 0 < (contN a : Int) * y := by omega
      exact Int.pos_of_mul_pos_right this (by omega)
    · rename_i g
      have : 0 < (contN a : Int) * y := by omega
      exact Int.pos_of_mul_pos_right this (by omega)
theorem ray_len {p q : List Int} (hp : Tr p) (hq : Tr q) {u v : Int} (hu : u ≠ 0) (hv : v ≠ 0) (h : ∀ k, u * cf p k = v * cf q k) : p.length = q.length := by
  have h1 : p.length ≤ q.length := len_of_zero hp fun k hk => by
    have := h k
    rw [cf_out (l := q) hk, Int.mul_zero] at this
    exact (Int.mul_eq_zero.mp this).resolve_left hu
  have h2 : q.length ≤ p.length := len_of_zero hq fun k hk => by
    have := h k
    rw [cf_out (l := p) hk, Int.mul_zero] at this
    exact (Int.mul_eq_zero.mp this.symm).resolve_left hv
  omega
theorem prim_uniq {p q : List Int} (hp : Prim p) (hq : Prim q) {u v : Int} (hu : u ≠ 0) (hv : v ≠ 0) (h : ∀ k, u * cf p k = v * cf q k) : p = q := by
  have hl := ray_len hp.tr hq.tr hu hv h
  have e : (p.map fun x => u * x) = q.map fun x => v * x := cf_ext (by simp [hl]) fun k _ => by
    rw [cf_map (f := fun x => u * x) (by simp), cf_map (f := fun x => v * x) (by simp), h]
  have e1' := contN_map u p
  have e2' := contN_map v q
  rw [e, e2', hp.one, hq.one] at e1'
  have huv : u = v ∨ u = -v := by omega
  rcases huv with g | g
  · subst g
    exact cf_ext hl fun k _ => Int.eq_of_mul_eq_mul_left hu (h k)
  · exfalso
    have h1 := h (p.length - 1)
    have h2 := hp.pos
    have h3 := hq.pos
    rw [← hl] at h3
    rw [g, Int.neg_mul] at h1
    have h4 : v * (cf p (p.length - 1) + cf q (p.length - 1)) = 0 := by rw [Int.mul_add]; omega
    have := (Int.mul_eq_zero.mp h4).resolve_left hv
    omega
theorem plain_ray {a b : List Int} (ha : Tr a) (hb : Tr b) (na : a ≠ []) (nb : b ≠ []) {u v : Int} (hu : u ≠ 0) (hv : v ≠ 0) (h : ∀ k, u * cf a k = v * cf b k) : plainP a = plainP b :=
  prim_uniq (plain_prim ha na) (plain_prim hb nb) (u := u * plC a) (v := v * plC b) (Int.mul_ne_zero hu (plC_ne ha na)) (Int.mul_ne_zero hv (plC_ne hb nb)) fun k => by
    rw [Int.mul_assoc, Int.mul_assoc, ← cf_plain na ha, ← cf_plain nb hb]; exact h k
theorem plain_self {p : List Int} (h : Prim p) : plainP p = p :=
  prim_uniq (plain_prim h.tr h.ne) h (u := plC p) (v := 1) (plC_ne h.tr h.ne) (by decide) fun k => by rw [← cf_plain h.ne h.tr, Int.one_mul]
theorem SzP.plain {a : List Int} {s : Nat} (h : SzP s a) : SzP s (plainP a) := fun x hx => by
  obtain ⟨y, hy, rfl⟩ := List.mem_map.mp hx
  exact (h y hy).fdiv
/-- proportional by values -/
theorem ray_ev {a b : List Int} {u v : Int} (h : ∀ x, (u : Rat) * evP a x = (v : Rat) * evP b x) : ∀ k, u * cf a k = v * cf b k := fun k => by
  have em : ∀ (c : Int) (q : List Int) (x : Rat), evP (q.map fun y => c * y) x = (c : Rat) * evP q x := fun c q x => by
    rw [evP_S _ x q.length (by simp), evP_S q x q.length (Nat.le_refl _), ← evS_mul]
    exact evS_congr fun k _ => cf_map (f := fun y => c * y) (by simp) k
  have := evP_inj (a := a.map fun y => u * y) (b := b.map fun y => v * y) (fun x => by rw [em, em, h]) k
  rwa [cf_map (f := fun y => u * y) (by simp), cf_map (f := fun y => v * y) (by simp)] at this
/-! ### the quotient -/
def topN (a b : List Int) (j : Nat) : Int := cf (frN a b j) (a.length - b.length - j + b.length - 1)
theorem qN_cf {a b : List Int} : ∀ (J n : Nat), J ≤ a.length - b.length + 1 → cf (qN a b J) n = if n ≤ a.length - b.length ∧ a.length - b.length - n < J then topN a b (a.length - b.length - n) * (cf b (b.length - 1)) ^ (J - 1 - (a.length - b.length - n)) else 0
  | 0, n, _ => by
    rw [if_neg (by omega)]
    show cf [] n = 0
    simp
  | J + 1, n, hJ => by
    rw [qN, cf_add, cf_scale, qN_cf J n (by omega), cf_sh]
    by_cases e : n = a.length - b.length - J
    · rw [if_neg (show ¬ (n ≤ a.length - b.length ∧ a.length - b.length - n < J) by omega), if_neg (show ¬ n < a.length - b.length - J by omega), if_pos (show n ≤ a.length - b.length ∧ a.length - b.length - n < J + 1 by omega), show n - (a.length - b.length - J) = 0 by omega, cf_zero, show a.length - b.length - n = J by omega, show J + 1 - 1 - J = 0 by omega, Int.pow_zero]
      unfold topN
      omega
    · by_cases h : n ≤ a.length - b.length ∧ a.length - b.length - n < J
      · rw [if_pos h, if_neg (show ¬ n < a.length - b.length - J by omega), if_pos (show n ≤ a.length - b.length ∧ a.length - b.length - n < J + 1 by omega), show n - (a.length - b.length - J) = (n - (a.length - b.length - J) - 1) + 1 by omega, cf_succ, cf_nil, show J + 1 - 1 - (a.length - b.length - n) = (J - 1 - (a.length - b.length - n)) + 1 by omega, Int.pow_succ, Int.mul_assoc]
        omega
      · rw [if_neg h, if_neg (show ¬ (n ≤ a.length - b.length ∧ a.length - b.length - n < J + 1) by omega)]
        split
        · omega
        · rename_i h2
          rw [show n - (a.length - b.length - J) = (n - (a.length - b.length - J) - 1) + 1 by omega, cf_succ, cf_nil]; omega
theorem qN_tr (a b : List Int) : ∀ J, Tr (qN a b J)
  | 0 => tr_nil
  | J + 1 => tr_add _ _
def fR (n : Nat) (φ : Nat → Rat) : List D := (List.range n).map fun i => rD (φ i)
@[simp] theorem fR_len (n : Nat) (φ : Nat → Rat) : (fR n φ).length = n := by simp [fR]
def Rf (a b : List Int) (j i : Nat) : Rat := (cf (frN a b j) i : Rat) / (((cf b (b.length - 1)) ^ j : Int) : Rat)
def Ff (a b : List Int) (j : Nat) : Rat := (topN a b j : Rat) / (((cf b (b.length - 1)) ^ (j + 1) : Int) : Rat)
structure QS (s t J : Nat) (a b : List Int) : Prop where
  sa : SzP s a
  sb : SzP t b
  ta : Tr a
  tb : Tr b
  nb : b ≠ []
  na : a ≠ []
  hl : b.length ≤ a.length
  la : a.length ≤ 1000
  ht : 1 ≤ t
  hJ : a.length - b.length + 1 ≤ J
  hz : 2 * (s + J * (t + 1) + 1) + t + 10 ≤ 8000
section
variable {s t J : Nat} {a b : List Int}
theorem QS.lb (h : QS s t J a b) : 0 < b.length := List.length_pos_iff.mpr h.nb
theorem QS.lead (h : QS s t J a b) : cf b (b.length - 1) ≠ 0 := h.tb _ (by have := h.lb; omega)
theorem pow_sz {t : Nat} {x : Int} (h : Sz t x) : ∀ j, Sz (j * t + 1) (x ^ j)
  | 0 => by simpa using Sz.lit (i := 1) (a := 1) (by decide)
  | j + 1 => by
    rw [Int.pow_succ, Nat.succ_mul]
    exact ((pow_sz h j).mul h).mono (by omega)
theorem QS.jm (h : QS s t J a b) {j : Nat} (hj : j ≤ J) : j * (t + 1) ≤ J * (t + 1) ∧ j * t ≤ j * (t + 1) := ⟨Nat.mul_le_mul_right _ hj, Nat.mul_le_mul_left _ (by omega)⟩
theorem QS.rk (h : QS s t J a b) {j : Nat} (hj : j ≤ J) (i : Nat) : Rk (s + J * (t + 1) + 1) (Rf a b j i) := by
  obtain ⟨m1, m2⟩ := h.jm hj
  exact rk_div (Int.pow_ne_zero h.lead) (((frN_sz h.sa h.sb j).cf i).mono (by omega)) ((pow_sz (h.sb.cf _) j).mono (by omega))
theorem QS.fk (h : QS s t J a b) {j : Nat} (hj : j + 1 ≤ J) : Rk (s + J * (t + 1) + 1) (Ff a b j) := by
  obtain ⟨m1, m2⟩ := h.jm hj
  have m3 := Nat.le_trans m2 m1
  rw [Nat.succ_mul] at m1
  exact rk_div (Int.pow_ne_zero h.lead) (((frN_sz h.sa h.sb j).cf _).mono (by omega)) ((pow_sz (h.sb.cf _) (j + 1)).mono (by omega))
end
section
variable {s t J : Nat} {a b : List Int}
end
theorem rD_def (r : Rat) : rD r = .tuple [.int r.num, .int (r.den : Int)] := rfl
section
variable {s t J : Nat} {a b : List Int}
end
end W

set_option Elab.async false
set_option linter.all false
set_option maxRecDepth 100000
set_option autoImplicit false
namespace W
open PySem PySem.Spec PyProof.Rows L2 VL
/-! ### common divisors: plain law -/
theorem evNil (x : Rat) : evP [] x = 0 := rfl
theorem evOne (c : Int) (x : Rat) : evP [c] x = (c : Rat) := by show (0 : Rat) * x + (c : Rat) = _; grind
theorem ev_cmul (c : Int) (q : List Int) (x : Rat) : evP (q.map fun y => c * y) x = (c : Rat) * evP q x := by
  rw [evP_S _ x q.length (by simp), evP_S q x q.length (Nat.le_refl _), ← evS_mul]
  exact evS_congr fun k _ => cf_map (f := fun y => c * y) (by simp) k
theorem ev_plain {a : List Int} (ha : Tr a) (h : a ≠ []) (x : Rat) : evP a x = ((plC a : Int) : Rat) * evP (plainP a) x := by
  rw [← ev_cmul]
  exact evP_ext (fun k => by rw [cf_map (f := fun y => plC a * y) (by simp), ← cf_plain h ha]) x
theorem plain_tr {a : List Int} (ha : Tr a) : Tr (plainP a) := by
  by_cases h : a = []
  · subst h; exact tr_nil
  · exact (plain_prim ha h).tr
theorem plain_nil {a : List Int} : plainP a = [] ↔ a = [] := by unfold plainP; simp
/-- d divides p, with whole numbers on both sides -/
def Dq (d p : List Int) : Prop := ∃ (u : Int) (q : List Int), u ≠ 0 ∧ ∀ x, (u : Rat) * evP p x = evP q x * evP d x
theorem int_ne {u : Int} (h : u ≠ 0) : (u : Rat) ≠ 0 := by exact_mod_cast h
theorem Dq.refl (d : List Int) : Dq d d := ⟨1, [1], by decide, fun x => by rw [evOne]⟩
theorem Dq.nil (d : List Int) : Dq d [] := ⟨1, [], by decide, fun x => by rw [evNil]; grind⟩
theorem Dq.trans {d e p : List Int} (h : Dq d e) (h' : Dq e p) : Dq d p := by
  obtain ⟨u, q, hu, f⟩ := h
  obtain ⟨v, r, hv, g⟩ := h'
  exact ⟨u * v, mulP r q, Int.mul_ne_zero hu hv, fun x => by
    have a := f x
    have b := g x
    rw [Rat.intCast_mul, evP_mul]
    grind⟩
/-- combinations of what d divides -/
theorem Dq.comb {d p r : List Int} (h : Dq d p) (h' : Dq d r) {w : Int} (hw : w ≠ 0) {s t z : List Int} (e : ∀ x, (w : Rat) * evP z x = evP s x * evP p x + evP t x * evP r x) : Dq d z := by
  obtain ⟨u, q, hu, f⟩ := h
  obtain ⟨v, q', hv, g⟩ := h'
  exact ⟨u * v * w, addP (scaleP (mulP s q) v) (scaleP (mulP t q') u), Int.mul_ne_zero (Int.mul_ne_zero hu hv) hw, fun x => by
    have a := f x
    have b := g x
    have c := e x
    rw [Rat.intCast_mul, Rat.intCast_mul, evP_add, ev_scale, ev_scale, evP_mul, evP_mul]
    have : (u : Rat) * (v : Rat) * (w : Rat) * evP z x = (v : Rat) * evP s x * ((u : Rat) * evP p x) + (u : Rat) * evP t x * ((v : Rat) * evP r x) := by grind
    rw [this, a, b]
    grind⟩
theorem Dq.scale {d p z : List Int} (h : Dq d p) {w v : Int} (hw : w ≠ 0) (e : ∀ x, (w : Rat) * evP z x = (v : Rat) * evP p x) : Dq d z := by
  refine h.comb (Dq.nil d) hw (s := [v]) (t := []) fun x => ?_
  rw [e, evOne, evNil]; grind
theorem Dq.plain {d a : List Int} (ha : Tr a) : Dq d (plainP a) ↔ Dq d a := by
  by_cases h : a = []
  · subst h; exact Iff.rfl
  · constructor
    · intro g; exact g.scale (w := 1) (v := plC a) (by decide) fun x => by rw [ev_plain ha h]; grind
    · intro g; exact g.scale (w := plC a) (v := 1) (plC_ne ha h) fun x => by rw [ev_plain ha h]; grind
theorem fr_rel {a b : List Int} (h : b.length ≤ a.length) (x : Rat) : (((cf b (b.length - 1)) ^ (a.length - b.length + 1) : Int) : Rat) * evP a x = evP (qN a b (a.length - b.length + 1)) x * evP b x + evP (frP a b) x := by
  have ef : frP a b = frN a b (a.length - b.length + 1) := by unfold frP; rw [if_neg (by omega)]
  rw [ef]; exact fr_eq a b x _
theorem lead_ne {b : List Int} (hb : Tr b) (nb : b ≠ []) (K : Nat) : (cf b (b.length - 1)) ^ K ≠ 0 := by
  have := List.length_pos_iff.mpr nb
  exact Int.pow_ne_zero (hb _ (by omega))
theorem dq_rest {d a b : List Int} (hb : Tr b) (nb : b ≠ []) (h1 : Dq d a) (h2 : Dq d b) : Dq d (frP a b) := by
  by_cases h : a.length < b.length
  · have ef : frP a b = a := by unfold frP; rw [if_pos h]
    rw [ef]; exact h1
  · exact h1.comb h2 (w := 1) (by decide) (s := [(cf b (b.length - 1)) ^ (a.length - b.length + 1)]) (t := scaleP (qN a b (a.length - b.length + 1)) (-1)) fun x => by
      have := fr_rel (a := a) (b := b) (by omega) x
      rw [evOne, ev_scale]
      have e1 : ((1 : Int) : Rat) = 1 := rfl
      have e2' : ((-1 : Int) : Rat) = -1 := rfl
      rw [e1, e2']
      grind
theorem dq_back {d a b : List Int} (hb : Tr b) (nb : b ≠ []) (h1 : Dq d (frP a b)) (h2 : Dq d b) : Dq d a := by
  by_cases h : a.length < b.length
  · have ef : frP a b = a := by unfold frP; rw [if_pos h]
    rw [ef] at h1; exact h1
  · exact h1.comb h2 (lead_ne hb nb (a.length - b.length + 1)) (s := [1]) (t := qN a b (a.length - b.length + 1)) fun x => by
      have := fr_rel (a := a) (b := b) (by omega) x
      rw [evOne]
      have e1 : ((1 : Int) : Rat) = 1 := rfl
      rw [e1]
      grind
theorem mul_len_eq {a b : List Int} (ha : a ≠ []) (hb : b ≠ []) : (mulP a b).length = a.length + b.length - 1 := by
  unfold mulP; rw [if_neg (by simp [ha, hb]), fl_length]
/-- a multiple of d that is shorter than d is 0 -/
theorem dq_short {d p : List Int} (hd : Tr d) (nd : d ≠ []) (hp : Tr p) (h : Dq d p) (hl : p.length < d.length) : p = [] := by
  obtain ⟨u, q, hu, f⟩ := h
  have e : scaleP p u = mulP (trimP q) d := evP_uniq (tr_scale p u) (tr_mul (tr_trim q) hd) fun x => by
    rw [ev_scale, evP_mul, evP_ext (fun k => cf_trim q k) x, ← f x]; grind
  by_cases hq : trimP q = []
  · have : scaleP p u = [] := by rw [e, hq]; unfold mulP; rw [if_pos (by simp)]
    have hz : ∀ k, cf p k = 0 := fun k => by
      have h1 := cf_scale p u k
      rw [this, cf_nil] at h1
      exact (Int.mul_eq_zero.mp h1.symm).resolve_right hu
    have := len_of_zero hp (n := 0) fun k _ => hz k
    exact List.length_eq_zero_iff.mp (by omega)
  · have h1 := mul_len_eq hq nd
    rw [← e] at h1
    have h2 := scale_len p u
    have h3 := List.length_pos_iff.mpr hq
    omega
theorem dq_len {d p : List Int} (hd : Tr d) (nd : d ≠ []) (hp : Tr p) (np : p ≠ []) (h : Dq d p) : d.length ≤ p.length := by
  apply Classical.byContradiction
  intro g
  exact np (dq_short hd nd hp h (by omega))
/-- plain polynomials that divide each other are the same -/
theorem dq_anti {p q : List Int} (hp : Prim p) (hq : Prim q) (h : Dq p q) (h' : Dq q p) : p = q := by
  have l1 := dq_len hp.tr hp.ne hq.tr hq.ne h
  have l2 := dq_len hq.tr hq.ne hp.tr hp.ne h'
  obtain ⟨u, r, hu, f⟩ := h
  have e : scaleP q u = mulP (trimP r) p := evP_uniq (tr_scale q u) (tr_mul (tr_trim r) hp.tr) fun x => by
    rw [ev_scale, evP_mul, evP_ext (fun k => cf_trim r k) x, ← f x]; grind
  have hr : trimP r ≠ [] := by
    intro z
    have : scaleP q u = [] := by rw [e, z]; unfold mulP; rw [if_pos (by simp)]
    have h1 := cf_scale q u (q.length - 1)
    rw [this, cf_nil] at h1
    have := hq.pos
    rcases Int.mul_eq_zero.mp h1.symm with h2 | h2
    · omega
    · exact hu h2
  have h1 := mul_len_eq hr hp.ne
  rw [← e] at h1
  have h2 := scale_len q u
  have h3 := List.length_pos_iff.mpr hr
  have h4 := List.length_pos_iff.mpr hp.ne
  have hlen : (trimP r).length = 1 := by omega
  obtain ⟨c, hc⟩ : ∃ c, trimP r = [c] := by
    cases hh : trimP r with
    | nil => rw [hh] at hlen; simp at hlen
    | cons c t =>
      rw [hh] at hlen
      have : t = [] := by
        apply List.length_eq_zero_iff.mp
        simp at hlen; simpa using hlen
      exact ⟨c, by rw [this]⟩
  have c0 : c ≠ 0 := by
    have := tr_trim r 0 (by rw [hc]; rfl)
    rw [hc] at this
    simpa using this
  refine (prim_uniq hq hp hu c0 (ray_ev fun x => ?_)).symm
  have := f x
  rw [← evP_ext (fun k => cf_trim r k) x, hc, evOne] at this
  exact this
/-! ### Euclid's way -/
def gcS : Nat → List Int → List Int → List Int
  | 0, f, _ => f
  | n + 1, f, s => if s = [] then f else gcS n s (plainP (frP f s))
def gcP (a b : List Int) : List Int := gcS (b.length + 2) (plainP a) (plainP b)
theorem fr_swap {f s : List Int} (h : f.length < s.length) : frP f s = f := by unfold frP; rw [if_pos h]
theorem gc_spec : ∀ (n : Nat) (f s : List Int), Tr f → Tr s → (s.length < n ∨ (f.length < s.length ∧ f.length + 1 < n) ) →
    (∀ d, Dq d f → Dq d s → Dq d (gcS n f s)) ∧ Dq (gcS n f s) f ∧ Dq (gcS n f s) s ∧ Tr (gcS n f s) ∧
    (∃ (w : Int) (u v : List Int), w ≠ 0 ∧ ∀ x, (w : Rat) * evP (gcS n f s) x = evP u x * evP f x + evP v x * evP s x) ∧
    (gcS n f s = [] → f = [] ∧ s = []) ∧ ((f = [] ∨ Prim f) → (s = [] ∨ Prim s) → gcS n f s = [] ∨ Prim (gcS n f s))
  | 0, f, s, tf, ts, h => by omega
  | n + 1, f, s, tf, ts, h => by
    by_cases hs : s = []
    · have e : gcS (n + 1) f s = f := by rw [gcS, if_pos hs]
      rw [e]
      subst hs
      exact ⟨fun d h1 _ => h1, Dq.refl f, Dq.nil f, tf, ⟨1, [1], [], by decide, fun x => by rw [evOne, evNil]; grind⟩, fun z => ⟨z, rfl⟩, fun h1 _ => h1⟩
    · have e : gcS (n + 1) f s = gcS n s (plainP (frP f s)) := by rw [gcS, if_neg hs]
      have tr := fr_tr (b := s) tf
      have ls := List.length_pos_iff.mpr hs
      obtain ⟨i1, i2, i3, i4, ⟨w, u, v, hw, hc⟩, i6, i7⟩ := gc_spec n s (plainP (frP f s)) ts (plain_tr tr) (by
        rw [plain_len]
        by_cases hl : f.length < s.length
        · rw [fr_swap hl]
          rcases h with h | h
          · left; omega
          · left; omega
        · have := fr_len (b := s) tf hs (by omega)
          left; omega)
      rw [e]
      refine ⟨fun d h1 h2 => i1 d h2 ((Dq.plain tr).mpr (dq_rest ts hs h1 h2)), dq_back ts hs ((Dq.plain tr).mp i3) i2, i2, i4, ?_, fun z => ?_, fun h1 h2 => i7 h2 ?_⟩
      · -- the combination
        by_cases hr : frP f s = []
        · have hp : plainP (frP f s) = [] := plain_nil.mpr hr
          rw [hp] at hc ⊢
          exact ⟨w, [], u, hw, fun x => by rw [hc x, evNil]; grind⟩
        · by_cases hl : f.length < s.length
          · have ef := fr_swap hl
            rw [ef] at hr hc ⊢
            refine ⟨w * plC f, v, scaleP u (plC f), Int.mul_ne_zero hw (plC_ne tf hr), fun x => ?_⟩
            have h1 := hc x
            have h2 := ev_plain tf hr x
            rw [Rat.intCast_mul, ev_scale, h2]
            grind
          · refine ⟨w * plC (frP f s), scaleP v ((cf s (s.length - 1)) ^ (f.length - s.length + 1)), subP (scaleP u (plC (frP f s))) (mulP v (qN f s (f.length - s.length + 1))), Int.mul_ne_zero hw (plC_ne tr hr), fun x => ?_⟩
            have h1 := hc x
            have h2 := ev_plain tr hr x
            have h3 := fr_rel (a := f) (b := s) (by omega) x
            rw [Rat.intCast_mul, ev_scale, ev_sub, ev_scale, evP_mul]
            grind
      · have := (i6 z).1
        exact absurd this hs
      · by_cases hr : frP f s = []
        · left; exact plain_nil.mpr hr
        · right; exact plain_prim tr hr
/-! the program's function -/
structure Gc (a b g : List Int) : Prop where
  tr : Tr g
  all : ∀ d, Dq d a → Dq d b → Dq d g
  left : Dq g a
  right : Dq g b
  nil : g = [] → a = [] ∧ b = []
  prim : g = [] ∨ Prim g
  bez : ∃ (w : Int) (u v : List Int), w ≠ 0 ∧ ∀ x, (w : Rat) * evP g x = evP u x * evP a x + evP v x * evP b x
theorem gcP_spec {a b : List Int} (ta : Tr a) (tb : Tr b) : Gc a b (gcP a b) := by
  obtain ⟨h1, h2, h3, h4, ⟨w, u, v, hw, hc⟩, h6, h7⟩ := gc_spec (b.length + 2) (plainP a) (plainP b) (plain_tr ta) (plain_tr tb) (.inl (by rw [plain_len]; omega))
  have pp : ∀ {c : List Int}, Tr c → plainP c = [] ∨ Prim (plainP c) := fun {c} tc => by
    by_cases h : c = []
    · left; exact plain_nil.mpr h
    · right; exact plain_prim tc h
  refine ⟨h4, fun d d1 d2 => h1 d ((Dq.plain ta).mpr d1) ((Dq.plain tb).mpr d2), (Dq.plain ta).mp h2, (Dq.plain tb).mp h3, fun z => ⟨plain_nil.mp (h6 z).1, plain_nil.mp (h6 z).2⟩, h7 (pp ta) (pp tb), ?_⟩
  have sc : ∀ {c : List Int}, Tr c → ∃ (z : Int), z ≠ 0 ∧ ∀ x, (z : Rat) * evP (plainP c) x = evP c x := fun {c} tc => by
    by_cases h : c = []
    · subst h; exact ⟨1, by decide, fun x => by show _ * evP [] x = evP [] x; rw [evNil]; grind⟩
    · exact ⟨plC c, plC_ne tc h, fun x => (ev_plain tc h x).symm⟩
  obtain ⟨za, na, ea⟩ := sc ta
  obtain ⟨zb, nb, eb⟩ := sc tb
  refine ⟨w * za * zb, scaleP u zb, scaleP v za, Int.mul_ne_zero (Int.mul_ne_zero hw na) nb, fun x => ?_⟩
  have := hc x
  rw [Rat.intCast_mul, Rat.intCast_mul, ev_scale, ev_scale, ← ea x, ← eb x]
  show (w : Rat) * (za : Rat) * (zb : Rat) * evP (gcS (b.length + 2) (plainP a) (plainP b)) x = _
  grind
/-! the law's own division -/
structure LS (s t J : Nat) (a b : List Int) : Prop where
  q : QS s t J a b
  z : 2 * (s + J * (t + 1) + 1) + t + 10 ≤ 1900
section
variable {s t J : Nat} {a b : List Int}
end
end W

set_option Elab.async false
set_option linter.all false
set_option maxRecDepth 100000
set_option autoImplicit false
namespace W
open PySem PySem.Spec PyProof.Rows L2 VL
/-! ### pigeons -/
theorem flt_split {α : Type} (p : α → Bool) (L : List α) : (L.filter p).length + (L.filter fun x => !p x).length = L.length := by
  induction L with
  | nil => rfl
  | cons x L ih =>
    rw [List.filter_cons, List.filter_cons]
    cases p x <;> simp <;> omega
theorem fiber {α : Type} (φ : α → Int) (lo : Int) (t : Nat) : ∀ (r : Nat) (L : List α), (∀ x ∈ L, lo ≤ φ x ∧ φ x < lo + (r : Int)) → r * t < L.length → ∃ v, t < (L.filter fun x => decide (φ x = v)).length
  | 0, L, h, hl => by
    cases L with
    | nil => simp at hl
    | cons x L => have := h x (by simp); omega
  | r + 1, L, h, hl => by
    by_cases c : t < (L.filter fun x => decide (φ x = lo + (r : Int))).length
    · exact ⟨_, c⟩
    · have e := flt_split (fun x => decide (φ x = lo + (r : Int))) L
      obtain ⟨v, hv⟩ := fiber φ lo t r (L.filter fun x => !decide (φ x = lo + (r : Int))) (fun x hx => by
        obtain ⟨h1, h2⟩ := List.mem_filter.mp hx
        have h3 := h x h1
        have h4 : φ x ≠ lo + (r : Int) := by simpa using h2
        omega) (by rw [Nat.succ_mul] at hl; omega)
      exact ⟨v, Nat.lt_of_lt_of_le hv (List.Sublist.length_le (List.Sublist.filter _ (List.filter_sublist)))⟩
theorem fibers {α : Type} (φ : Nat → α → Int) (lo : Int) (r : Nat) : ∀ (M : Nat) (L : List α), (∀ k, k < M → ∀ x ∈ L, lo ≤ φ k x ∧ φ k x < lo + (r : Int)) → r ^ M < L.length →
    ∃ L' : List α, L'.Sublist L ∧ 1 < L'.length ∧ ∀ k, k < M → ∀ x ∈ L', ∀ y ∈ L', φ k x = φ k y
  | 0, L, _, h => ⟨L, List.Sublist.refl _, by simpa using h, fun k hk => by omega⟩
  | M + 1, L, h, hl => by
    obtain ⟨v, hv⟩ := fiber (φ M) lo (r ^ M) r L (h M (by omega)) (by rw [Nat.pow_succ, Nat.mul_comm] at hl; exact hl)
    obtain ⟨L', h1, h2, h3⟩ := fibers φ lo r M (L.filter fun x => decide (φ M x = v)) (fun k hk x hx => h k (by omega) x (List.mem_filter.mp hx).1) hv
    refine ⟨L', h1.trans List.filter_sublist, h2, fun k hk x hx y hy => ?_⟩
    by_cases e : k = M
    · subst e
      have a := (List.mem_filter.mp (h1.subset hx)).2
      have b := (List.mem_filter.mp (h1.subset hy)).2
      simp at a b
      rw [a, b]
    · exact h3 k (by omega) x hx y hy
/-! digits -/
def dig (m i j : Nat) : Nat := i / m ^ j % m
theorem dig_inj {m : Nat} (hm : 0 < m) : ∀ (N i i' : Nat), i < m ^ N → i' < m ^ N → (∀ j, j < N → dig m i j = dig m i' j) → i = i'
  | 0, i, i', h, h', _ => by simp at h h'; omega
  | N + 1, i, i', h, h', hd => by
    have e0 := hd 0 (by omega)
    unfold dig at e0
    rw [Nat.pow_zero, Nat.div_one, Nat.div_one] at e0
    have r1 : i / m < m ^ N := (Nat.div_lt_iff_lt_mul hm).mpr (by rw [Nat.pow_succ] at h; exact h)
    have r2 : i' / m < m ^ N := (Nat.div_lt_iff_lt_mul hm).mpr (by rw [Nat.pow_succ] at h'; exact h')
    have ih := dig_inj hm N (i / m) (i' / m) r1 r2 fun j hj => by
      have := hd (j + 1) (by omega)
      unfold dig at this ⊢
      rw [Nat.div_div_eq_div_mul, Nat.div_div_eq_div_mul, ← Nat.pow_succ']
      exact this
    have a := Nat.div_add_mod i m
    have b := Nat.div_add_mod i' m
    rw [← a, ← b, ih, e0]
theorem sumN_sub (f g : Nat → Int) : ∀ n, sumN n (fun i => f i - g i) = sumN n f - sumN n g
  | 0 => rfl
  | n + 1 => by
    have := sumN_sub f g n
    simp only [sumN]
    omega
theorem sumN_abs {f : Nat → Int} {B : Nat} : ∀ {n : Nat}, (∀ i, i < n → (f i).natAbs ≤ B) → (sumN n f).natAbs ≤ n * B
  | 0, _ => by simp [sumN]
  | n + 1, h => by
    have a := sumN_abs (n := n) fun i hi => h i (by omega)
    have b := h n (by omega)
    simp only [sumN]
    rw [Nat.succ_mul]
    omega
/-- fewer equations than unknowns: a small answer -/
theorem siegel {N M X : Nat} (C : Nat → Nat → Int) (hC : ∀ k j, (C k j).natAbs ≤ X) (h : M < N) :
    ∃ x : Nat → Int, (∃ j, j < N ∧ x j ≠ 0) ∧ (∀ j, (x j).natAbs ≤ (2 * (N * X) + 1) ^ M) ∧ ∀ k, k < M → sumN N (fun j => C k j * x j) = 0 := by
  obtain ⟨H, hH⟩ : ∃ H, H = (2 * (N * X) + 1) ^ M := ⟨_, rfl⟩
  obtain ⟨Y, hY⟩ : ∃ Y, Y = N * X := ⟨_, rfl⟩
  rw [← hH]
  rw [← hY] at hH
  have H1 : 1 ≤ H := by rw [hH]; exact Nat.pow_pos (by omega)
  have big : (2 * (Y * H) + 1) ^ M < (H + 1) ^ N := by
    have p1 : (H + 1) ^ (M + 1) ≤ (H + 1) ^ N := Nat.pow_le_pow_right (by omega) (by omega)
    by_cases z : M = 0
    · subst z
      have : (H + 1) ^ (0 + 1) = H + 1 := by simp
      rw [Nat.pow_zero]; omega
    · have a : 2 * (Y * H) + 1 < (2 * Y + 1) * (H + 1) := by
        have : (2 * Y + 1) * (H + 1) = 2 * (Y * H) + 2 * Y + H + 1 := by
          rw [Nat.add_mul, Nat.mul_add, Nat.mul_assoc]; omega
        omega
      have b : (2 * (Y * H) + 1) ^ M < ((2 * Y + 1) * (H + 1)) ^ M := Nat.pow_lt_pow_left a z
      rw [Nat.mul_pow, ← hH] at b
      have c : H * (H + 1) ^ M ≤ (H + 1) ^ (M + 1) := by
        rw [Nat.pow_succ, Nat.mul_comm]; exact Nat.mul_le_mul_left _ (by omega)
      omega
  obtain ⟨L', s1, s2, s3⟩ := fibers (fun k i => sumN N fun j => C k j * ((dig (H + 1) i j : Nat) : Int)) (-((Y * H : Nat) : Int)) (2 * (Y * H) + 1) M (List.range ((H + 1) ^ N)) (fun k hk i _ => by
    have dl : ∀ j, dig (H + 1) i j ≤ H := fun j => by have := Nat.mod_lt (i / (H + 1) ^ j) (show 0 < H + 1 by omega); unfold dig; omega
    have := sumN_abs (f := fun j => C k j * ((dig (H + 1) i j : Nat) : Int)) (B := X * H) (n := N) fun j _ => by
      rw [Int.natAbs_mul]
      exact Nat.mul_le_mul (hC k j) (by simpa using dl j)
    rw [← Nat.mul_assoc, ← hY] at this
    omega) (by rw [List.length_range]; exact big)
  have nd : L'.Nodup := List.nodup_range.sublist s1
  match L', s1, s2, s3, nd with
  | a :: b :: r, s1, _, s3, nd =>
    have hab : a ≠ b := by
      intro e
      subst e
      simp at nd
    have ha : a < (H + 1) ^ N := List.mem_range.mp (s1.subset (by simp))
    have hb : b < (H + 1) ^ N := List.mem_range.mp (s1.subset (by simp))
    have dl : ∀ i j, dig (H + 1) i j ≤ H := fun i j => by have := Nat.mod_lt (i / (H + 1) ^ j) (show 0 < H + 1 by omega); unfold dig; omega
    refine ⟨fun j => ((dig (H + 1) a j : Nat) : Int) - ((dig (H + 1) b j : Nat) : Int), ?_, fun j => ?_, fun k hk => ?_⟩
    · apply Classical.byContradiction
      intro z
      refine hab (dig_inj (by omega) N a b ha hb fun j hj => ?_)
      apply Classical.byContradiction
      intro y
      exact z ⟨j, hj, by dsimp only; omega⟩
    · have := dl a j
      have := dl b j
      dsimp only
      omega
    · have e := s3 k hk a (by simp) b (by simp)
      have : (fun j => C k j * (((dig (H + 1) a j : Nat) : Int) - ((dig (H + 1) b j : Nat) : Int))) = fun j => C k j * ((dig (H + 1) a j : Nat) : Int) - C k j * ((dig (H + 1) b j : Nat) : Int) := by
        funext j; rw [Int.mul_sub]
      rw [this, sumN_sub, e]
      omega
end W

set_option Elab.async false
set_option linter.all false
set_option maxRecDepth 100000
set_option autoImplicit false
set_option maxHeartbeats 4000000
namespace W
open PySem PySem.Spec PyProof.Rows L2 VL
/-! ### Euclid's way with cofactors -/
structure Chn (a b f s : List Int) : Prop where
  ex : ∃ (w0 w c : Int) (U0 V0 U V : List Int), w0 ≠ 0 ∧ w ≠ 0 ∧ c ≠ 0 ∧ (∀ x, (w0 : Rat) * evP f x = evP U0 x * evP a x + evP V0 x * evP b x) ∧
    (∀ x, (w : Rat) * evP s x = evP U x * evP a x + evP V x * evP b x) ∧ (∀ x, evP U0 x * evP V x - evP U x * evP V0 x = (c : Rat)) ∧
    U0.length ≤ b.length + 1 - s.length ∧ V0.length ≤ a.length + 1 - s.length ∧ U.length ≤ b.length + 1 - f.length ∧ V.length ≤ a.length + 1 - f.length
theorem chn_start (a b : List Int) : Chn a b a b := ⟨1, 1, 1, [1], [], [], [1], by decide, by decide, by decide, fun x => by rw [evOne, evNil]; grind, fun x => by rw [evOne, evNil]; grind, fun x => by rw [evOne, evNil]; grind, by simp, by simp, by simp, by simp⟩
theorem qN_len (a b : List Int) : (qN a b (a.length - b.length + 1)).length ≤ a.length - b.length + 1 := len_of_zero (qN_tr a b _) fun k hk => by
  rw [qN_cf _ _ (Nat.le_refl _), if_neg (by omega)]
theorem mul_len1 {q u : List Int} {n m : Nat} (hq : q.length ≤ n) (hu : u.length ≤ m) : (mulP q u).length ≤ n + m - 1 := by
  by_cases h : q = [] ∨ u = []
  · have : mulP q u = [] := by unfold mulP; rw [if_pos h]
    rw [this]; simp
  · rw [not_or] at h
    rw [mul_len_eq h.1 h.2]; omega
theorem mul_lenU {q u : List Int} {n m : Nat} (hq : q.length ≤ n) (hu : u.length ≤ m) : (mulP q u).length ≤ if m = 0 then 0 else n + m - 1 := by
  by_cases h : m = 0
  · subst h
    have : u = [] := List.length_eq_zero_iff.mp (by omega)
    subst this
    have e : mulP q [] = [] := by unfold mulP; rw [if_pos (.inr rfl)]
    rw [e]; simp
  · rw [if_neg h]; exact mul_len1 hq hu
theorem sub_len (a b : List Int) : (subP a b).length ≤ max a.length b.length := by
  unfold subP
  have h1 := add_len a (scaleP b (-1))
  have h2 := scale_len b (-1)
  omega
theorem chn_step {a b f s : List Int} (h : Chn a b f s) (tf : Tr f) (ts : Tr s) (ns : s ≠ []) (hl : s.length ≤ f.length) (nr : frP f s ≠ []) : Chn a b s (plainP (frP f s)) := by
  obtain ⟨w0, w, c, U0, V0, U, V, n0, n1, nc, e0, e1, ed, l1, l2, l3, l4⟩ := h.ex
  have tr := fr_tr (b := s) tf
  have ls := List.length_pos_iff.mpr ns
  have rl := fr_len (b := s) tf ns hl
  have rel := fun x => fr_rel (a := f) (b := s) hl x
  have pl := fun x => ev_plain tr nr x
  have ql := qN_len f s
  have Ln : (cf s (s.length - 1)) ^ (f.length - s.length + 1) ≠ 0 := lead_ne ts ns _
  have gn := plC_ne tr nr
  generalize (cf s (s.length - 1)) ^ (f.length - s.length + 1) = L at *
  generalize qN f s (f.length - s.length + 1) = q at *
  generalize plC (frP f s) = g at *
  have len : ∀ (A B : List Int) (n : Nat), A.length ≤ n + 1 - s.length → B.length ≤ n + 1 - f.length → (subP (scaleP A (w * L)) (scaleP (mulP q B) w0)).length ≤ n + 1 - s.length := fun A B n hA hB => by
    have h1 := sub_len (scaleP A (w * L)) (scaleP (mulP q B) w0)
    have h2 := scale_len A (w * L)
    have h3 := scale_len (mulP q B) w0
    have h4 := mul_lenU ql hB
    split at h4 <;> omega
  refine ⟨w, w0 * w * g, -(w * L * c), U, V, subP (scaleP U0 (w * L)) (scaleP (mulP q U) w0), subP (scaleP V0 (w * L)) (scaleP (mulP q V) w0), n1, Int.mul_ne_zero (Int.mul_ne_zero n0 n1) gn, ?_, e1, fun x => ?_, fun x => ?_, ?_, ?_, len U0 U b.length l1 l3, len V0 V a.length l2 l4⟩
  · have := Int.mul_ne_zero (Int.mul_ne_zero n1 Ln) nc
    omega
  · have r := rel x
    have p := pl x
    have a0 := e0 x
    have a1 := e1 x
    rw [ev_sub, ev_sub, ev_scale, ev_scale, ev_scale, ev_scale, evP_mul, evP_mul, Rat.intCast_mul, Rat.intCast_mul, Rat.intCast_mul]
    have : (w0 : Rat) * (w : Rat) * (g : Rat) * evP (plainP (frP f s)) x = (w : Rat) * (L : Rat) * ((w0 : Rat) * evP f x) - (w0 : Rat) * evP q x * ((w : Rat) * evP s x) := by
      rw [p] at r
      grind
    rw [this, a0, a1]
    grind
  · have d := ed x
    rw [ev_sub, ev_sub, ev_scale, ev_scale, ev_scale, ev_scale, evP_mul, evP_mul, Rat.intCast_neg, Rat.intCast_mul, Rat.intCast_mul, ← d]
    grind
  · rw [plain_len]; omega
  · rw [plain_len]; omega
/-! ### its members are small -/
theorem sumN_split (f : Nat → Int) (n : Nat) : ∀ m, sumN (n + m) f = sumN n f + sumN m (fun i => f (n + i))
  | 0 => by simp [sumN]
  | m + 1 => by
    rw [← Nat.add_assoc, sumN, sumN_split f n m, sumN]
    omega
theorem dq_same {p R : List Int} (hp : Prim p) (tR : Tr R) (nR : R ≠ []) (h : Dq p R) (hl : R.length ≤ p.length) : plainP R = p := by
  have l1 := dq_len hp.tr hp.ne tR nR h
  obtain ⟨u, r, hu, f⟩ := h
  have e : scaleP R u = mulP (trimP r) p := evP_uniq (tr_scale R u) (tr_mul (tr_trim r) hp.tr) fun x => by
    rw [ev_scale, evP_mul, evP_ext (fun k => cf_trim r k) x, ← f x]; grind
  have hr : trimP r ≠ [] := by
    intro z
    have : scaleP R u = [] := by rw [e, z]; unfold mulP; rw [if_pos (by simp)]
    have h1 := cf_scale R u (R.length - 1)
    rw [this, cf_nil] at h1
    have lR := List.length_pos_iff.mpr nR
    have := tR (R.length - 1) (by omega)
    rcases Int.mul_eq_zero.mp h1.symm with h2 | h2
    · exact this h2
    · exact hu h2
  have h1 := mul_len_eq hr hp.ne
  rw [← e] at h1
  have h2 := scale_len R u
  have h3 := List.length_pos_iff.mpr hr
  have h4 := List.length_pos_iff.mpr hp.ne
  have hlen : (trimP r).length = 1 := by omega
  obtain ⟨c, hc⟩ : ∃ c, trimP r = [c] := by
    cases hh : trimP r with
    | nil => rw [hh] at hlen; simp at hlen
    | cons c t =>
      rw [hh] at hlen
      have : t = [] := List.length_eq_zero_iff.mp (by simpa using hlen)
      exact ⟨c, by rw [this]⟩
  have c0 : c ≠ 0 := by
    have := tr_trim r 0 (by rw [hc]; rfl)
    rw [hc] at this
    simpa using this
  refine prim_uniq (plain_prim tR nR) hp (u := u * plC R) (v := c) (Int.mul_ne_zero hu (plC_ne tR nR)) c0 (ray_ev fun x => ?_)
  have := f x
  rw [← evP_ext (fun k => cf_trim r k) x, hc, evOne] at this
  rw [Rat.intCast_mul, ← this, ev_plain tR nR x]
  grind
theorem ring2 (w S u v U V U0 V0 R : Rat) (a1 : w * S * u = U * R) (a2 : w * S * v = V * R) : (U0 * V - U * V0) * R = (U0 * v - V0 * u) * w * S := by
  have : (U0 * V - U * V0) * R = U0 * (V * R) - V0 * (U * R) := by grind
  rw [this, ← a1, ← a2]
  grind
theorem chn_sz {a b f s : List Int} {z l N : Nat} (h : Chn a b f s) (ps : Prim s) (na : a ≠ []) (nb : b ≠ []) (ta : Tr a) (tb : Tr b) (sa : SzP z a) (sb : SzP z b) (hl : s.length < f.length) (la : s.length ≤ a.length) (lb : s.length ≤ b.length)
    (hN : (b.length - s.length) + (a.length - s.length) = N) (hN2 : N ≤ 2 ^ l) : SzP ((l + z + 1) * N) s := by
  obtain ⟨w0, w, c, U0, V0, U, V, n0, n1, nc, e0, e1, ed, l1, l2, l3, l4⟩ := h.ex
  have ls := List.length_pos_iff.mpr ps.ne
  have lna := List.length_pos_iff.mpr na
  have lnb := List.length_pos_iff.mpr nb
  have evz : ∀ {p : List Int}, (∀ x, evP p x = 0) → ∀ k, cf p k = 0 := fun h => evP_zero h
  have N1 : 1 ≤ N := by
    apply Classical.byContradiction
    intro g
    have hU : U = [] := List.length_eq_zero_iff.mp (by omega)
    have hV : V = [] := List.length_eq_zero_iff.mp (by omega)
    subst hU; subst hV
    have zz : ∀ k, cf s k = 0 := evz fun x => by
      have := e1 x
      rw [evNil] at this
      have hw := int_ne n1
      have q : (w : Rat) * evP s x = 0 := by rw [this]; grind
      rcases Rat.mul_eq_zero.mp q with q | q
      · exact (hw q).elim
      · exact q
    exact ps.tr (s.length - 1) (by omega) (zz _)
  obtain ⟨X, hX⟩ : ∃ X, X = 2 ^ z - 1 := ⟨_, rfl⟩
  have p2 : 1 ≤ 2 ^ z := Nat.two_pow_pos z
  have bX : ∀ {p : List Int}, SzP z p → ∀ k, (cf p k).natAbs ≤ X := fun hp k => by have := (hp.cf k).lt; omega
  obtain ⟨nb', hnb⟩ : ∃ n, n = b.length - s.length := ⟨_, rfl⟩
  obtain ⟨na', hna⟩ : ∃ n, n = a.length - s.length := ⟨_, rfl⟩
  -- the coefficient of x j in the coefficient k of u a + v b
  obtain ⟨C, hC⟩ : ∃ C : Nat → Nat → Int, C = fun k j => if j < nb' then (if j ≤ k then cf a (k - j) else 0) else (if j - nb' ≤ k then cf b (k - (j - nb')) else 0) := ⟨_, rfl⟩
  have CX : ∀ k j, (C k j).natAbs ≤ X := fun k j => by
    rw [hC]
    dsimp only
    split
    · split
      · exact bX sa _
      · simp
    · split
      · exact bX sb _
      · simp
  obtain ⟨x, ⟨j0, hj0, hx0⟩, hxH, hx⟩ := siegel (N := N) (M := N - 1) (X := X) (fun k j => C (s.length + k) j) (fun k j => CX _ _) (by omega)
  obtain ⟨u, hu⟩ : ∃ u, u = fl nb' x := ⟨_, rfl⟩
  obtain ⟨v, hv⟩ : ∃ v, v = fl na' (fun j => x (nb' + j)) := ⟨_, rfl⟩
  have ul : u.length = nb' := by rw [hu]; simp
  have vl : v.length = na' := by rw [hv]; simp
  have Rcf : ∀ k, cf (addP (mulP u a) (mulP v b)) k = sumN N (fun j => C k j * x j) := fun k => by
    rw [cf_add, cf_mul, cf_mul, show N = nb' + na' by omega, sumN_split]
    unfold cv
    rw [ul, vl]
    congr 1
    · refine sumN_congr fun i hi => ?_
      unfold tm
      rw [hC, hu, cf_fl, if_pos hi]
      dsimp only
      rw [if_pos hi]
      split
      · exact Int.mul_comm _ _
      · simp
    · refine sumN_congr fun i hi => ?_
      unfold tm
      rw [hC, hv, cf_fl, if_pos hi]
      dsimp only
      rw [if_neg (show ¬ nb' + i < nb' by omega), show nb' + i - nb' = i by omega]
      split
      · exact Int.mul_comm _ _
      · simp
  obtain ⟨R, hR⟩ : ∃ R, R = addP (mulP u a) (mulP v b) := ⟨_, rfl⟩
  rw [← hR] at Rcf
  have tR : Tr R := by rw [hR]; exact tr_add _ _
  have eR : ∀ y, evP R y = evP u y * evP a y + evP v y * evP b y := fun y => by rw [hR, evP_add, evP_mul, evP_mul]
  have lR : R.length ≤ s.length := len_of_zero tR fun k hk => by
    by_cases hk2 : k < s.length + (N - 1)
    · rw [Rcf, show k = s.length + (k - s.length) by omega]
      exact hx (k - s.length) (by omega)
    · rw [hR, cf_add, cf_mul, cf_mul, cv_out (by rw [ul]; omega), cv_out (by rw [vl]; omega)]; rfl
  -- both cofactors
  have key : ∀ (A B p q P Q : List Int) (m : Nat), A ≠ [] → Tr A → (∀ y, evP R y = evP p y * evP B y + evP q y * evP A y) → (∀ y, (w : Rat) * evP s y = evP P y * evP B y + evP Q y * evP A y) → p.length = m → P.length ≤ m → A.length = m + s.length →
      ∀ y, (w : Rat) * evP s y * evP p y = evP P y * evP R y := fun A B p q P Q m nA tA r1 r2 lp lP lA => by
    have Z : subP (scaleP (mulP p s) w) (mulP P R) = [] := by
      refine dq_short tA nA (tr_add _ _) ⟨1, subP (mulP p Q) (mulP P q), by decide, fun y => ?_⟩ ?_
      · have a1 := r1 y
        have a2 := r2 y
        rw [ev_sub, ev_sub, ev_scale, evP_mul, evP_mul, evP_mul, evP_mul]
        have : ((1 : Int) : Rat) = 1 := rfl
        rw [this, a1, show evP p y * evP s y * (w : Rat) = evP p y * ((w : Rat) * evP s y) by grind, a2]
        grind
      · have h1 := sub_len (scaleP (mulP p s) w) (mulP P R)
        have h2 := scale_len (mulP p s) w
        have h3 : (mulP p s).length ≤ if m = 0 then 0 else s.length + m - 1 := by
          have := mul_lenU (q := s) (u := p) (n := s.length) (m := m) (Nat.le_refl _) (by omega)
          by_cases g : m = 0
          · have e : p = [] := List.length_eq_zero_iff.mp (by omega)
            subst e
            have : mulP [] s = [] := by unfold mulP; rw [if_pos (.inl rfl)]
            rw [this, if_pos g]; simp
          · rw [if_neg g]
            have := mul_len1 (q := p) (u := s) (n := m) (m := s.length) (by omega) (Nat.le_refl _)
            omega
        have h4 : (mulP P R).length ≤ if m = 0 then 0 else s.length + m - 1 := by
          by_cases g : m = 0
          · have e : P = [] := List.length_eq_zero_iff.mp (by omega)
            subst e
            have : mulP [] R = [] := by unfold mulP; rw [if_pos (.inl rfl)]
            rw [this, if_pos g]; simp
          · rw [if_neg g]
            have := mul_len1 (q := P) (u := R) (n := m) (m := s.length) lP lR
            omega
        split at h3 <;> rename_i g <;> simp only [g, if_true, if_false] at h4 <;> omega
    intro y
    have : evP (subP (scaleP (mulP p s) w) (mulP P R)) y = 0 := by rw [Z]; rfl
    rw [ev_sub, ev_scale, evP_mul, evP_mul] at this
    grind
  have ku := key b a u v U V nb' nb tb eR e1 ul (by omega) (by omega)
  have kv := key a b v u V U na' na ta (fun y => by rw [eR y]; grind) (fun y => by rw [e1 y]; grind) vl (by omega) (by omega)
  have nR : R ≠ [] := by
    intro hz
    have van : ∀ (p : List Int), (∀ y, (w : Rat) * evP s y * evP p y = 0) → ∀ k, cf p k = 0 := fun p hp k => by
      have e : mulP (trimP p) s = [] := evP_uniq (tr_mul (tr_trim p) ps.tr) tr_nil fun y => by
        have := hp y
        rw [evP_mul, evP_ext (fun k => cf_trim p k) y, evNil]
        have hw := int_ne n1
        grind
      rw [← cf_trim p k]
      by_cases g : trimP p = []
      · rw [g, cf_nil]
      · have := mul_len_eq g ps.ne
        rw [e] at this
        have := List.length_pos_iff.mpr g
        simp at *
        omega
    have zu := van u fun y => by rw [ku y, hz, evNil]; grind
    have zv := van v fun y => by rw [kv y, hz, evNil]; grind
    by_cases g : j0 < nb'
    · have := zu j0
      rw [hu, cf_fl, if_pos g] at this
      exact hx0 this
    · have := zv (j0 - nb')
      rw [hv, cf_fl, if_pos (by omega), show nb' + (j0 - nb') = j0 by omega] at this
      exact hx0 this
  have dv : Dq s R := ⟨c, scaleP (subP (mulP U0 v) (mulP V0 u)) w, nc, fun y => by
    have a1 := ku y
    have a2 := kv y
    have d := ed y
    rw [ev_scale, ev_sub, evP_mul, evP_mul, ← d]
    exact ring2 _ _ _ _ _ _ _ _ _ a1 a2⟩
  have pR := dq_same ps tR nR dv lR
  have gR := plC_ne tR nR
  intro y hy
  obtain ⟨k, hk, rfl⟩ : ∃ k, k < s.length ∧ cf s k = y := by
    obtain ⟨k, hk⟩ := List.getElem?_of_mem hy
    have hk' := (List.getElem?_eq_some_iff.mp hk).1
    refine ⟨k, hk', ?_⟩
    rw [cf_get hk'] at hk
    exact Option.some.inj hk
  have c1 := cf_plain nR tR k
  rw [pR, Rcf] at c1
  have b1 := sumN_abs (f := fun j => C k j * x j) (B := X * (2 * (N * X) + 1) ^ (N - 1)) (n := N) fun j _ => by
    rw [Int.natAbs_mul]
    exact Nat.mul_le_mul (CX k j) (hxH j)
  rw [c1, Int.natAbs_mul] at b1
  have g1 : 1 ≤ (plC R).natAbs := by omega
  have b2 : (cf s k).natAbs ≤ (plC R).natAbs * (cf s k).natAbs := Nat.le_mul_of_pos_left _ g1
  have b3 : N * (X * (2 * (N * X) + 1) ^ (N - 1)) ≤ (2 * (N * X) + 1) ^ N := by
    rw [← Nat.mul_assoc, show (2 * (N * X) + 1) ^ N = (2 * (N * X) + 1) ^ (N - 1) * (2 * (N * X) + 1) by rw [← Nat.pow_succ]; congr 1; omega, Nat.mul_comm]
    exact Nat.mul_le_mul_left _ (by omega)
  have b4 : 2 * (N * X) + 1 < 2 ^ (l + z + 1) := by
    have : N * X ≤ 2 ^ l * X := Nat.mul_le_mul_right _ hN2
    have e : 2 ^ (l + z + 1) = 2 * (2 ^ l * 2 ^ z) := by rw [Nat.pow_succ, Nat.pow_add]; omega
    have m : 2 ^ l * X = 2 ^ l * 2 ^ z - 2 ^ l := by rw [hX, Nat.mul_sub, Nat.mul_one]
    have q : 2 ^ l ≤ 2 ^ l * 2 ^ z := Nat.le_mul_of_pos_right _ p2
    have pl : 1 ≤ 2 ^ l := Nat.two_pow_pos l
    omega
  have b5 : (2 * (N * X) + 1) ^ N < (2 ^ (l + z + 1)) ^ N := Nat.pow_lt_pow_left b4 (by omega)
  rw [← Nat.pow_mul] at b5
  exact ⟨by omega⟩
end W

set_option Elab.async false
set_option linter.all false
set_option maxRecDepth 100000
set_option autoImplicit false
set_option maxHeartbeats 4000000
namespace W
open PySem PySem.Spec PyProof.Rows L2 VL
/-! ### common divisors of greater polynomials -/
/-- what the greatest common divisor divides it is not longer than -/
theorem gcS_len {n : Nat} {f s : List Int} (tf : Tr f) (ts : Tr s) (h : s.length < n) (hs : s ≠ []) : (gcS n f s).length ≤ s.length ∧ gcS n f s ≠ [] := by
  obtain ⟨_, _, i3, i4, _, i6, _⟩ := gc_spec n f s tf ts (.inl h)
  have ne : gcS n f s ≠ [] := fun z => hs (i6 z).2
  exact ⟨dq_len i4 ne ts hs i3, ne⟩
section
variable {A B : List Int} {z l N Bd : Nat}
structure CO (z l N Bd : Nat) (A B : List Int) : Prop where
  na : A ≠ []
  nb : B ≠ []
  ta : Tr A
  tb : Tr B
  sa : SzP z A
  sb : SzP z B
  la : A.length ≤ 100
  lb : B.length ≤ 100
  n2 : N ≤ 2 ^ l
  zb : z ≤ Bd
  bd : (l + z + 1) * N ≤ Bd
  big : (N + 2) * (Bd + 1) ≤ 13500
theorem CO.swap (h : CO z l N Bd A B) : CO z l N Bd B A := ⟨h.nb, h.na, h.tb, h.ta, h.sb, h.sa, h.lb, h.la, h.n2, h.zb, h.bd, h.big⟩
end
end W

set_option Elab.async false
set_option linter.all false
set_option maxRecDepth 100000
set_option autoImplicit false
set_option maxHeartbeats 4000000
namespace W
open PySem PySem.Spec PyProof.Rows L2 VL
/-! ### derivatives of products -/
theorem pow_one' (y : Rat) : y ^ 1 = y := by
  have := rpow_add y 1 0
  simp at this ⊢
theorem der_cons (c : Int) (a : List Int) (y : Rat) : evP (derP (c :: a)) y = evP a y + y * evP (derP a) y := by
  have e : ∀ k, cf (derP (c :: a)) k = cf (addP a (shP (derP a) 1)) k := fun k => by
    rw [cf_der, cf_succ, cf_add, cf_sh, cf_der]
    by_cases h : k < 1
    · rw [if_pos h, show k = 0 by omega]; omega
    · obtain ⟨m, rfl⟩ : ∃ m, k = m + 1 := ⟨k - 1, by omega⟩
      rw [if_neg h, show m + 1 - 1 = m by omega, show ((m + 1 : Nat) : Int) + 1 = (m : Int) + 1 + 1 by omega, Int.mul_add]
      omega
  rw [evP_ext e, evP_add, ev_sh, pow_one']
theorem evCons (c : Int) (a : List Int) (y : Rat) : evP (c :: a) y = evP a y * y + (c : Rat) := rfl
/-! ### polynomials without a common divisor -/
def Cop (p q : List Int) : Prop := ∃ (u v : List Int) (c : Int), 0 < c ∧ ∀ x, evP u x * evP p x + evP v x * evP q x = (c : Rat)
theorem Cop.symm {p q : List Int} (h : Cop p q) : Cop q p := by
  obtain ⟨u, v, c, hc, e⟩ := h
  exact ⟨v, u, c, hc, fun x => by rw [← e x]; grind⟩
theorem Cop.ev {p q r : List Int} (h : Cop p q) (e : ∀ x, evP r x = evP q x) : Cop p r := by
  obtain ⟨u, v, c, hc, e'⟩ := h
  exact ⟨u, v, c, hc, fun x => by rw [e x, e' x]⟩
theorem Cop.mul {p q r : List Int} (h : Cop p q) (h' : Cop p r) : Cop p (mulP q r) := by
  obtain ⟨u, v, c, hc, e⟩ := h
  obtain ⟨u', v', c', hc', e'⟩ := h'
  refine ⟨addP (mulP u (addP (mulP u' p) (mulP v' r))) (mulP (mulP v q) u'), mulP v v', c * c', Int.mul_pos hc hc', fun x => ?_⟩
  have a := e x
  have b := e' x
  rw [evP_add, evP_mul, evP_add, evP_mul, evP_mul, evP_mul, evP_mul, evP_mul, evP_mul, Rat.intCast_mul, ← a, ← b]
  grind
theorem Cop.one (p : List Int) : Cop p [1] := ⟨[], [1], 1, by decide, fun x => by rw [evNil, evOne]; grind⟩
/-- a number that is not 0 -/
theorem cop_of {p q u v : List Int} {c : Int} (hc : c ≠ 0) (e : ∀ x, evP u x * evP p x + evP v x * evP q x = (c : Rat)) : Cop p q := by
  by_cases h : 0 < c
  · exact ⟨u, v, c, h, e⟩
  · refine ⟨scaleP u (-1), scaleP v (-1), -c, by omega, fun x => ?_⟩
    have := e x
    have m : ((-1 : Int) : Rat) = -1 := rfl
    rw [ev_scale, ev_scale, m, Rat.intCast_neg, ← this]
    grind
/-- what divides both of them divides a number -/
theorem Cop.dq {p q g d : List Int} (h : Cop p q) {z : Int} (hz : z ≠ 0) {a b : List Int} (ea : ∀ x, evP a x = (z : Rat) * evP p x * evP g x) (eb : ∀ x, evP b x = (z : Rat) * evP g x * evP q x) (h1 : Dq d a) (h2 : Dq d b) : Dq d g := by
  obtain ⟨u, v, c, hc, e⟩ := h
  refine h1.comb h2 (w := z * c) (Int.mul_ne_zero hz (by omega)) (s := u) (t := v) fun x => ?_
  have := e x
  rw [ea, eb, Rat.intCast_mul, ← this]
  grind
end W

set_option Elab.async false
set_option linter.all false
set_option maxRecDepth 100000
set_option autoImplicit false
set_option maxHeartbeats 4000000
namespace W
open PySem PySem.Spec PyProof.Rows L2 VL
/-! ### Gauss's lemma -/
theorem irr_ex : ∀ (m : Nat), 2 ≤ m → ∃ p, 2 ≤ p ∧ p ∣ m ∧ ∀ d, 2 ≤ d → d ∣ p → d = p := by
  intro m
  induction m using Nat.strongRecOn with
  | ind m ih =>
    intro hm
    by_cases h : ∃ d, 2 ≤ d ∧ d < m ∧ d ∣ m
    · obtain ⟨d, h1, h2, h3⟩ := h
      obtain ⟨p, p1, p2, p3⟩ := ih d h2 h1
      exact ⟨p, p1, Nat.dvd_trans p2 h3, p3⟩
    · refine ⟨m, hm, Nat.dvd_refl m, fun d h1 h2 => ?_⟩
      have := Nat.le_of_dvd (by omega) h2
      apply Classical.byContradiction
      intro g
      exact h ⟨d, h1, by omega, h2⟩
theorem irr_prime {p : Nat} (hp : 2 ≤ p) (h : ∀ d, 2 ≤ d → d ∣ p → d = p) (a b : Int) (hd : (p : Int) ∣ a * b) : (p : Int) ∣ a ∨ (p : Int) ∣ b := by
  have hd' : p ∣ a.natAbs * b.natAbs := by
    have := Int.natAbs_dvd_natAbs.mpr hd
    rw [Int.natAbs_mul] at this
    simpa using this
  by_cases c : Nat.gcd p a.natAbs = 1
  · right
    have : p ∣ b.natAbs := Nat.Coprime.dvd_of_dvd_mul_left c hd'
    exact Int.natAbs_dvd_natAbs.mp (by simpa using this)
  · left
    have g0 : 0 < Nat.gcd p a.natAbs := Nat.gcd_pos_of_pos_left _ (by omega)
    have e := h _ (by omega) (Nat.gcd_dvd_left p a.natAbs)
    have : p ∣ a.natAbs := by
      have := Nat.gcd_dvd_right p a.natAbs
      rw [e] at this
      exact this
    exact Int.natAbs_dvd_natAbs.mp (by simpa using this)
theorem least {P : Nat → Prop} (h : ¬ ∀ k, P k) : ∃ i, ¬ P i ∧ ∀ l, l < i → P l := by
  apply Classical.byContradiction
  intro g
  refine h fun k => ?_
  induction k using Nat.strongRecOn with
  | ind k ih =>
    apply Classical.byContradiction
    intro hk
    exact g ⟨k, hk, ih⟩
theorem sumN_dvd {f : Nat → Int} {p : Int} : ∀ {n : Nat}, (∀ l, l < n → p ∣ f l) → p ∣ sumN n f
  | 0, _ => Int.dvd_zero _
  | n + 1, h => Int.dvd_add (sumN_dvd fun l hl => h l (by omega)) (h n (by omega))
theorem sumN_one {f : Nat → Int} {p : Int} {i : Nat} : ∀ {n : Nat}, i < n → (∀ l, l < n → l ≠ i → p ∣ f l) → p ∣ sumN n f → p ∣ f i
  | 0, hi, _, _ => by omega
  | n + 1, hi, h, hd => by
    unfold sumN at hd
    by_cases e : i = n
    · subst e
      have := sumN_dvd (f := f) (n := i) fun l hl => h l (by omega) (by omega)
      exact (Int.dvd_add_right this).mp hd
    · exact sumN_one (n := n) (by omega) (fun l hl => h l (by omega)) ((Int.dvd_add_left (h n (by omega) (by omega))).mp hd)
theorem gauss_p {a b : List Int} {p : Int} (hp : ∀ x y : Int, p ∣ x * y → p ∣ x ∨ p ∣ y) (h : ∀ k, p ∣ cv a b k) : (∀ k, p ∣ cf a k) ∨ (∀ k, p ∣ cf b k) := by
  apply Classical.byContradiction
  intro g
  rw [not_or] at g
  obtain ⟨i, i1, i2⟩ := least g.1
  obtain ⟨j, j1, j2⟩ := least g.2
  have s := h (i + j)
  rw [cv_all] at s
  have := sumN_one (i := i) (by omega) (fun l hl hne => by
    unfold tm
    rw [if_pos (by omega)]
    by_cases c : l < i
    · exact Int.dvd_mul_of_dvd_left (i2 l c)
    · exact Int.dvd_mul_of_dvd_right (j2 (i + j - l) (by omega))) s
  unfold tm at this
  rw [if_pos (by omega), show i + j - i = j by omega] at this
  rcases hp _ _ this with q | q
  · exact i1 q
  · exact j1 q
theorem dvd_cont {a : List Int} {p : Nat} (h : ∀ k, (p : Int) ∣ cf a k) : p ∣ contN a := by
  have key : ∀ (l : List Int) (g : Nat), p ∣ g → (∀ c ∈ l, (p : Int) ∣ c) → p ∣ l.foldl (fun g c => Nat.gcd g c.natAbs) g := by
    intro l
    induction l with
    | nil => intro g hg _; exact hg
    | cons c l ih =>
      intro g hg hc
      refine ih _ (Nat.dvd_gcd hg ?_) fun d hd => hc d (by simp [hd])
      have := Int.natAbs_dvd_natAbs.mpr (hc c (by simp))
      simpa using this
  refine key a 0 (Nat.dvd_zero p) fun c hc => ?_
  obtain ⟨k, hk⟩ := List.getElem?_of_mem hc
  have hk' := (List.getElem?_eq_some_iff.mp hk).1
  rw [cf_get hk'] at hk
  rw [← Option.some.inj hk]
  exact h k
theorem cv_map (P Q : List Int) (c : Int) (k : Nat) : cv P (Q.map fun x => c * x) k = c * cv P Q k := by
  unfold cv
  rw [← sumN_mul]
  refine sumN_congr fun i _ => ?_
  unfold tm
  split
  · rw [cf_map (f := fun x => c * x) (by simp), ← Int.mul_assoc, ← Int.mul_assoc, Int.mul_comm c]
  · simp
/-- what divides a product with a plain polynomial divides the other factor -/
theorem gauss {P : List Int} (hP : Prim P) : ∀ (m : Nat) (Q : List Int), 0 < m → (∀ k, (m : Int) ∣ cv P Q k) → ∀ k, (m : Int) ∣ cf Q k := by
  intro m
  induction m using Nat.strongRecOn with
  | ind m ih =>
    intro Q hm h k
    by_cases m1 : m = 1
    · subst m1; exact Int.one_dvd _
    · obtain ⟨p, p2, ⟨m', hm'⟩, p3⟩ := irr_ex m (by omega)
      have pp := irr_prime p2 p3
      have hpd : ∀ k, (p : Int) ∣ cv P Q k := fun k => Int.dvd_trans ⟨(m' : Int), by rw [hm', Int.natCast_mul]⟩ (h k)
      rcases gauss_p pp hpd with q | q
      · exfalso
        have := dvd_cont q
        rw [hP.one] at this
        have := Nat.le_of_dvd (by decide) this
        omega
      · have m0 : 0 < m' := by
          rcases Nat.eq_zero_or_pos m' with z | z
          · rw [z, Nat.mul_zero] at hm'; omega
          · exact z
        have lt : m' < m := by
          rw [hm']
          have : 1 * m' < p * m' := Nat.mul_lt_mul_of_pos_right (by omega) m0
          omega
        have eQ : Q = (Q.map fun x => x / (p : Int)).map fun x => (p : Int) * x := by
          rw [List.map_map]
          refine cf_ext (by simp) fun k hk => ?_
          have e := cf_map (a := Q) (f := fun x => (p : Int) * (x / (p : Int))) (by simp) k
          have : (fun x => (p : Int) * x) ∘ (fun x => x / (p : Int)) = fun x => (p : Int) * (x / (p : Int)) := rfl
          rw [this, e]
          exact (Int.mul_ediv_cancel' (q k)).symm
        obtain ⟨Q1, hQ1⟩ : ∃ Q1, Q1 = Q.map fun x => x / (p : Int) := ⟨_, rfl⟩
        rw [← hQ1] at eQ
        have ih' := ih m' lt Q1 m0 fun k => by
          have := h k
          rw [eQ, cv_map, hm', Int.natCast_mul] at this
          exact Int.dvd_of_mul_dvd_mul_left (by omega) this
        rw [eQ, cf_map (f := fun x => (p : Int) * x) (by simp), hm', Int.natCast_mul]
        exact Int.mul_dvd_mul_left _ (ih' k)
/-- a plain polynomial that divides divides with whole numbers -/
theorem dq_int {P a : List Int} (hP : Prim P) (h : Dq P a) : ∃ Q, ∀ x, evP a x = evP Q x * evP P x := by
  obtain ⟨u, q, hu, f⟩ := h
  have c : ∀ k, u * cf a k = cv P q k := fun k => by
    have e := evP_inj (a := a.map fun y => u * y) (b := mulP q P) (fun x => by rw [ev_cmul, evP_mul, f]) k
    rw [cf_map (f := fun y => u * y) (by simp), cf_mul, cv_comm] at e
    exact e
  have d := gauss hP u.natAbs q (by omega) fun k => by rw [← c k]; exact Int.dvd_mul_of_dvd_left (Int.natAbs_dvd.mpr (Int.dvd_refl u))
  refine ⟨q.map fun x => x / u, fun x => ?_⟩
  have eq : q = (q.map fun x => x / u).map fun x => u * x := by
    rw [List.map_map]
    refine cf_ext (by simp) fun k hk => ?_
    have e := cf_map (a := q) (f := fun x => u * (x / u)) (by simp) k
    have : (fun x => u * x) ∘ (fun x => x / u) = fun x => u * (x / u) := rfl
    rw [this, e]
    exact (Int.mul_ediv_cancel' (Int.natAbs_dvd.mp (d k))).symm
  have g := f x
  rw [eq, ev_cmul] at g
  have := int_ne hu
  generalize evP (q.map fun x => x / u) x = t at *
  have : (u : Rat) * (evP a x - t * evP P x) = 0 := by grind
  rcases Rat.mul_eq_zero.mp this with z | z
  · exact (int_ne hu z).elim
  · grind
/-! ### values at whole numbers -/
def evI (a : List Int) (x : Int) : Int := a.foldr (fun c v => v * x + c) 0
theorem evI_ev (x : Int) : ∀ a : List Int, evP a (x : Rat) = (evI a x : Rat)
  | [] => rfl
  | c :: a => by
    have := evI_ev x a
    show evP a (x : Rat) * (x : Rat) + (c : Rat) = ((evI a x * x + c : Int) : Rat)
    rw [this, Rat.intCast_add, Rat.intCast_mul]
theorem evI_le {X A : Nat} {x : Int} (hx : x.natAbs ≤ X) : ∀ {a : List Int}, (∀ c ∈ a, c.natAbs ≤ A) → (evI a x).natAbs ≤ A * (X + 1) ^ a.length
  | [], _ => by simp [evI]
  | c :: a, h => by
    have ih := evI_le hx (a := a) fun d hd => h d (by simp [hd])
    have hc := h c (by simp)
    show (evI a x * x + c).natAbs ≤ _
    have m : (evI a x * x).natAbs ≤ A * (X + 1) ^ a.length * X := by
      rw [Int.natAbs_mul]; exact Nat.mul_le_mul ih hx
    have p1 : 1 ≤ (X + 1) ^ a.length := Nat.pow_pos (by omega)
    have e : A * (X + 1) ^ (c :: a).length = A * (X + 1) ^ a.length * X + A * (X + 1) ^ a.length := by
      rw [List.length_cons, Nat.pow_succ, ← Nat.mul_assoc, Nat.mul_add, Nat.mul_one]
    have q : A ≤ A * (X + 1) ^ a.length := Nat.le_mul_of_pos_right _ p1
    rw [e]
    omega
/-- (a(t) - a(x)) : (t - x) -/
def syn (x : Int) : List Int → List Int
  | [] => []
  | _ :: r => addP r (scaleP (syn x r) x)
theorem syn_ev (x : Int) (t : Rat) : ∀ a : List Int, evP a t - evP a (x : Rat) = (t - (x : Rat)) * evP (syn x a) t
  | [] => by show (0 : Rat) - 0 = _ * 0; grind
  | c :: r => by
    have ih := syn_ev x t r
    rw [evCons, evCons, syn, evP_add, ev_scale]
    have : (t - (x : Rat)) * (evP r t + evP (syn x r) t * (x : Rat)) = (t - (x : Rat)) * evP r t + (x : Rat) * ((t - (x : Rat)) * evP (syn x r) t) := by grind
    rw [this, ← ih]; grind
theorem syn_len (x : Int) : ∀ a : List Int, (syn x a).length ≤ a.length - 1
  | [] => by simp [syn]
  | c :: r => by
    have ih := syn_len x r
    have h1 := add_len r (scaleP (syn x r) x)
    have h2 := scale_len (syn x r) x
    rw [syn, List.length_cons]
    omega
theorem syn_int (x y : Int) (a : List Int) : evI a y - evI a x = (y - x) * evI (syn x a) y := by
  have h := syn_ev x (y : Rat) a
  rw [evI_ev, evI_ev, evI_ev, ← Rat.intCast_sub, ← Rat.intCast_sub, ← Rat.intCast_mul] at h
  exact_mod_cast h
/-- not more roots than told -/
theorem roots_le : ∀ (n : Nat) (a : List Int) (rs : List Int), a.length ≤ n → (¬ ∀ k, cf a k = 0) → rs.Nodup → (∀ r ∈ rs, evI a r = 0) → rs.length + 1 ≤ n
  | 0, a, rs, hl, hz, _, _ => by
    have : a = [] := List.length_eq_zero_iff.mp (by omega)
    subst this
    exact (hz fun k => cf_nil k).elim
  | n + 1, a, [], hl, hz, _, _ => by simp
  | n + 1, a, r :: rs, hl, hz, hn, hr => by
    rw [List.nodup_cons] at hn
    have r0 := hr r (by simp)
    have ih := roots_le n (syn r a) rs (by have := syn_len r a; omega) (fun z => hz (evP_zero fun t => by
      have h := syn_ev r t a
      have z0 : evP (syn r a) t = 0 := by
        have e : ∀ k, cf (syn r a) k = cf [] k := fun k => by rw [z, cf_nil]
        rw [evP_ext e]; rfl
      have : evP a (r : Rat) = 0 := by rw [evI_ev, r0]; rfl
      rw [z0, this] at h
      grind)) hn.2 fun s hs => by
      have h := syn_int r s a
      rw [r0, hr s (by simp [hs])] at h
      have ne : s - r ≠ 0 := fun z => hn.1 (by rw [show r = s by omega]; exact hs)
      have : (s - r) * evI (syn r a) s = 0 := by omega
      exact (Int.mul_eq_zero.mp this).resolve_left ne
    simp; omega
/-- small at enough places: small coefficients -/
theorem node_le {X : Nat} : ∀ (m V : Nat) (a : List Int) (xs : List Int), a.length ≤ m → m ≤ xs.length → xs.Nodup → (∀ x ∈ xs, x.natAbs ≤ X ∧ (evI a x).natAbs ≤ V) → ∀ k, (cf a k).natAbs ≤ V * (2 * X + 3) ^ m
  | 0, V, a, xs, hl, _, _, _, k => by
    have : a = [] := List.length_eq_zero_iff.mp (by omega)
    subst this
    rw [cf_nil]; simp
  | m + 1, V, a, [], _, h, _, _, k => by simp at h
  | m + 1, V, a, x :: xs, hl, h, hn, hv, k => by
    rw [List.nodup_cons] at hn
    obtain ⟨x1, v1⟩ := hv x (by simp)
    have ih := node_le m (2 * V) (syn x a) xs (by have := syn_len x a; omega) (by simp at h; omega) hn.2 fun y hy => by
      obtain ⟨y1, w1⟩ := hv y (by simp [hy])
      refine ⟨y1, ?_⟩
      have e := syn_int x y a
      have ne : y - x ≠ 0 := fun z => hn.1 (by rw [show x = y by omega]; exact hy)
      have e2 : (evI a y - evI a x).natAbs = (y - x).natAbs * (evI (syn x a) y).natAbs := by rw [e, Int.natAbs_mul]
      have : (evI (syn x a) y).natAbs ≤ (y - x).natAbs * (evI (syn x a) y).natAbs := Nat.le_mul_of_pos_left _ (by omega)
      omega
    -- a = a(x) + (t - x) syn
    have cs : cf a k = (if k = 0 then evI a x else 0) + ((if k = 0 then 0 else cf (syn x a) (k - 1)) - cf (syn x a) k * x) := by
      have e := evP_inj (a := a) (b := addP [evI a x] (subP (shP (syn x a) 1) (scaleP (syn x a) x))) (fun t => by
        have h := syn_ev x t a
        rw [evP_add, ev_sub, ev_scale, ev_sh, pow_one', evOne, ← evI_ev]
        grind) k
      rw [cf_add, cf_sub, cf_sh, cf_scale] at e
      rw [e]
      cases k with
      | zero => simp
      | succ k => rw [cf_succ, cf_nil, if_neg (by omega), if_neg (by omega), if_neg (by omega)]
    obtain ⟨D, hD⟩ : ∃ D, D = V * (2 * X + 3) ^ m := ⟨_, rfl⟩
    have i0 : ∀ k, (cf (syn x a) k).natAbs ≤ 2 * D := fun k => by
      have := ih k
      rw [Nat.mul_assoc, ← hD] at this
      exact this
    have VD : V ≤ D := by rw [hD]; exact Nat.le_mul_of_pos_right _ (Nat.pow_pos (by omega))
    have e3 : V * (2 * X + 3) ^ (m + 1) = 2 * (D * X) + 3 * D := by
      rw [Nat.pow_succ, ← Nat.mul_assoc, ← hD, Nat.mul_add, Nat.mul_left_comm]; omega
    rw [e3, cs]
    have m1 : (cf (syn x a) k * x).natAbs ≤ 2 * (D * X) := by
      rw [Int.natAbs_mul, ← Nat.mul_assoc]
      exact Nat.mul_le_mul (i0 k) x1
    by_cases z : k = 0
    · rw [if_pos z, if_pos z]; omega
    · rw [if_neg z, if_neg z]
      have := i0 (k - 1)
      omega
/-- the numbers from -X to X -/
def span (X : Nat) : List Int := (List.range (2 * X + 1)).map fun (i : Nat) => ((i : Int) - (X : Int))
theorem span_nodup (X : Nat) : (span X).Nodup := by
  unfold span
  rw [List.nodup_iff_pairwise_ne, List.pairwise_map]
  exact (List.nodup_iff_pairwise_ne.mp List.nodup_range).imp fun {a b} h z => h (by omega)
end W

set_option Elab.async false
set_option linter.all false
set_option maxRecDepth 100000
set_option autoImplicit false
set_option maxHeartbeats 400000
namespace W
open PySem PySem.Spec PyProof.Rows L2 VL
/-! ### polynomials on a bounded stretch -/
theorem aR_add (x y : Rat) : aR (x + y) ≤ aR x + aR y := by unfold aR; split <;> split <;> split <;> grind
theorem aR_le {x M : Rat} (h1 : -M ≤ x) (h2 : x ≤ M) : aR x ≤ M := by unfold aR; split <;> grind
theorem aR_lo (x : Rat) : -(aR x) ≤ x := by unfold aR; split <;> grind
theorem aR_hi (x : Rat) : x ≤ aR x := by unfold aR; split <;> grind
theorem mulR_le {a b c d : Rat} (ha : 0 ≤ a) (hd : 0 ≤ d) (h1 : a ≤ b) (h2 : c ≤ d) : a * c ≤ b * d := by
  have e1 := Rat.mul_nonneg ha (show 0 ≤ d - c by grind)
  have e2 := Rat.mul_nonneg (show 0 ≤ b - a by grind) hd
  grind
theorem divR_pos {x y : Rat} (hx : 0 < x) (hy : 0 < y) : 0 < x / y := by
  apply Classical.byContradiction
  intro g
  have h := Rat.mul_nonneg (show 0 ≤ -(x / y) by grind) (show 0 ≤ y by grind)
  have e : (x / y) * y = x := by
    have : y ≠ 0 := by grind
    grind
  grind
theorem divR_mul {x y : Rat} (hy : 0 < y) : (x / y) * y = x := by
  have : y ≠ 0 := by grind
  grind
theorem pos_of_mul {b c : Rat} (hb : 0 < b) (h : 0 < b * c) : 0 < c := by
  apply Classical.byContradiction
  intro g
  have := Rat.mul_nonneg (show 0 ≤ b by grind) (show 0 ≤ -c by grind)
  grind
theorem opp_sign {A C w α β η : Rat} (ha : 0 < α) (hb : 0 < β) (e : α * A = w - β * C) (hw : aR w < α * η) (na : η < aR A) : A * C < 0 := by
  have h5 := aR_lo w
  have h6 := aR_hi w
  by_cases s : A < 0
  · have ea : aR A = -A := by unfold aR; rw [if_pos s]
    rw [ea] at na
    have g1 := Rat.mul_pos ha (show 0 < -A - η by grind)
    have c1 : 0 < C := pos_of_mul hb (by grind)
    have := Rat.mul_pos (show 0 < -A by grind) c1
    grind
  · have ea : aR A = A := by unfold aR; rw [if_neg s]
    rw [ea] at na
    have g1 := Rat.mul_pos ha (show 0 < A - η by grind)
    have c1 : 0 < -C := pos_of_mul hb (by grind)
    have n0 : 0 ≤ A := by grind
    by_cases z : A = 0
    · have := aR_nonneg w
      have h8 : α * η < 0 := by rw [z] at na; have := Rat.mul_pos ha (show 0 < -η by grind); grind
      grind
    · have := Rat.mul_pos (show 0 < A by grind) c1
      grind
theorem ev_bd {M : Rat} (hM : 0 ≤ M) : ∀ a : List Int, ∃ G : Rat, 0 ≤ G ∧ ∀ x, aR x ≤ M → aR (evP a x) ≤ G
  | [] => ⟨0, by decide, fun x _ => by rw [evNil]; decide⟩
  | c :: a => by
    obtain ⟨G, h0, h⟩ := ev_bd hM a
    refine ⟨G * M + aR (c : Rat), by have := Rat.mul_nonneg h0 hM; have := aR_nonneg (c : Rat); grind, fun x hx => ?_⟩
    rw [evCons]
    have h1 := aR_add (evP a x * x) (c : Rat)
    rw [aR_mul] at h1
    have h2 := mulR_le (aR_nonneg (evP a x)) hM (h x hx) hx
    grind
theorem ev_lip {M : Rat} (hM : 0 ≤ M) : ∀ a : List Int, ∃ L : Rat, 0 ≤ L ∧ ∀ x y, aR x ≤ M → aR y ≤ M → aR (evP a x - evP a y) ≤ L * aR (x - y)
  | [] => ⟨0, by decide, fun x y _ _ => by rw [evNil, evNil, show (0 : Rat) - 0 = 0 by grind, Rat.zero_mul]; decide⟩
  | c :: a => by
    obtain ⟨L, h0, h⟩ := ev_lip hM a
    obtain ⟨G, g0, g⟩ := ev_bd hM a
    refine ⟨G + L * M, by have := Rat.mul_nonneg h0 hM; grind, fun x y hx hy => ?_⟩
    rw [evCons, evCons]
    have e : evP a x * x + (c : Rat) - (evP a y * y + (c : Rat)) = evP a x * (x - y) + (evP a x - evP a y) * y := by grind
    rw [e]
    have h1 := aR_add (evP a x * (x - y)) ((evP a x - evP a y) * y)
    rw [aR_mul, aR_mul] at h1
    have h2 := mulR_le (aR_nonneg (evP a x)) (aR_nonneg (x - y)) (g x hx) (show aR (x - y) ≤ aR (x - y) by grind)
    have h3 := mulR_le (aR_nonneg (evP a x - evP a y)) hM (h x y hx hy) hy
    grind
theorem ev_tay {M : Rat} (hM : 0 ≤ M) : ∀ a : List Int, ∃ C : Rat, 0 ≤ C ∧ ∀ x y, aR x ≤ M → aR y ≤ M → aR (evP a y - evP a x - evP (derP a) x * (y - x)) ≤ C * (aR (y - x) * aR (y - x))
  | [] => ⟨0, by decide, fun x y _ _ => by
      have e : derP [] = [] := rfl
      rw [e, evNil, evNil, Rat.zero_mul, Rat.zero_mul, show (0 : Rat) - 0 - 0 = 0 by grind]; decide⟩
  | c :: a => by
    obtain ⟨C, h0, h⟩ := ev_tay hM a
    obtain ⟨G, g0, g⟩ := ev_bd hM (derP a)
    refine ⟨C * M + G, by have := Rat.mul_nonneg h0 hM; grind, fun x y hx hy => ?_⟩
    rw [evCons, evCons, der_cons]
    have e : evP a y * y + (c : Rat) - (evP a x * x + (c : Rat)) - (evP a x + x * evP (derP a) x) * (y - x) = (evP a y - evP a x - evP (derP a) x * (y - x)) * y + evP (derP a) x * ((y - x) * (y - x)) := by grind
    rw [e]
    have h1 := aR_add ((evP a y - evP a x - evP (derP a) x * (y - x)) * y) (evP (derP a) x * ((y - x) * (y - x)))
    rw [aR_mul, aR_mul, aR_mul (y - x)] at h1
    have nn := Rat.mul_nonneg (aR_nonneg (y - x)) (aR_nonneg (y - x))
    have h2 := mulR_le (aR_nonneg (evP a y - evP a x - evP (derP a) x * (y - x))) hM (h x y hx hy) hy
    have h3 := mulR_le (aR_nonneg (evP (derP a) x)) nn (g x hx) (show aR (y - x) * aR (y - x) ≤ aR (y - x) * aR (y - x) by grind)
    grind
/-! ### signs and their changes -/
def sgQ (x : Rat) : Int := if 0 < x then 1 else if x < 0 then -1 else 0
theorem sgQ_pos {x : Rat} (h : 0 < x) : sgQ x = 1 := if_pos h
theorem sgQ_neg {x : Rat} (h : x < 0) : sgQ x = -1 := by unfold sgQ; rw [if_neg (by grind), if_pos h]
theorem sgQ_zero : sgQ 0 = 0 := by decide
theorem sgQ_cases (x : Rat) : (0 < x ∧ sgQ x = 1) ∨ (x < 0 ∧ sgQ x = -1) ∨ (x = 0 ∧ sgQ x = 0) := by
  by_cases h : 0 < x
  · exact .inl ⟨h, sgQ_pos h⟩
  · by_cases h2 : x < 0
    · exact .inr (.inl ⟨h2, sgQ_neg h2⟩)
    · have : x = 0 := by grind
      subst this
      exact .inr (.inr ⟨rfl, sgQ_zero⟩)
/-- changes behind a sign that is no 0 -/
def chg : Int → List Int → Nat
  | _, [] => 0
  | p, z :: l => if z = 0 then chg p l else (if z = p then 0 else 1) + chg z l
/-- changes, zeros left out -/
def chg0 : List Int → Nat
  | [] => 0
  | z :: l => if z = 0 then chg0 l else chg z l
theorem chg_skip {p z : Int} {l : List Int} (hp : p = 1 ∨ p = -1) (hz : z = 1 ∨ z = -1 ∨ z = 0) : chg p (z :: -p :: l) = 1 + chg (-p) l := by
  rcases hp with rfl | rfl <;> rcases hz with rfl | rfl | rfl <;> simp [chg]
theorem chg0_of {p : Int} {l : List Int} (hp : p ≠ 0) : chg0 (p :: l) = chg p l := if_neg hp
/-! ### chains -/
inductive SCh : List (List Int) → Prop
  | one (a : List Int) (c : Int) (hc : c ≠ 0) (h : ∀ x, evP a x = (c : Rat)) : SCh [a]
  | two (a b : List Int) (h : SCh [b]) : SCh [a, b]
  | step (a b c : List Int) (l : List (List Int)) (α β : Int) (q : List Int) (hα : 0 < α) (hβ : 0 < β) (e : ∀ x, (α : Rat) * evP a x = evP q x * evP b x - (β : Rat) * evP c x) (h : SCh (b :: c :: l)) : SCh (a :: b :: c :: l)
theorem intR_pos {c : Int} (h : 0 < c) : (0 : Rat) < (c : Rat) := by exact_mod_cast h
theorem sch_cop {cs : List (List Int)} (h : SCh cs) : ∀ a b l, cs = a :: b :: l → Cop a b := by
  induction h with
  | one a c hc h => intro a b l e; cases e
  | two a b h =>
    intro a' b' l e
    cases e
    cases h with
    | one _ c hc h => exact cop_of (u := []) (v := [1]) (c := c) hc fun x => by rw [evNil, evOne, h]; have : ((1 : Int) : Rat) = 1 := rfl; rw [this]; grind
  | step a b c l α β q hα hβ e h ih =>
    intro a' b' l' e'
    cases e'
    obtain ⟨u, v, k, hk, hb⟩ := ih b c l rfl
    refine cop_of (u := scaleP v (-α)) (v := addP (scaleP u β) (mulP v q)) (c := β * k) (Int.mul_ne_zero (by omega) (by omega)) fun x => ?_
    have h1 := hb x
    have h2 := e x
    rw [ev_scale, evP_add, ev_scale, evP_mul, Rat.intCast_mul, Rat.intCast_neg]
    have : (β : Rat) * (k : Rat) = (β : Rat) * (evP u x * evP b x + evP v x * evP c x) := by rw [h1]
    rw [this]
    grind
/-- the values at a number, with a gap -/
def Good (η : Rat) : List Rat → Prop
  | [] => True
  | [a] => η < aR a
  | a :: b :: l => ¬ (aR a ≤ η ∧ aR b ≤ η) ∧ (∀ c l', l = c :: l' → aR b ≤ η → a * c < 0) ∧ Good η (b :: l)
theorem Good.mono {η η' : Rat} (hh : η' ≤ η) : ∀ {l : List Rat}, Good η l → Good η' l
  | [], _ => trivial
  | [a], h => by
    have h : η < aR a := h
    show η' < aR a
    grind
  | a :: b :: l, h => by
    obtain ⟨h1, h2, h3⟩ := h
    exact ⟨fun ⟨g1, g2⟩ => h1 ⟨by grind, by grind⟩, fun c l' e hb => h2 c l' e (by grind), Good.mono hh h3⟩
theorem cop_gap {M : Rat} (hM : 0 ≤ M) {a b : List Int} (h : Cop a b) : ∃ η : Rat, 0 < η ∧ ∀ x, aR x ≤ M → ¬ (aR (evP a x) ≤ η ∧ aR (evP b x) ≤ η) := by
  obtain ⟨u, v, k, hk, hb⟩ := h
  obtain ⟨U, u0, hu⟩ := ev_bd hM u
  obtain ⟨V, v0, hv⟩ := ev_bd hM v
  have kp := intR_pos hk
  obtain ⟨T, hT⟩ : ∃ T, T = U + V + 1 := ⟨_, rfl⟩
  have tp : 0 < T := by grind
  have half := divR_pos kp tp
  refine ⟨(k : Rat) / T / 2, by grind, fun x hx ⟨g1, g2⟩ => ?_⟩
  have e := hb x
  have h1 := aR_add (evP u x * evP a x) (evP v x * evP b x)
  rw [e, aR_mul, aR_mul] at h1
  have h6 := divR_mul (x := (k : Rat)) tp
  generalize (k : Rat) / T = m at *
  have h2 := mulR_le (aR_nonneg (evP u x)) (show 0 ≤ m / 2 by grind) (hu x hx) g1
  have h3 := mulR_le (aR_nonneg (evP v x)) (show 0 ≤ m / 2 by grind) (hv x hx) g2
  have h4 := aR_hi (k : Rat)
  clear hu hv hb e g1 g2 hx
  subst hT
  grind
theorem sch_gap {M : Rat} (hM : 0 ≤ M) {cs : List (List Int)} (h : SCh cs) : ∃ η : Rat, 0 < η ∧ ∀ x, aR x ≤ M → Good η (cs.map (evP · x)) := by
  induction h with
  | one a c hc h =>
    have : (0 : Rat) < aR (c : Rat) := by
      have h1 := aR_nonneg (c : Rat)
      have h2 : aR (c : Rat) ≠ 0 := fun z => by
        have := aR_zero z
        exact int_ne hc this
      grind
    refine ⟨aR (c : Rat) / 2, by grind, fun x _ => ?_⟩
    show aR (c : Rat) / 2 < aR (evP a x)
    rw [h]; grind
  | two a b h ih =>
    obtain ⟨η, h0, hg⟩ := ih
    obtain ⟨η1, h1, hc⟩ := cop_gap hM (sch_cop (SCh.two a b h) a b [] rfl)
    obtain ⟨m, m1, m2, m3⟩ : ∃ m : Rat, 0 < m ∧ m ≤ η ∧ m ≤ η1 := by
      by_cases z : η ≤ η1
      · exact ⟨η, h0, by grind, z⟩
      · exact ⟨η1, h1, by grind, by grind⟩
    refine ⟨m, m1, fun x hx => ⟨fun ⟨g1, g2⟩ => hc x hx ⟨by grind, by grind⟩, fun c l' e => by simp at e, ?_⟩⟩
    exact Good.mono m2 (hg x hx)
  | step a b c l α β q hα hβ e h ih =>
    obtain ⟨η, h0, hg⟩ := ih
    obtain ⟨η1, h1, hc⟩ := cop_gap hM (sch_cop (SCh.step a b c l α β q hα hβ e h) a b (c :: l) rfl)
    obtain ⟨Q, q0, hq⟩ := ev_bd hM q
    have ap := intR_pos hα
    have bp := intR_pos hβ
    have pp := Rat.mul_pos ap h1
    obtain ⟨ζ, hζ⟩ : ∃ ζ, ζ = (α : Rat) * η1 / (Q + 1) := ⟨_, rfl⟩
    have z3 : 0 < ζ := by rw [hζ]; exact divR_pos pp (by grind)
    have z4 : ζ * (Q + 1) = (α : Rat) * η1 := by rw [hζ]; exact divR_mul (by grind)
    obtain ⟨m, m1, m2, m3, m4⟩ : ∃ m : Rat, 0 < m ∧ m ≤ η ∧ m ≤ η1 ∧ m < ζ := by
      clear hg hc hq e
      by_cases z : η ≤ η1
      · by_cases y : η < ζ
        · exact ⟨η, h0, by grind, z, y⟩
        · exact ⟨ζ / 2, by grind, by grind, by grind, by grind⟩
      · by_cases y : η1 < ζ
        · exact ⟨η1, h1, by grind, by grind, y⟩
        · exact ⟨ζ / 2, by grind, by grind, by grind, by grind⟩
    refine ⟨m, m1, fun x hx => ⟨fun ⟨g1, g2⟩ => hc x hx ⟨by grind, by grind⟩, fun c' l' e' hb => ?_, Good.mono m2 (hg x hx)⟩⟩
    simp only [List.map_cons, List.cons.injEq] at e'
    obtain ⟨rfl, _⟩ := e'
    have hb' : aR (evP b x) ≤ m := hb
    have na : ¬ aR (evP a x) ≤ η1 := fun g => hc x hx ⟨g, Rat.le_trans hb' m3⟩
    have h2 := mulR_le (aR_nonneg (evP q x)) (show 0 ≤ m by grind) (hq x hx) hb'
    have h4 : aR (evP q x * evP b x) < (α : Rat) * η1 := by
      rw [aR_mul, ← z4]
      have h5 := Rat.mul_nonneg q0 (show 0 ≤ ζ - m by grind)
      clear hg hc hq e hb hb' na
      grind
    exact opp_sign ap bp (e x) h4 (Rat.not_le.mp na)
end W

set_option Elab.async false
set_option linter.all false
set_option maxRecDepth 100000
set_option autoImplicit false
set_option maxHeartbeats 400000
namespace W
open PySem PySem.Spec PyProof.Rows L2 VL
/-! ### pieces of the line -/
def KS (f : List Int) (s t : Rat) : Prop := (∀ x, s ≤ x → x ≤ t → 0 < evP f x) ∨ (∀ x, s ≤ x → x ≤ t → evP f x < 0)
theorem small_of_mix {f : List Int} {s t M L η ε : Rat} (hL : ∀ x y, aR x ≤ M → aR y ≤ M → aR (evP f x - evP f y) ≤ L * aR (x - y)) (l0 : 0 ≤ L) (hs : -M ≤ s) (ht : t ≤ M) (hst : t - s ≤ ε) (he : L * ε ≤ η) (h : ¬ KS f s t) (x : Rat) (h1 : s ≤ x) (h2 : x ≤ t) : aR (evP f x) ≤ η := by
  have near : ∀ u, s ≤ u → u ≤ t → aR (evP f x - evP f u) ≤ η := fun u g1 g2 => by
    have a := hL x u (aR_le (by grind) (by grind)) (aR_le (by grind) (by grind))
    have b : aR (x - u) ≤ ε := aR_le (by grind) (by grind)
    have c := Rat.mul_nonneg l0 (show 0 ≤ ε - aR (x - u) by grind)
    clear hL h
    grind
  obtain ⟨u, u1, u2, u3⟩ : ∃ u, s ≤ u ∧ u ≤ t ∧ evP f u ≤ 0 := by
    apply Classical.byContradiction
    intro g
    exact h (.inl fun y y1 y2 => Rat.not_le.mp fun z => g ⟨y, y1, y2, z⟩)
  obtain ⟨v, v1, v2, v3⟩ : ∃ u, s ≤ u ∧ u ≤ t ∧ 0 ≤ evP f u := by
    apply Classical.byContradiction
    intro g
    exact h (.inr fun y y1 y2 => Rat.not_le.mp fun z => g ⟨y, y1, y2, z⟩)
  have nu := near u u1 u2
  have nv := near v v1 v2
  clear near h hL
  have a1 := aR_hi (evP f x - evP f u)
  have a2 := aR_lo (evP f x - evP f v)
  generalize evP f x = X at *
  generalize evP f u = U at *
  generalize evP f v = V at *
  exact aR_le (by grind) (by grind)
def sgV (cs : List (List Int)) (x : Rat) : List Int := cs.map fun f => sgQ (evP f x)
theorem KS.sg {f : List Int} {s t : Rat} (h : KS f s t) : ∃ p : Int, (p = 1 ∨ p = -1) ∧ ∀ x, s ≤ x → x ≤ t → sgQ (evP f x) = p := by
  rcases h with h | h
  · exact ⟨1, .inl rfl, fun x a b => sgQ_pos (h x a b)⟩
  · exact ⟨-1, .inr rfl, fun x a b => sgQ_neg (h x a b)⟩
theorem sgQ_tri (x : Rat) : sgQ x = 1 ∨ sgQ x = -1 ∨ sgQ x = 0 := by
  rcases sgQ_cases x with ⟨_, h⟩ | ⟨_, h⟩ | ⟨_, h⟩
  · exact .inl h
  · exact .inr (.inl h)
  · exact .inr (.inr h)
theorem opp_KS {a c : List Int} {s t : Rat} (ha : KS a s t) (h : ∀ x, s ≤ x → x ≤ t → evP a x * evP c x < 0) : KS c s t ∧ ∀ x, s ≤ x → x ≤ t → sgQ (evP c x) = -sgQ (evP a x) := by
  rcases ha with ha | ha
  · have k : ∀ x, s ≤ x → x ≤ t → evP c x < 0 := fun x h1 h2 => by
      have p := ha x h1 h2
      have q := h x h1 h2
      have : 0 < -evP c x := pos_of_mul p (by grind)
      grind
    exact ⟨.inr k, fun x h1 h2 => by rw [sgQ_pos (ha x h1 h2), sgQ_neg (k x h1 h2)]⟩
  · have k : ∀ x, s ≤ x → x ≤ t → 0 < evP c x := fun x h1 h2 => by
      have p := ha x h1 h2
      have q := h x h1 h2
      exact pos_of_mul (show 0 < -evP a x by grind) (by grind)
    exact ⟨.inl k, fun x h1 h2 => by rw [sgQ_neg (ha x h1 h2), sgQ_pos (k x h1 h2)]; rfl⟩
theorem V_eq {s t η : Rat} (hst : s ≤ t) : ∀ (n : Nat) (cs : List (List Int)), cs.length ≤ n → (∀ f ∈ cs, ¬ KS f s t → ∀ x, s ≤ x → x ≤ t → aR (evP f x) ≤ η) → (∀ x, s ≤ x → x ≤ t → Good η (cs.map (evP · x))) → ∀ a l, cs = a :: l → KS a s t → chg0 (sgV cs s) = chg0 (sgV cs t)
  | 0, cs, hn, _, _, a, l, e, _ => by subst e; simp at hn
  | n + 1, cs, hn, hm, hg, a, l, e, ka => by
    subst e
    have ss : s ≤ s := by grind
    have tt : t ≤ t := by grind
    obtain ⟨p, hp, hpx⟩ := ka.sg
    have p0 : p ≠ 0 := by rcases hp with rfl | rfl <;> decide
    match l, hn, hm, hg with
    | [], hn, hm, hg =>
      show chg0 [sgQ (evP a s)] = chg0 [sgQ (evP a t)]
      rw [hpx s ss hst, hpx t hst tt]
    | b :: l, hn, hm, hg =>
      by_cases kb : KS b s t
      · have ih := V_eq hst n (b :: l) (by simp at hn ⊢; omega) (fun f hf => hm f (by simp [List.mem_cons.mp hf])) (fun x h1 h2 => (hg x h1 h2).2.2) b l rfl kb
        obtain ⟨q, hq, hqx⟩ := kb.sg
        have q0 : q ≠ 0 := by rcases hq with rfl | rfl <;> decide
        show chg0 (sgQ (evP a s) :: sgQ (evP b s) :: sgV l s) = chg0 (sgQ (evP a t) :: sgQ (evP b t) :: sgV l t)
        have ih' : chg0 (sgQ (evP b s) :: sgV l s) = chg0 (sgQ (evP b t) :: sgV l t) := ih
        rw [hqx s ss hst, hqx t hst tt] at ih' ⊢
        rw [hpx s ss hst, hpx t hst tt]
        rw [chg0_of q0, chg0_of q0] at ih'
        rw [chg0_of p0, chg0_of p0, chg, chg, if_neg q0, if_neg q0, ih']
      · have sm := hm b (by simp) kb
        match l, hn, hm, hg with
        | [], hn, hm, hg =>
          have g : η < aR (evP b s) := (hg s ss hst).2.2
          exact (Rat.not_le.mpr g (sm s ss hst)).elim
        | c :: l, hn, hm, hg =>
          obtain ⟨kc, oc⟩ := opp_KS (c := c) ka fun x h1 h2 => (hg x h1 h2).2.1 _ _ rfl (sm x h1 h2)
          have ih := V_eq hst n (c :: l) (by simp at hn ⊢; omega) (fun f hf => hm f (by simp [List.mem_cons.mp hf])) (fun x h1 h2 => (hg x h1 h2).2.2.2.2) c l rfl kc
          have ih' : chg0 (sgQ (evP c s) :: sgV l s) = chg0 (sgQ (evP c t) :: sgV l t) := ih
          show chg0 (sgQ (evP a s) :: sgQ (evP b s) :: sgQ (evP c s) :: sgV l s) = chg0 (sgQ (evP a t) :: sgQ (evP b t) :: sgQ (evP c t) :: sgV l t)
          have n0 : -p ≠ 0 := by omega
          rw [oc s ss hst, oc t hst tt] at ih' ⊢
          rw [hpx s ss hst, hpx t hst tt] at ih' ⊢
          rw [chg0_of n0, chg0_of n0] at ih'
          rw [chg0_of p0, chg0_of p0, chg_skip hp (sgQ_tri _), chg_skip hp (sgQ_tri _), ih']
def Jp (a : Rat) (σ : Int) : Nat := if sgQ a = -σ then 1 else 0
theorem chg_J {a : Rat} {σ : Int} {l : List Int} (hσ : σ = 1 ∨ σ = -1) : chg0 (sgQ a :: σ :: l) = Jp a σ + chg σ l := by
  unfold Jp
  rcases sgQ_tri a with h | h | h <;> rcases hσ with rfl | rfl <;> simp [h, chg0, chg]
theorem mono_step {a x y m C d : Rat} {D : Rat} (hd : 0 < d) (h1 : aR (D - a * d) ≤ C * (d * d)) (ha : m < a) (hc : C * d < m) : 0 < D := by
  have lo := aR_lo (D - a * d)
  have e := Rat.mul_pos hd (show 0 < a - C * d by grind)
  grind
inductive Piece (c0 : List Int) (cs : List (List Int)) (s t : Rat) : Prop
  | same (k : KS c0 s t) (e : chg0 (sgV cs s) = chg0 (sgV cs t)) : Piece c0 cs s t
  | jump (σ : Int) (w : Nat) (hσ : σ = 1 ∨ σ = -1) (m : ∀ x y, s ≤ x → x < y → y ≤ t → 0 < (σ : Rat) * (evP c0 y - evP c0 x)) (e1 : chg0 (sgV cs s) = Jp (evP c0 s) σ + w) (e2 : chg0 (sgV cs t) = Jp (evP c0 t) σ + w) : Piece c0 cs s t
theorem lips {M : Rat} (hM : 0 ≤ M) : ∀ cs : List (List Int), ∃ L : Rat, 0 < L ∧ ∀ f ∈ cs, ∀ x y, aR x ≤ M → aR y ≤ M → aR (evP f x - evP f y) ≤ L * aR (x - y)
  | [] => ⟨1, by decide, fun f hf => by simp at hf⟩
  | f :: cs => by
    obtain ⟨L, l0, h⟩ := lips hM cs
    obtain ⟨L1, l1, h1⟩ := ev_lip hM f
    refine ⟨L + L1, by grind, fun g hg x y hx hy => ?_⟩
    have n := aR_nonneg (x - y)
    rcases List.mem_cons.mp hg with rfl | hg
    · have a := h1 x y hx hy
      have b := Rat.mul_nonneg (show 0 ≤ L by grind) n
      clear h h1
      grind
    · have a := h g hg x y hx hy
      have b := Rat.mul_nonneg l1 n
      clear h h1
      grind
theorem pieces {c0 c1 : List Int} {l : List (List Int)} {μ M : Rat} (h : SCh (c0 :: c1 :: l)) (hμ : 0 < μ) (hd : ∀ x, evP (derP c0) x = μ * evP c1 x) (hM : 0 ≤ M) :
    ∃ ε : Rat, 0 < ε ∧ ∀ s t, -M ≤ s → s < t → t ≤ M → t - s ≤ ε → Piece c0 (c0 :: c1 :: l) s t := by
  obtain ⟨η, η0, hg⟩ := sch_gap hM h
  obtain ⟨L, l0, hL⟩ := lips hM (c0 :: c1 :: l)
  obtain ⟨C, k0, hC⟩ := ev_tay hM c0
  have m0 : 0 < μ * η := Rat.mul_pos hμ η0
  obtain ⟨ε, e0, e1, e2⟩ : ∃ ε : Rat, 0 < ε ∧ L * ε ≤ η ∧ C * ε < μ * η := by
    have a := divR_pos η0 l0
    have b := divR_pos m0 (show 0 < C + 1 by grind)
    have a' := divR_mul (x := η) l0
    have b' := divR_mul (x := μ * η) (show 0 < C + 1 by grind)
    clear hg hL hC hd
    generalize η / L = u at *
    generalize μ * η / (C + 1) = v at *
    by_cases z : u ≤ v
    · refine ⟨u, a, by grind, ?_⟩
      have := Rat.mul_nonneg k0 (show 0 ≤ v - u by grind)
      grind
    · refine ⟨v, b, ?_, by grind⟩
      have := Rat.mul_nonneg (show 0 ≤ L by grind) (show 0 ≤ u - v by grind)
      grind
  refine ⟨ε, e0, fun s t hs hst ht hε => ?_⟩
  have ss : s ≤ s := by grind
  have tt : t ≤ t := by grind
  have st : s ≤ t := by grind
  have inM : ∀ x, s ≤ x → x ≤ t → aR x ≤ M := fun x a b => aR_le (by grind) (by grind)
  have mix : ∀ f ∈ c0 :: c1 :: l, ¬ KS f s t → ∀ x, s ≤ x → x ≤ t → aR (evP f x) ≤ η := fun f hf hk x a b => small_of_mix (hL f hf) (by grind) hs ht hε e1 hk x a b
  have gd : ∀ x, s ≤ x → x ≤ t → Good η ((c0 :: c1 :: l).map (evP · x)) := fun x a b => hg x (inM x a b)
  by_cases ka : KS c0 s t
  · exact .same ka (V_eq st _ _ (Nat.le_refl _) mix gd c0 (c1 :: l) rfl ka)
  · have sm := mix c0 (by simp) ka
    have big : ∀ x, s ≤ x → x ≤ t → η < aR (evP c1 x) := fun x a b => Rat.not_le.mp fun g => (gd x a b).1 ⟨sm x a b, g⟩
    have kb : KS c1 s t := by
      apply Classical.byContradiction
      intro g
      exact Rat.not_le.mpr (big s ss st) (mix c1 (by simp) g s ss st)
    have ve := V_eq st _ (c1 :: l) (Nat.le_refl _) (fun f hf => mix f (by simp [List.mem_cons.mp hf])) (fun x a b => (gd x a b).2.2) c1 l rfl kb
    obtain ⟨σ, hσ, hσx⟩ := kb.sg
    have σ0 : σ ≠ 0 := by rcases hσ with rfl | rfl <;> decide
    have ve' : chg0 (sgQ (evP c1 s) :: sgV l s) = chg0 (sgQ (evP c1 t) :: sgV l t) := ve
    rw [hσx s ss st, hσx t st tt, chg0_of σ0, chg0_of σ0] at ve'
    refine .jump σ (chg σ (sgV l s)) hσ (fun x y hx hxy hy => ?_) ?_ ?_
    · have ty := hC x y (inM x hx (by grind)) (inM y (by grind) hy)
      have dd : 0 < y - x := by grind
      have ab : aR (y - x) = y - x := by unfold aR; rw [if_neg (by grind)]
      have dx : y - x ≤ ε := by grind
      have cd : C * (y - x) < μ * η := by
        have := Rat.mul_nonneg k0 (show 0 ≤ ε - (y - x) by grind)
        clear hg hL hC hd mix gd big sm inM hσx
        grind
      rw [ab, hd] at ty
      have bx := big x hx (by grind)
      rcases kb with kb | kb
      · have p := kb x hx (by grind)
        have e : σ = 1 := by rw [← hσx s ss st]; exact sgQ_pos (kb s ss st)
        have ea : aR (evP c1 x) = evP c1 x := by unfold aR; rw [if_neg (by grind)]
        rw [ea] at bx
        have am := Rat.mul_pos hμ (show 0 < evP c1 x - η by grind)
        have := mono_step (x := x) (y := y) (m := μ * η) dd ty (by grind) cd
        subst e
        have o : ((1 : Int) : Rat) = 1 := rfl
        rw [o]; grind
      · have p := kb x hx (by grind)
        have e : σ = -1 := by rw [← hσx s ss st]; exact sgQ_neg (kb s ss st)
        have ea : aR (evP c1 x) = -evP c1 x := by unfold aR; rw [if_pos p]
        rw [ea] at bx
        have am := Rat.mul_pos hμ (show 0 < -evP c1 x - η by grind)
        have ty' : aR (-(evP c0 y - evP c0 x) - -(μ * evP c1 x) * (y - x)) ≤ C * ((y - x) * (y - x)) := by
          rw [← aR_neg]
          have : -(-(evP c0 y - evP c0 x) - -(μ * evP c1 x) * (y - x)) = evP c0 y - evP c0 x - μ * evP c1 x * (y - x) := by grind
          rw [this]; exact ty
        have := mono_step (x := x) (y := y) (m := μ * η) dd ty' (by grind) cd
        subst e
        have o : ((-1 : Int) : Rat) = -1 := rfl
        rw [o]; grind
    · show chg0 (sgQ (evP c0 s) :: sgQ (evP c1 s) :: sgV l s) = _
      rw [hσx s ss st]; exact chg_J hσ
    · show chg0 (sgQ (evP c0 t) :: sgQ (evP c1 t) :: sgV l t) = _
      rw [hσx t st tt, chg_J hσ, ve']
end W

set_option Elab.async false
set_option linter.all false
set_option maxRecDepth 100000
set_option autoImplicit false
set_option maxHeartbeats 400000
namespace W
open PySem PySem.Spec PyProof.Rows L2 VL
/-! ### the whole line -/
/-! ### far away -/
theorem sgQ_I (r : Rat) : sgQ r = sgI r.num := by
  obtain ⟨h1, h2, h3⟩ := sgI_iff r
  rcases sgQ_cases r with ⟨h, e⟩ | ⟨h, e⟩ | ⟨h, e⟩
  · rw [e, h2.mpr h]
  · rw [e, h3.mpr h]
  · rw [e, h1.mpr h]
end W

set_option Elab.async false
set_option linter.all false
set_option maxRecDepth 100000
set_option autoImplicit false
namespace W
open PySem PySem.Spec PyProof.Rows L2 VL
/-! ### where known roots lie -/
theorem sign_of_ok (n : Int) : m_sign_of [.int n] = .ok (.sh (.int (sgI n))) := by simp [m_sign_of, c_sign_of, sgI]
/-! known roots lie within the bound -/
def FLsh (f : List Int) : Prop := match f with
  | [_, e] => 0 < e
  | [_, _, c] => 0 < c
  | [_, b, c, e] => b = 0 ∧ c = 0 ∧ e = 1
  | _ => False
instance (f : List Int) : Decidable (FLsh f) := by unfold FLsh; split <;> infer_instance
theorem FL_sh : ∀ f ∈ FL, FLsh f := by
  have h : FL.all (fun f => decide (FLsh f)) = true := by decide +kernel
  rw [List.all_eq_true] at h
  exact fun f hf => of_decide_eq_true (h f hf)
theorem is_wholek_ok (v : Int) : m__law_is_whole [.int v] = .ok (.sh (.bool true)) := by simp [m__law_is_whole, c__law_is_whole]
end W

set_option Elab.async false
set_option linter.all false
set_option maxRecDepth 100000
set_option autoImplicit false
set_option maxHeartbeats 400000
namespace W
open PySem PySem.Spec PyProof.Rows L2 VL
/-! ### roots, told by how they stand to numbers -/
structure IsRoot (r : Rat → Int) : Prop where
  tri : ∀ x, r x = 1 ∨ r x = -1 ∨ r x = 0
  dn : ∀ x y, x < y → r x ≤ 0 → r y = -1
theorem IsRoot.up {r : Rat → Int} (h : IsRoot r) {x y : Rat} (hxy : x < y) (hy : 0 ≤ r y) : r x = 1 := by
  rcases h.tri x with e | e | e
  · exact e
  · have := h.dn x y hxy (by omega); omega
  · have := h.dn x y hxy (by omega); omega
def prR (R : List (Rat → Int)) (x : Rat) : Int := R.foldr (fun r p => -(r x) * p) 1
end W

set_option Elab.async false
set_option linter.all false
set_option maxRecDepth 100000
set_option autoImplicit false
set_option maxHeartbeats 400000
namespace W
open PySem PySem.Spec PyProof.Rows L2 VL
/-! ### the roots of the known factors -/
def rLin (c e : Int) : Rat → Int := fun x => sgQ (-(c : Rat) - (e : Rat) * x)
def rCub (a : Int) : Rat → Int := fun x => sgQ (-(a : Rat) - x * x * x)
def rLow (a c : Int) : Rat → Int := fun x => if x < 0 then -sgQ (-(a : Rat) - (c : Rat) * (x * x)) else -1
def rUp (a c : Int) : Rat → Int := fun x => if 0 < x then sgQ (-(a : Rat) - (c : Rat) * (x * x)) else 1
def RL (f : List Int) : List (Rat → Int) := match f with
  | [c, e] => [rLin c e]
  | [a, _, _, _] => [rCub a]
  | [a, b, c] => if b ≠ 0 ∨ 0 < a then [] else [rLow a c, rUp a c]
  | _ => []
/-- a quadratic without roots is above 0 -/
def FLq (f : List Int) : Prop := match f with
  | [a, b, c] => if b ≠ 0 ∨ 0 < a then (0 < a ∧ 0 < c ∧ b * b < 4 * a * c) else a < 0
  | _ => True
instance (f : List Int) : Decidable (FLq f) := by unfold FLq; split <;> infer_instance
end W

set_option Elab.async false
set_option linter.all false
set_option maxRecDepth 100000
set_option autoImplicit false
set_option maxHeartbeats 400000
namespace W
open PySem PySem.Spec PyProof.Rows L2 VL
/-! ### the law's signs of roots, and where roots lie -/
def RS (fs : List (List Int)) : List (Rat → Int) := fs.flatMap RL
end W

set_option Elab.async false
set_option linter.all false
set_option maxRecDepth 100000
set_option autoImplicit false
set_option maxHeartbeats 400000
namespace W
open PySem PySem.Spec PyProof.Rows L2 VL
/-! ### counting -/
section
variable {fs : List (List Int)}
variable {c0 c1 : List Int} {l : List (List Int)} {μ : Rat} {K : Int}
end
end W

set_option Elab.async false
set_option linter.all false
set_option maxRecDepth 100000
set_option autoImplicit false
namespace W
open PySem PySem.Spec PyProof.Rows L2 VL
theorem draws_p (ns : List Int) (hn : ns.length ≤ 63) (hb : ∀ z ∈ ns, Builtin.Int.intBits z ≤ 1048576) (z : Int) (c : Nat) (hz : z = c) (hc : c ≤ 100000) : ∃ xs : List Int, m__law_draws [pD ns, .int z] = .ok (.ow (xs.map .int)) ∧ IsDraws c xs := draws_ok ns hn hb z c hz hc
theorem cut_p {c : Nat} {xs : List Int} (h : IsDraws c xs) {a b : Int} (m : Nat) (h0 : 0 ≤ a) (h1 : b ≤ c) (h2 : b = a + m) : ∃ ys, cutI xs (some a) (some b) = ys ∧ IsDraws m ys := by
  have q := h.sub a.toNat b.toNat (by omega) (by omega)
  rw [show b.toNat - a.toNat = m by omega] at q
  refine ⟨_, ?_, q⟩
  unfold cutI
  rw [h.len, sIx_in h0 (by omega), sIx_in (by omega) h1, show b.toNat - a.toNat = m by omega]
end W

set_option Elab.async false
set_option linter.all false
set_option maxRecDepth 100000
set_option autoImplicit false
namespace VL
open PySem PySem.Spec PyProof.Rows L2

def eStr {γ : Type} (F : Str → D → Option γ) (f g : Ev → R D) : Ev → R γ := fun ρ => (f ρ).bind fun x => match x with
  | .str a => (g ρ).bind fun y => ofO (F a y)
  | _ => .bad
section
variable {X : Cx} {W : WX} {o e : Expr} {apos pos : Pos} {f g : Ev → R D}
end
@[simp] theorem r_eStrE {γ : Type} (F : Str → D → Option γ) (f g : Ev → R D) (ρ : Ev) {a : Str} {y : D} (h1 : f ρ = .ok (.str a)) (h2 : g ρ = .ok y) : eStr F f g ρ = ofO (F a y) := by
  unfold eStr; rw [h1]; show (g ρ).bind _ = _; rw [h2]; rfl
end VL

set_option Elab.async false
set_option linter.all false
set_option maxRecDepth 100000
set_option autoImplicit false
namespace VL
open PySem PySem.Spec PyProof.Rows L2

/-! ### comprehensions of two clauses -/
def compF (f : D → R (List D)) : List D → R (List D)
  | [] => .ok []
  | d :: ds => (f d).bind fun a => (compF f ds).bind fun r => .ok (a ++ r)
def compI (vs : List Nat) (g : D → Ev → Option Ev) (ft : Ev → R Bool) (vs1 : List Nat) (fi1 : Ev → R (List D)) (g1 : D → Ev → Option Ev) (ft1 : Ev → R Bool) (fe : Ev → R D) (ρ : Ev) : D → R (List D) := fun d => match g d (wipeE ρ vs) with
  | some ρ' => (noex (ft ρ')).bind fun b => if b then (noex (fi1 ρ')).bind fun l1 => compR (compS vs1 g1 ft1 fe ρ') l1 else .ok []
  | none => .bad
def eComp2 (vs : List Nat) (fi : Ev → R (List D)) (g : D → Ev → Option Ev) (ft : Ev → R Bool) (vs1 : List Nat) (fi1 : Ev → R (List D)) (g1 : D → Ev → Option Ev) (ft1 : Ev → R Bool) (fe : Ev → R D) : Ev → R (List D) := fun ρ =>
  (fi ρ).bind fun l => (noex (compF (compI vs g ft vs1 fi1 g1 ft1 fe ρ) l)).bind fun r => if r.length ≤ sizeLine then .ok r else .bad
section
variable {X : Cx} {W : WX} {elt tg iter tg1 iter1 : Expr} {ifs ifs1 : List Expr} {scope : Scope} {own : List (Str × Nat)} {pos : Pos} {ts ts1 vs1 : List Nat} {fi fi1 : Ev → R (List D)} {g g1 : D → Ev → Option Ev} {ft ft1 : Ev → R Bool} {fe : Ev → R D}
end
@[simp] theorem r_eComp2 (vs : List Nat) (fi : Ev → R (List D)) (g : D → Ev → Option Ev) (ft : Ev → R Bool) (vs1 : List Nat) (fi1 : Ev → R (List D)) (g1 : D → Ev → Option Ev) (ft1 : Ev → R Bool) (fe : Ev → R D) (ρ : Ev) : eComp2 vs fi g ft vs1 fi1 g1 ft1 fe ρ = (fi ρ).bind fun l => (noex (compF (compI vs g ft vs1 fi1 g1 ft1 fe ρ) l)).bind fun r => if r.length ≤ sizeLine then .ok r else .bad := id rfl
end VL

set_option Elab.async false
set_option linter.all false
set_option maxRecDepth 100000
set_option autoImplicit false
namespace VL
open PySem PySem.Spec PyProof.Rows L2

/-! ### defs whose first two parameters are lists that are lent -/
inductive RC where
  | ok (r : SD) (l l2 : List D)
  | bad
def startC (n : Nat) (l l2 : List D) (ds : List D) : Ev := .bo l :: .bo l2 :: (ds.map .sh ++ List.replicate (n - 2 - ds.length) .no)
def finC : Out → RC
  | .rtB r ρ => match (ρ[0]? : Option SD), (ρ[1]? : Option SD) with
    | some (.bo l), some (.bo l2) => .ok r l l2
    | _, _ => .bad
  | .nx ρ => match (ρ[0]? : Option SD), (ρ[1]? : Option SD) with
    | some (.bo l), some (.bo l2) => .ok (.sh .none) l l2
    | _, _ => .bad
  | _ => .bad
def runC (np n : Nat) (F : Ev → Out) : List D → List D → List D → RC := fun l l2 ds => if ds.length + 2 = np then finC (F (startC n l l2 ds)) else .bad
def spC (K : Fg) (n : Nat) (m : List D → List D → List D → RC) : Sp := fun vs H Q _ => vs.length = n ∧ ∃ Hs l us p l2 us2 q ds vs', vs = .ref p :: .ref q :: vs' ∧ p ≠ q ∧ Same Hs H ∧ Hs p = none ∧ H p = some (.lst us) ∧ RpL K Hs l us ∧ Hs q = none ∧ H q = some (.lst us2) ∧ RpL K Hs l2 us2 ∧ RpL K Hs ds vs' ∧ (match m l l2 ds with
  | .ok r l' l2' => ∀ Hs' H' v us' us2', Same Hs Hs' → Same Hs' H' → (∀ a o, a ≠ p → a ≠ q → H a = some o → H' a = some o) → (∀ a o, Hs' a = some o → Hs a = none → H a = none) → Hs' p = none → H' p = some (.lst us') → RpL K Hs' l' us' → Hs' q = none → H' q = some (.lst us2') → RpL K Hs' l2' us2' → RpO K H Hs' H' r v → Q v H'
  | .bad => False)
section
variable {P : Program} {w : World} {K : Fg} {mg : Str → Option Value} {base : Heap}
structure COk (P : Program) (w : World) (K : Fg) (mg : Str → Option Value) (base : Heap) (k : Nat) (f : Addr) (fd : FuncData) (ps : List Str) (m : List D → List D → List D → RC) : Prop where
  fn : FnG P w K mg base k f fd ps (spC K ps.length m)
  ar : ∀ l l2 ds, m l l2 ds ≠ .bad → ds.length + 2 = ps.length
structure ClC (P : Program) (w : World) (K : Fg) (mg : Str → Option Value) (base : Heap) (k : Nat) (x : Str) (ps : List Str) (m : List D → List D → List D → RC) : Prop where
  ex : ∃ f fd, COk P w K mg base k f fd ps m ∧ mg x = some (.ref f) ∧ PySem.W.keepIn K (.ref f) = true ∧ Binds K fd ps []
end
/-! calls -/
def xCallC (m : List D → List D → List D → RC) (i j : Nat) (f : Ev → RX (List D)) : Ev → RX D := fun ρ => match lstAt ρ i, lstAt ρ j with
  | some _, some _ => (f ρ).bind fun ds ρ => match lstAt ρ i, lstAt ρ j with
    | some (l, k), some (l2, k2) => match m l l2 ds with
      | .ok r l' l2' => ofX (toD r) ((ρ.set i (mkL k l')).set j (mkL k2 l2'))
      | .bad => .bad
    | _, _ => .bad
  | _, _ => .bad
section
variable {X : Cx} {W : WX} {es : List Expr} {pos p : Pos} {fl : Ev → RX (List D)} {x : Str}
end
/-! rows -/
@[simp] theorem rx_xCallC (m : List D → List D → List D → RC) (i j : Nat) (f : Ev → RX (List D)) (ρ : Ev) : xCallC m i j f ρ = (match lstAt ρ i, lstAt ρ j with
  | some _, some _ => (f ρ).bind fun ds ρ => match lstAt ρ i, lstAt ρ j with
    | some (l, k), some (l2, k2) => match m l l2 ds with
      | .ok r l' l2' => ofX (toD r) ((ρ.set i (mkL k l')).set j (mkL k2 l2'))
      | .bad => .bad
    | _, _ => .bad
  | _, _ => .bad) := id rfl
@[simp] theorem rx_fin_C (s : SD) (l l2 : List D) (ρ : Ev) : finC (.rtB s (.bo l :: .bo l2 :: ρ)) = .ok s l l2 := id rfl
@[simp] theorem rx_fin_CN (l l2 : List D) (ρ : Ev) : finC (.nx (.bo l :: .bo l2 :: ρ)) = .ok (.sh .none) l l2 := id rfl
@[simp] theorem rx_runC0 (n : Nat) (F : Ev → Out) (l l2 : List D) : runC 2 n F l l2 [] = finC (F (.bo l :: .bo l2 :: List.replicate (n - 2) .no)) := if_pos rfl
@[simp] theorem rx_runC1 (n : Nat) (F : Ev → Out) (l l2 : List D) (a : D) : runC 3 n F l l2 [a] = finC (F (.bo l :: .bo l2 :: .sh a :: List.replicate (n - 2 - 1) .no)) := if_pos rfl
end VL

set_option Elab.async false
set_option linter.all false
set_option maxRecDepth 100000
set_option autoImplicit false
namespace VL
open PySem PySem.Spec PyProof.Rows L2

/-! ### lists that are made for a call alone -/
def eCallCT (m : List D → List D → List D → RC) (f1 f2 fl : Ev → R (List D)) : Ev → R D := fun ρ => (noex (f1 ρ)).bind fun l1 => (noex (f2 ρ)).bind fun l2 => (noex (fl ρ)).bind fun ds => match m l1 l2 ds with
  | .ok r _ _ => ofO (toD r)
  | .bad => .bad
/-- .. the second of two arguments -/
def eCallB1 (m : List D → List D → RB) (f : Ev → R D) (f1 : Ev → R (List D)) : Ev → R D := fun ρ => (noex (f ρ)).bind fun d => (noex (f1 ρ)).bind fun l => match m l [d, .none] with
  | .ok r _ => ofO (toD r)
  | .bad => .bad
section
variable {X : Cx} {W : WX} {e1 e2 e : Expr} {es : List Expr} {pos p : Pos} {f : Ev → R D} {f1 f2 fl : Ev → R (List D)} {x : Str}
end
/-! ### a choice out of a display by a key that changes a list -/
theorem RelE.drop {K : Fg} {S Hs H : Hp} {G : Gx} {σ : Sg} {ρ : Ev} {D : Addr} {o : HO} (r : RelE K S (G.plus D o) Hs H σ ρ) (hg : G.h D = none) : RelE K S G Hs H σ ρ := by
  have hG : ∀ {p : Addr}, (G.plus D o).h p = none → G.h p = none := fun {p} e => by
    have e' : upd G.h D o p = none := e
    by_cases hp : p = D
    · subst hp; rw [upd_same] at e'; cases e'
    · rw [upd_ne hp] at e'; exact e'
  refine ⟨r.sub, fun b u e => ?_, r.ext, fun p u e n => hG (r.new p u e n), r.len, fun i s hi => ?_, fun j p hp => ?_, r.one, r.dis⟩
  · refine r.old b u ?_
    show upd G.h D o b = some u
    rw [upd_ne (ne_of_none e hg)]; exact e
  · have q := r.slot i s hi
    cases s with
    | no => trivial
    | sh d => exact q
    | ow l =>
      obtain ⟨p, vs, e1, e2, e3⟩ := q
      exact ⟨p, vs, e1, hG e2, e3⟩
    | bo l => exact q
  · obtain ⟨h1, h2⟩ := r.bor j p hp
    exact ⟨hG h1, h2⟩
def xDSel (ks : List Str) (fs : Ev → R (List D)) (fk : Ev → RX D) : Ev → RX D := fun ρ => match fs ρ with
  | .ok ds => (fk ρ).bind fun k ρ => ofX (selD ks ds k) ρ
  | _ => .bad
@[simp] theorem rx_dsel (ks : List Str) (fs : Ev → R (List D)) (fk : Ev → RX D) (ρ : Ev) : xDSel ks fs fk ρ = (match fs ρ with
  | .ok ds => (fk ρ).bind fun k ρ => ofX (selD ks ds k) ρ
  | _ => .bad) := id rfl
/-! ### repr, of truths and None as well -/
section
variable {X : Cx}
def reprA : List D → Option D
  | [.bool b] => some (.str (if b then "True" else "False"))
  | [.none] => some (.str "None")
  | ds => reprL ds
end
@[simp] theorem r_reprA_b (b : Bool) : reprA [.bool b] = some (.str (if b then "True" else "False")) := id rfl
@[simp] theorem r_reprA_n : reprA [.none] = some (.str "None") := id rfl
@[simp] theorem r_reprA_t (l : List D) : reprA [.tuple l] = reprL [.tuple l] := id rfl
@[simp] theorem r_reprA_l (l : List D) : reprA [.list l] = reprL [.list l] := id rfl
@[simp] theorem r_callCT (m : List D → List D → List D → RC) (f1 f2 fl : Ev → R (List D)) (ρ : Ev) : eCallCT m f1 f2 fl ρ = (noex (f1 ρ)).bind fun l1 => (noex (f2 ρ)).bind fun l2 => (noex (fl ρ)).bind fun ds => match m l1 l2 ds with
  | .ok r _ _ => ofO (toD r)
  | .bad => .bad := id rfl
@[simp] theorem r_callB1 (m : List D → List D → RB) (f : Ev → R D) (f1 : Ev → R (List D)) (ρ : Ev) : eCallB1 m f f1 ρ = (noex (f ρ)).bind fun d => (noex (f1 ρ)).bind fun l => match m l [d, .none] with
  | .ok r _ => ofO (toD r)
  | .bad => .bad := id rfl
end VL

set_option Elab.async false
set_option linter.all false
set_option maxRecDepth 100000
set_option autoImplicit false
namespace VL
open PySem PySem.Spec PyProof.Rows L2

/-! ### f'{x}' -/
section
variable {X : Cx} {W : WX} {e : Expr} {p1 p2 : Pos} {f : Ev → R D}
end
/-! ### a list that is lent, and one that is made for the call -/
def xCallCM (m : List D → List D → List D → RC) (i : Nat) (f2 fl : Ev → R (List D)) : Ev → RX D := fun ρ => match lstAt ρ i with
  | some (l, k) => match f2 ρ, fl ρ with
    | .ok l2, .ok ds => match m l l2 ds with
      | .ok r l' _ => ofX (toD r) (ρ.set i (mkL k l'))
      | .bad => .bad
    | _, _ => .bad
  | none => .bad
section
variable {X : Cx} {W : WX} {e2 : Expr} {es : List Expr} {pos p : Pos} {f2 fl : Ev → R (List D)} {x : Str}
end
@[simp] theorem rx_callCM (m : List D → List D → List D → RC) (i : Nat) (f2 fl : Ev → R (List D)) (ρ : Ev) : xCallCM m i f2 fl ρ = (match lstAt ρ i with
  | some (l, k) => match f2 ρ, fl ρ with
    | .ok l2, .ok ds => match m l l2 ds with
      | .ok r l' _ => ofX (toD r) (ρ.set i (mkL k l'))
      | .bad => .bad
    | _, _ => .bad
  | none => .bad) := id rfl
end VL

set_option Elab.async false
set_option linter.all false
set_option maxRecDepth 100000
set_option autoImplicit false
namespace VL
open PySem PySem.Spec PyProof.Rows L2

/-! ### a dict of the top, text keys, flat values -/
structure GD (K : Fg) (w : World) (mg : Str → Option Value) (x : Str) (ks : List Str) (ds : List D) : Prop where
  ex : ∃ a, mg x = some (.ref a) ∧ ∀ k d, selD ks ds (.str k) = some d → ∃ v, KDct K w a k v ∧ ∀ H, Rp K H d v
def eGSel (ks : List Str) (ds : List D) (fk : Ev → R D) : Ev → R D := fun ρ => (fk ρ).bind fun k => ofO (selD ks ds k)
@[simp] theorem r_eGSel (ks : List Str) (ds : List D) (fk : Ev → R D) (ρ : Ev) : eGSel ks ds fk ρ = (fk ρ).bind fun k => ofO (selD ks ds k) := id rfl
section
variable {X : Cx} {W : WX} {i : Expr} {g : Ev → R D} {ks : List Str} {ds : List D}
end
end VL

set_option Elab.async false
set_option linter.all false
set_option maxRecDepth 100000
set_option autoImplicit false
namespace VL
open PySem PySem.Spec PyProof.Rows L2

/-! ### tags -/
mutual
def un : D → D
  | .list l => .list (unL l)
  | .tuple l => .tuple (unL l)
  | .dict [(.int _, .list l)] => .list (unL l)
  | .none => .none
  | .bool b => .bool b
  | .int i => .int i
  | .str s => .str s
  | .dict k => .dict k
def unL : List D → List D
  | [] => []
  | d :: l => un d :: unL l
end
mutual
def old : D → D
  | .list l => tf (oldL l)
  | .tuple l => .tuple (oldL l)
  | .none => .none
  | .bool b => .bool b
  | .int i => .int i
  | .str s => .str s
  | .dict k => .dict k
def oldL : List D → List D
  | [] => []
  | d :: l => old d :: oldL l
end
mutual
def isOld : D → Bool
  | .list _ => false
  | .tuple l => isOldL l
  | .dict [(.int 1, .list l)] => isOldL l
  | .dict _ => false
  | _ => true
def isOldL : List D → Bool
  | [] => true
  | d :: l => isOld d && isOldL l
end
theorem un_tg (l : List D) : un (tg l) = .list (unL l) := by simp [un, tg]
theorem un_tf (l : List D) : un (tf l) = .list (unL l) := by simp [un, tf]
theorem isOld_tf (l : List D) : isOld (tf l) = isOldL l := by simp [isOld, tf]
theorem isOld_tg (l : List D) : isOld (tg l) = false := by simp [isOld, tg]
mutual
theorem un_old : ∀ (d : D), d.hasDict = false → un (old d) = d
  | .none, _ => by simp [un, old]
  | .bool b, _ => by simp [un, old]
  | .int b, _ => by simp [un, old]
  | .str b, _ => by simp [un, old]
  | .list l, h => by
    simp only [old]
    rw [un_tf, un_oldL l (by unfold PyData.hasDict at h; exact h)]
  | .tuple l, h => by
    simp only [old, un]
    rw [un_oldL l (by unfold PyData.hasDict at h; exact h)]
  | .dict k, h => by simp [PyData.hasDict] at h
theorem un_oldL : ∀ (l : List D), PyData.hasDictAll l = false → unL (oldL l) = l
  | [], _ => by simp [unL, oldL]
  | d :: l, h => by
    unfold PyData.hasDictAll at h
    rw [Bool.or_eq_false_iff] at h
    simp only [oldL, unL]
    rw [un_old d h.1, un_oldL l h.2]
end
mutual
theorem old_isOld : ∀ (d : D), d.hasDict = false → isOld (old d) = true
  | .none, _ => by simp [isOld, old]
  | .bool b, _ => by simp [isOld, old]
  | .int b, _ => by simp [isOld, old]
  | .str b, _ => by simp [isOld, old]
  | .list l, h => by
    simp only [old]
    rw [isOld_tf]; exact oldL_isOld l (by unfold PyData.hasDict at h; exact h)
  | .tuple l, h => by
    simp only [old, isOld]
    exact oldL_isOld l (by unfold PyData.hasDict at h; exact h)
  | .dict k, h => by simp [PyData.hasDict] at h
theorem oldL_isOld : ∀ (l : List D), PyData.hasDictAll l = false → isOldL (oldL l) = true
  | [], _ => by simp [isOldL, oldL]
  | d :: l, h => by
    unfold PyData.hasDictAll at h
    rw [Bool.or_eq_false_iff] at h
    simp only [oldL, isOldL]
    rw [old_isOld d h.1, oldL_isOld l h.2]; rfl
end
section
variable {K : Fg} {H : Hp}
mutual
theorem Rp.un : ∀ {d : D} {v : V}, Rp K H d v → Rp K H (un d) v
  | _, _, .non => by simp only [VL.un]; exact .non
  | _, _, .bl b => by simp only [VL.un]; exact .bl b
  | _, _, .int i => by simp only [VL.un]; exact .int i
  | _, _, .str x => by simp only [VL.un]; exact .str x
  | _, _, .lst h r => by simp only [VL.un]; exact .lst h (RpL.un r)
  | _, _, .tup h r => by simp only [VL.un]; exact .tup h (RpL.un r)
  | _, _, .nl h r => by rw [un_tg]; exact .lst (.inl (.inl h)) (RpL.un r)
  | _, _, .fl h r => by rw [un_tf]; exact .lst h.seq (RpL.un r)
  | _, _, .dk h l r => by simp only [dkD, VL.un]; exact .dk h l r
theorem RpL.un : ∀ {d : List D} {v : List V}, RpL K H d v → RpL K H (unL d) v
  | _, _, .nil => by simp only [VL.unL]; exact .nil
  | _, _, .cons h r => by simp only [VL.unL]; exact .cons (Rp.un h) (RpL.un r)
end
end
/-- read without tags -/
def eUn (f : Ev → R D) : Ev → R D := fun ρ => (f ρ).bind fun d => .ok (un d)
/-- a new list, frozen at once, known to be new -/
def eLstN (f : Ev → R (List D)) : Ev → R D := fun ρ => (f ρ).bind fun l => .ok (tg l)
section
variable {X : Cx} {W : WX} {e : Expr} {f : Ev → R D} {fl : Ev → R (List D)} {st : Stmt} {F : Ev → Out}
theorem VE.un (h : VE X W e f) : VE X W e (eUn f) := PE.imp h fun σ H Q ⟨S, G, Hs, ρ, r, p⟩ => ⟨S, G, Hs, ρ, r, (Post.bind p).imp fun d Hs' H' e q v hv => q.now e.sub v (Rp.un hv)⟩
theorem VP.un (h : VP X W e f) : VP X W e (eUn f) := PE.imp h fun σ H Q ⟨S, G, Hs, ρ, r, p⟩ => ⟨S, G, Hs, ρ, r, (Post.bind p).imp fun d Hs' H' e q v hv => q.now e.sub v (by
  rcases hv with hv | ⟨l, a, xs, rfl, rfl, h3, h4⟩
  · exact .inl (Rp.un hv)
  · exact .inr ⟨unL l, a, xs, by simp [VL.un], rfl, h3, RpL.un h4⟩)⟩
theorem VO.vn (h : VO X W e fl) : VE X W e (eLstN fl) := PE.imp h fun σ H Q ⟨S, G, Hs, ρ, r, p⟩ => ⟨S, G, Hs, ρ, r, by
  unfold eLstN at p
  cases q : fl ρ with
  | bad => rw [q] at p; exact p
  | ex x => rw [q] at p; exact p
  | ok l =>
    rw [q] at p
    refine fun Hs' H' e p' vs h0 h1 h2 h3 => ?_
    exact p _ _ (e.frz h0 h2 h1) _ (.nl upd_same (h3.mono fun b u z => by rw [upd_ne (ne_of_none z h1)]; exact z))⟩
end

/-! ### all that stands is coloured: what is new afterwards can be told -/
def colH (h : Heap) (Hs H : Hp) : Hp := fun a => match Hs a with
  | some (.lst xs) => (match h.get? a with
    | some o => some (.frz o (.lst xs))
    | none => H a)
  | _ => H a
theorem colH_lst {h : Heap} {Hs H : Hp} {a : Addr} {xs : List V} {o : Obj} (e : Hs a = some (.lst xs)) (e2 : h.get? a = some o) : colH h Hs H a = some (.frz o (.lst xs)) := by
  unfold colH; rw [e]; simp only [e2]
theorem colH_ne {h : Heap} {Hs H : Hp} {a : Addr} (e : ∀ xs, Hs a ≠ some (.lst xs)) : colH h Hs H a = H a := by
  unfold colH
  split
  · rename_i xs q; exact (e xs q).elim
  · rfl
/-- the lists of Hs lie in h -/
def LstIn (h : Heap) (Hs : Hp) : Prop := ∀ a xs, Hs a = some (.lst xs) → ∃ o, h.get? a = some o
section
variable {K : Fg} {h : Heap} {Hs : Hp}
mutual
theorem Rp.col (c : LstIn h Hs) : ∀ {d : D} {v : V}, Rp K Hs d v → d.hasDict = false → Rp K (colH h Hs Hs) (old d) v
  | _, _, .non, _ => by simp only [old]; exact .non
  | _, _, .bl b, _ => by simp only [old]; exact .bl b
  | _, _, .int i, _ => by simp only [old]; exact .int i
  | _, _, .str x, _ => by simp only [old]; exact .str x
  | _, _, .lst q r, n => by
    simp only [old]
    refine .fl ?_ (RpL.col c r (by unfold PyData.hasDict at n; exact n))
    rcases q with (q | ⟨o, q⟩) | q
    · obtain ⟨o, ho⟩ := c _ _ q
      exact .inl ⟨o, colH_lst q ho⟩
    · exact .inl ⟨o, by rw [colH_ne (fun xs z => by rw [q] at z; cases z)]; exact q⟩
    · exact .inr q
  | _, _, .tup q r, n => by
    simp only [old]
    refine .tup ?_ (RpL.col c r (by unfold PyData.hasDict at n; exact n))
    rcases q with (q | ⟨o, q⟩) | q
    · exact .inl (.inl (by rw [colH_ne (fun xs z => by rw [q] at z; cases z)]; exact q))
    · exact .inl (.inr ⟨o, by rw [colH_ne (fun xs z => by rw [q] at z; cases z)]; exact q⟩)
    · exact .inr q
  | _, _, .nl q r, n => by simp [tg, PyData.hasDict] at n
  | _, _, .fl q r, n => by simp [tf, PyData.hasDict] at n
  | _, _, .dk q l r, n => by simp [dkD, PyData.hasDict] at n
theorem RpL.col (c : LstIn h Hs) : ∀ {d : List D} {v : List V}, RpL K Hs d v → PyData.hasDictAll d = false → RpL K (colH h Hs Hs) (oldL d) v
  | _, _, .nil, _ => by simp only [oldL]; exact .nil
  | _, _, .cons q r, n => by
    unfold PyData.hasDictAll at n
    rw [Bool.or_eq_false_iff] at n
    simp only [oldL]
    exact .cons (Rp.col c q n.1) (RpL.col c r n.2)
end
end
def colS : SD → SD
  | .sh d => if d.hasDict then .no else .sh (old d)
  | .ow l => if PyData.hasDictAll l then .no else .ow (oldL l)
  | _ => .no
def colE (ρ : Ev) : Ev := ρ.map colS
def IsOwn (σ : Sg) (ρ : Ev) (a : Addr) : Prop := ∃ (i : Nat) (l : List D), ρ[i]? = some (.ow l) ∧ σ[i]? = some (some (.ref a))
open Classical in
noncomputable def noOwn (σ : Sg) (ρ : Ev) (H : Hp) : Hp := fun a => if IsOwn σ ρ a then none else H a
theorem RelE.col {K : Fg} {S Hs H : Hp} {G : Gx} {σ : Sg} {ρ : Ev} {h : Heap} (c : LstIn h Hs) (r : RelE K S G Hs H σ ρ) :
    RelE K (colH h Hs Hs) ⟨noOwn σ ρ (colH h Hs H), fun _ => none⟩ (colH h Hs Hs) (colH h Hs H) σ (colE ρ) where
  sub := fun b u q => by
    by_cases z : ∃ xs, Hs b = some (.lst xs)
    · obtain ⟨xs, z⟩ := z
      obtain ⟨o, ho⟩ := c _ _ z
      rw [colH_lst z ho] at q ⊢; exact q
    · rw [colH_ne (fun xs y => z ⟨xs, y⟩)] at q ⊢; exact r.sub b u q
  old := fun b u q => by
    show colH h Hs H b = some u
    have q : noOwn σ ρ (colH h Hs H) b = some u := q
    unfold noOwn at q
    split at q
    · cases q
    · exact q
  ext := .refl _
  new := fun p o a b => by rw [a] at b; cases b
  len := by rw [← r.len]; simp [colE]
  slot := fun i s hs => by
    unfold colE at hs
    rw [List.getElem?_map] at hs
    obtain ⟨s0, e1, rfl⟩ := Option.map_eq_some_iff.mp hs
    cases s0 with
    | no => trivial
    | bo l => trivial
    | sh d =>
      by_cases z : d.hasDict = true
      · rw [show colS (.sh d) = .no from if_pos z]; trivial
      · rw [show colS (.sh d) = .sh (VL.old d) from if_neg z]
        obtain ⟨v, e2, e3⟩ := r.get e1
        exact ⟨v, e2, Rp.col c e3 (by simpa using z)⟩
    | ow l =>
      by_cases z : PyData.hasDictAll l = true
      · rw [show colS (.ow l) = .no from if_pos z]; trivial
      · rw [show colS (.ow l) = .ow (oldL l) from if_neg z]
        obtain ⟨p, vs, f1, f2, f3, f4, f5, _⟩ := r.own' e1
        have n : ∀ xs, Hs p ≠ some (.lst xs) := fun xs y => by rw [f3] at y; cases y
        refine ⟨p, vs, f1, ?_, by rw [colH_ne n]; exact f3, by rw [colH_ne n]; exact f4, RpL.col c f5 (by simpa using z), fun j y => by cases y⟩
        show noOwn σ ρ (colH h Hs H) p = none
        unfold noOwn
        rw [if_pos ⟨i, l, e1, f1⟩]
  bor := fun i p hp => by cases hp
  one := fun i j p hp => by cases hp
  dis := fun i j l m p a b x y => by
    have go : ∀ (k : Nat) (n : List D), (colE ρ)[k]? = some (.ow n) → ∃ n', ρ[k]? = some (.ow n') := fun k n q => by
      unfold colE at q
      rw [List.getElem?_map] at q
      obtain ⟨s0, e1, e2⟩ := Option.map_eq_some_iff.mp q
      cases s0 with
      | ow l => exact ⟨l, e1⟩
      | no => cases e2
      | bo l => cases e2
      | sh d =>
        by_cases z : d.hasDict = true
        · rw [show colS (.sh d) = .no from if_pos z] at e2; cases e2
        · rw [show colS (.sh d) = .sh (VL.old d) from if_neg z] at e2; cases e2
    obtain ⟨l', a'⟩ := go i l a
    obtain ⟨m', b'⟩ := go j m b
    exact r.dis i j l' m' p a' b' x y

/-! ### the rule: from here on what is new can be told; it must end with flat data -/
def NoLst (S : Hp) : Prop := ∀ a xs, S a ≠ some (.lst xs)
def tSC (K : Fg) (mg : Str → Option Value) (W : WX) (F : Ev → Out) : TS := fun D σ H => ∃ S G Hs ρ, NoLst S ∧ RelE K S G Hs H σ ρ ∧ OutOk K mg W S G Hs D (F ρ)
def VSsC (X : Cx) (W : WX) (sts : List Stmt) (F : Ev → Out) : Prop := PSs X sts (tSC X.K X.mg W F)
def flat : D → Bool
  | .none => true
  | .bool _ => true
  | .int _ => true
  | .str _ => true
  | _ => false
theorem flat_rp {K : Fg} {H H' : Hp} {d : D} {v : V} (h : Rp K H d v) (f : flat d = true) : Rp K H' d v := by
  cases h with
  | non => exact .non
  | bl b => exact .bl b
  | int i => exact .int i
  | str x => exact .str x
  | lst _ _ => cases f
  | tup _ _ => cases f
  | nl _ _ => cases f
  | fl _ _ => cases f
  | dk _ _ _ => cases f
def sColor (F : Ev → Out) : Ev → Out := fun ρ => match F (colE ρ) with
  | .rt (.sh d) => if flat d then .rt (.sh d) else .bad
  | _ => .bad
/-- the colours are taken off -/
def uncH (gH H H' : Hp) : Hp := fun a => match gH a with
  | some _ => H a
  | none => H' a
section
variable {X : Cx} {W : WX} {st : Stmt} {sts rest : List Stmt} {F F' : Ev → Out}
theorem vsc_of (h : VSs X W sts F) : VSsC X W sts F := PSs.imp h fun D σ H ⟨S, G, Hs, ρ, _, r, q⟩ => ⟨S, G, Hs, ρ, r, q⟩
theorem colH_no {h : Heap} {Hs H : Hp} {b : Addr} (s : Same Hs H) (e : H b = none) : colH h Hs H b = none := by
  rw [colH_ne fun xs z => by rw [s _ _ z] at e; cases e]; exact e
theorem Inv.col {pins : List (Addr × Obj)} {σ : Sg} {H Hs : Hp} {s : Shared} (s1 : Same Hs H) (I : Inv X pins σ H s) : Inv X pins σ (colH s.heap Hs H) s := by
  have keepT : ∀ b u, H b = some u → (∀ xs, u ≠ .lst xs) → colH s.heap Hs H b = some u := fun b u e n => by
    rw [colH_ne fun xs z => by rw [s1 _ _ z] at e; cases e; exact n xs rfl]; exact e
  refine I.un (t' := s.toks) (h' := s.heap) ⟨fun b o e _ _ _ => e, fun b o e _ _ _ => ⟨o.slots, e⟩, fun b o e n _ => colH_no s1 n, fun b o e _ => ⟨o, e⟩, fun b xs e => keepT b _ e (fun _ z => by cases z), fun b o u e => keepT b _ e (fun _ z => by cases z), fun b ps e => ⟨#[], by rw [keepT b _ e (fun _ z => by cases z)]; simp⟩⟩ fun a u e => ?_
  by_cases z : ∃ xs, Hs a = some (.lst xs)
  · obtain ⟨xs, z⟩ := z
    have ok := I.hok a _ (s1 _ _ z)
    obtain ⟨q1, its, n, q2, q3⟩ := ok
    rw [colH_lst z q3] at e
    cases e
    exact ⟨q3, q1, its, n, q2, q3⟩
  · rw [colH_ne fun xs y => z ⟨xs, y⟩] at e
    exact (I.hok a u e).stay (fun b o _ e => e) (fun b e => keepT b _ e (fun _ z => by cases z)) (fun b xs e => keepT b _ e (fun _ z => by cases z))
theorem Inv.unc {pins : List (Addr × Obj)} {σ σ' : Sg} {H H' Hs gH : Hp} {s s' : Shared} (s1 : Same Hs H) (I : Inv X pins σ H s) (J : Inv X pins σ' H' s') (g1 : ∀ a u, gH a = some u → colH s.heap Hs H a = some u) (g2 : Same gH H') : Inv X pins σ' (uncH gH H H') s' := by
  have low : ∀ b u, gH b = some u → ∃ w, H b = some w ∧ (u = w ∨ ∃ o xs, u = .frz o (.lst xs) ∧ w = .lst xs) := fun b u e => by
    have c := g1 b u e
    by_cases z : ∃ xs, Hs b = some (.lst xs)
    · obtain ⟨xs, z⟩ := z
      have hb := s1 _ _ z
      obtain ⟨q1, its, n, q2, q3⟩ := I.hok b _ hb
      rw [colH_lst z q3] at c
      cases c
      exact ⟨_, hb, .inr ⟨_, xs, rfl, rfl⟩⟩
    · rw [colH_ne fun xs y => z ⟨xs, y⟩] at c
      exact ⟨u, c, .inl rfl⟩
  have keep : ∀ b u, H' b = some u → (∀ o xs, u ≠ .frz o (.lst xs)) → uncH gH H H' b = some u := fun b u e n => by
    unfold uncH
    cases z : gH b with
    | none => exact e
    | some w =>
      have := g2 _ _ z
      rw [e] at this; cases this
      obtain ⟨w', h1, rfl | ⟨o, xs, rfl, rfl⟩⟩ := low b _ z
      · exact h1
      · exact (n o xs rfl).elim
  have no : ∀ b, H' b = none → uncH gH H H' b = none := fun b e => by
    unfold uncH
    cases z : gH b with
    | none => exact e
    | some w => have := g2 _ _ z; rw [e] at this; cases this
  refine ⟨J.ok, J.os, J.bare, ?_, J.loc, J.cell, no _ J.free, fun x c e => no _ (J.freeC x c e), fun p hp => ?_, fun a u e => ?_, J.len⟩
  · refine ⟨J.base.keep, J.base.slot, fun b o e n x => no _ (J.base.free b o e n x), J.base.there, fun b xs e => keep _ _ (J.base.tups b xs e) (fun _ _ z => by cases z), fun b o u e => ?_, fun b ps e => ?_⟩
    · have h1 := J.base.frzs b o u e
      have h0 := I.base.frzs b o u e
      unfold uncH
      cases z : gH b with
      | none => exact h1
      | some w => exact h0
    · obtain ⟨more, h1⟩ := J.base.tbls b ps e
      exact ⟨more, keep _ _ h1 (fun _ _ z => by cases z)⟩
  · obtain ⟨p1, p2, p3⟩ := J.pin p hp
    exact ⟨p1, no _ p2, p3⟩
  · have own : ∀ b, H' b = some (.own a) → uncH gH H H' b = some (.own a) := fun b q => keep b _ q (fun _ _ z => by cases z)
    have tup : ∀ b xs, H' b = some (.tup xs) → uncH gH H H' b = some (.tup xs) := fun b xs q => keep b _ q (fun _ _ z => by cases z)
    unfold uncH at e
    cases z : gH a with
    | none =>
      rw [z] at e
      exact (J.hok a u e).stay (fun b o _ e => e) own tup
    | some w =>
      rw [z] at e
      obtain ⟨w', h1, hw⟩ := low a _ z
      rw [show H a = some u from e] at h1
      cases h1
      have ok := J.hok a w (g2 _ _ z)
      rcases hw with rfl | ⟨o, xs, rfl, rfl⟩
      · exact ok.stay (fun b o _ e => e) own tup
      · exact ok.2.stay (fun b o _ e => e) own tup
theorem vss_color (h : VSsC X W sts F) : VSs X W sts (sColor F) := ⟨fun pins s σ H D I q => by
  obtain ⟨S, G, Hs, ρ, r, q⟩ := q
  unfold sColor at q
  cases z : F (colE ρ) with
  | rt rr =>
    rw [z] at q
    cases rr with
    | sh d =>
      simp only at q
      split at q
      · rename_i fd
        have li : LstIn s.heap Hs := fun a xs e => by
          obtain ⟨_, _, _, _, q⟩ := I.hok a _ (r.sub _ _ e)
          exact ⟨_, q⟩
        have rc := r.col li
        have nl : NoLst (colH s.heap Hs Hs) := fun a xs e => by
          by_cases y : ∃ xs, Hs a = some (.lst xs)
          · obtain ⟨ys, y⟩ := y
            obtain ⟨o, ho⟩ := li _ _ y
            rw [colH_lst y ho] at e; cases e
          · rw [colH_ne fun xs w => y ⟨xs, w⟩] at e
            exact y ⟨xs, e⟩
        refine thn (h.run pins s σ (colH s.heap Hs H) { nx := fun _ _ => False, rt := fun v H' => Same (noOwn σ ρ (colH s.heap Hs H)) H' ∧ D.rt v (uncH (noOwn σ ρ (colH s.heap Hs H)) H H') } (Inv.col r.sub I) ⟨_, _, _, _, nl, rc, ?_⟩) fun fl s' hs => ?_
        · rw [z]
          intro Hs' H' v e hv
          refine ⟨e.same, q S (uncH (noOwn σ ρ (colH s.heap Hs H)) H H') v ⟨fun b u e1 => ?_, fun b u e1 => ?_, .refl _, fun p o e1 e2 => by rw [e1] at e2; cases e2⟩ (flat_rp hv fd)⟩
          · have hb := r.sub _ _ (r.ext _ _ e1)
            have no : ¬ IsOwn σ ρ b := fun ⟨i, l, a1, a2⟩ => by
              obtain ⟨p, vs, f1, f2, f3, _⟩ := r.own a1
              rw [a2] at f1; cases f1
              rw [r.ext _ _ e1] at f3; cases f3
            unfold uncH noOwn
            rw [if_neg no]
            cases w : colH s.heap Hs H b with
            | none =>
              have : ∃ u', colH s.heap Hs H b = some u' := by
                unfold colH
                split
                · split
                  · exact ⟨_, rfl⟩
                  · exact ⟨_, hb⟩
                · exact ⟨_, hb⟩
              obtain ⟨u', w'⟩ := this
              rw [w] at w'; cases w'
            | some u' => exact hb
          · have hb := r.old _ _ e1
            have no : ¬ IsOwn σ ρ b := fun ⟨i, l, a1, a2⟩ => by
              obtain ⟨p, vs, f1, f2, f3, _⟩ := r.own a1
              rw [a2] at f1; cases f1
              rw [e1] at f2; cases f2
            unfold uncH noOwn
            rw [if_neg no]
            cases w : colH s.heap Hs H b with
            | none =>
              have : ∃ u', colH s.heap Hs H b = some u' := by
                unfold colH
                split
                · split
                  · exact ⟨_, rfl⟩
                  · exact ⟨_, hb⟩
                · exact ⟨_, hb⟩
              obtain ⟨u', w'⟩ := this
              rw [w] at w'; cases w'
            | some u' => exact hb
        · cases fl with
          | ret u =>
            obtain ⟨v, σ', H', J, rv, g2, dq⟩ := hs
            exact ⟨v, σ', _, Inv.unc r.sub I J (fun a w e => by
              have e : noOwn σ ρ (colH s.heap Hs H) a = some w := e
              unfold noOwn at e
              split at e
              · cases e
              · exact e) g2, rv, dq⟩
          | next => obtain ⟨_, _, _, f⟩ := hs; exact f.elim
          | brk => obtain ⟨_, _, _, f⟩ := hs; exact f.elim
          | cont => obtain ⟨_, _, _, f⟩ := hs; exact f.elim
      · exact q.elim
    | no => exact q.elim
    | ow l => exact q.elim
    | bo l => exact q.elim
  | nx _ => rw [z] at q; exact q.elim
  | rtB _ _ => rw [z] at q; exact q.elim
  | bk _ => rw [z] at q; exact q.elim
  | ct _ => rw [z] at q; exact q.elim
  | ex _ _ => rw [z] at q; exact q.elim
  | bad => rw [z] at q; exact q.elim⟩
end
end VL

set_option Elab.async false
set_option linter.all false
set_option maxRecDepth 100000
set_option autoImplicit false
namespace VL
open PySem PySem.Spec PyProof.Rows L2

/-! ### lists that are changed, told by kinds -/
inductive Kd where
  | po | co | ro
/-- what stays; the kinds of the lists that are changed; how often the first ones may still grow; how long the second ones are -/
structure Gh where
  B : Hp
  κ : Addr → Option Kd
  f : Nat
  nc : Nat
def TRow (K : Fg) (g : Gh) (x : V) : Prop := ∃ p c q s, x = .ref p ∧ SqT K g.B p [.ref c, .ref q, s] ∧ g.κ c = some .co ∧ g.κ q = some .po
def TAt (K : Fg) (g : Gh) (x : V) : Prop := (∃ p q s, x = .ref p ∧ SqT K g.B p [.str "sign", .ref q, s] ∧ g.κ q = some .po) ∨ (∃ p m r, x = .ref p ∧ SqT K g.B p [.str "some", m, .ref r] ∧ g.κ r = some .ro)
structure TH (K : Fg) (g : Gh) (H : Hp) : Prop where
  sub : Same g.B H
  off : ∀ a k, g.κ a = some k → g.B a = none
  po : ∀ a, g.κ a = some .po → ∃ xs, H a = some (.lst xs) ∧ xs.length + g.f ≤ sizeLine
  co : ∀ a, g.κ a = some .co → ∃ xs, H a = some (.lst xs) ∧ xs.length ≤ g.nc ∧ ∀ x ∈ xs, ∃ b, x = .ref b ∧ g.κ b = some .po
  ro : ∀ a, g.κ a = some .ro → ∃ xs, H a = some (.lst xs) ∧ xs.length ≤ 5 ∧ ∀ x ∈ xs, TRow K g x
  fu : g.f + 10 ≤ sizeLine
  nb : g.nc ≤ 1000
structure Le (g g' : Gh) : Prop where
  b : Same g.B g'.B
  k : ∀ a k, g.κ a = some k → g'.κ a = some k
theorem Le.refl (g : Gh) : Le g g := ⟨.refl _, fun _ _ h => h⟩
theorem Le.trans {a b c : Gh} (x : Le a b) (y : Le b c) : Le a c := ⟨x.b.trans y.b, fun i k h => y.k i k (x.k i k h)⟩
section
variable {K : Fg} {g g' : Gh} {H : Hp}
theorem TRow.mono {x : V} (l : Le g g') (h : TRow K g x) : TRow K g' x := by
  obtain ⟨p, c, q, s, e, h1, h2, h3⟩ := h
  exact ⟨p, c, q, s, e, SqT.mono l.b h1, l.k _ _ h2, l.k _ _ h3⟩
theorem TAt.mono {x : V} (l : Le g g') (h : TAt K g x) : TAt K g' x := by
  rcases h with ⟨p, q, s, e, h1, h2⟩ | ⟨p, m, r, e, h1, h2⟩
  · exact .inl ⟨p, q, s, e, SqT.mono l.b h1, l.k _ _ h2⟩
  · exact .inr ⟨p, m, r, e, SqT.mono l.b h1, l.k _ _ h2⟩
theorem TH.clear (t : TH K g H) {a : Addr} (h : g.κ a = some .ro) : ∃ xs, H a = some (.lst xs) ∧ TH K g (upd H a (.lst [])) := by
  obtain ⟨xs, e, _, _⟩ := t.ro a h
  have nb := t.off a _ h
  refine ⟨xs, e, fun b u q => ?_, t.off, fun c hc => ?_, fun c hc => ?_, fun c hc => ?_, t.fu, t.nb⟩
  · rw [upd_ne (ne_of_none q nb)]; exact t.sub b u q
  · have z : c ≠ a := fun z => by subst z; rw [hc] at h; cases h
    obtain ⟨ys, e2, r⟩ := t.po c hc
    exact ⟨ys, by rw [upd_ne z]; exact e2, r⟩
  · have z : c ≠ a := fun z => by subst z; rw [hc] at h; cases h
    obtain ⟨ys, e2, r⟩ := t.co c hc
    exact ⟨ys, by rw [upd_ne z]; exact e2, r⟩
  · by_cases z : c = a
    · subst z; exact ⟨[], upd_same, by simp, by simp⟩
    · obtain ⟨ys, e2, r1, r2⟩ := t.ro c hc
      exact ⟨ys, by rw [upd_ne z]; exact e2, r1, r2⟩
/-! ### def _law_spoil_atom -/
abbrev tApp (K : Fg) (to te : TE) : TS := tDrop (tBM K "list" rAppend to (tCons te tNil))
end
end VL

set_option Elab.async false
set_option linter.all false
set_option maxRecDepth 100000
set_option autoImplicit false
namespace VL
open PySem PySem.Spec PyProof.Rows L2

/-! ### kinds, from tagged data -/
def PolyN (d : D) : Prop := ∃ l, d = tg l ∧ l.length ≤ 100 ∧ ∀ x ∈ l, ∃ i : Int, x = .int i
def CoN (d : D) : Prop := ∃ l, d = tg l ∧ l ≠ [] ∧ l.length ≤ 2 ∧ ∀ x ∈ l, PolyN x
def RowN (d : D) : Prop := ∃ c q s, d = .tuple [c, q, .str s] ∧ CoN c ∧ PolyN q
def RowsN (d : D) : Prop := ∃ l, d = tg l ∧ l ≠ [] ∧ l.length ≤ 5 ∧ ∀ x ∈ l, RowN x
def AtN (d : D) : Prop := (∃ q s, d = .tuple [.str "sign", q, .str s] ∧ PolyN q) ∨ (∃ m r, d = .tuple [.str "some", .int m, r] ∧ RowsN r)
def hPo (Hs : Hp) (a : Addr) : Prop := ∃ xs : List V, Hs a = some (.lst xs) ∧ xs.length ≤ 100 ∧ ∀ x ∈ xs, ∃ i : Int, x = .int i
def hCo (Hs : Hp) (a : Addr) : Prop := ∃ xs : List V, Hs a = some (.lst xs) ∧ xs ≠ [] ∧ xs.length ≤ 2 ∧ ∀ x ∈ xs, ∃ b, x = .ref b ∧ hPo Hs b
def hRo (K : Fg) (Hs : Hp) (a : Addr) : Prop := ∃ xs : List V, Hs a = some (.lst xs) ∧ xs ≠ [] ∧ xs.length ≤ 5 ∧ ∀ x ∈ xs, ∃ p c q s, x = .ref p ∧ SqT K Hs p [.ref c, .ref q, s] ∧ hCo Hs c ∧ hPo Hs q
/-- what the written part and the heap say together -/
structure NoK (K : Fg) (H : Hp) : Prop where
  lt : ∀ p xs ys, H p = some (.lst ys) → ¬ SqT K H p xs
  ut : ∀ p xs ys, SqT K H p xs → SqT K H p ys → ∃ us, Vals xs us ∧ Vals ys us
theorem RpL.back {K : Fg} {H : Hp} : ∀ {l : List D} {xs : List V}, RpL K H l xs → ∀ x ∈ xs, ∃ d ∈ l, Rp K H d x
  | _, _, .nil, x, hx => by simp at hx
  | _, _, .cons h r, x, hx => by
    rcases List.mem_cons.mp hx with rfl | hx
    · exact ⟨_, by simp, h⟩
    · obtain ⟨d, hd, h'⟩ := RpL.back r x hx
      exact ⟨d, by simp [hd], h'⟩
section
variable {K : Fg} {Hs : Hp}
theorem RpL.ne {l : List D} {xs : List V} (r : RpL K Hs l xs) (h : l ≠ []) : xs ≠ [] := fun z => by
  subst z
  cases r
  exact h rfl
theorem tg_rp {l : List D} {v : V} (h : Rp K Hs (tg l) v) : ∃ a xs, v = .ref a ∧ Hs a = some (.lst xs) ∧ RpL K Hs l xs := by
  generalize hd : tg l = d at h
  cases h with
  | nl e r =>
    unfold tg at hd
    injection hd with hd
    injection hd with hd _
    injection hd with _ hd
    injection hd with hd
    subst hd
    exact ⟨_, _, rfl, e, r⟩
  | fl e r =>
    unfold tg tf at hd
    injection hd with hd
    injection hd with hd _
    injection hd with hd _
    injection hd with hd
    cases hd
  | _ => cases hd
theorem rp_po {d : D} {v : V} (h : Rp K Hs d v) (n : PolyN d) : ∃ a, v = .ref a ∧ hPo Hs a := by
  obtain ⟨l, rfl, hl, hi⟩ := n
  obtain ⟨a, xs, rfl, e, r⟩ := tg_rp h
  refine ⟨a, rfl, xs, e, by rw [← r.length]; exact hl, fun x hx => ?_⟩
  obtain ⟨d, hd, hr⟩ := r.back x hx
  obtain ⟨i, rfl⟩ := hi d hd
  cases hr
  exact ⟨i, rfl⟩
end
/-! ### the kinds of a heap -/
open Classical in
noncomputable def kOf (K : Fg) (Hs : Hp) : Addr → Option Kd := fun a => if hPo Hs a then some .po else if hCo Hs a then some .co else if hRo K Hs a then some .ro else none
section
variable {K : Fg} {Hs H : Hp}
theorem kOf_back {a : Addr} {q : Kd} (h : kOf K Hs a = some q) : (q = .po ∧ hPo Hs a) ∨ (q = .co ∧ hCo Hs a) ∨ (q = .ro ∧ hRo K Hs a) := by
  unfold kOf at h
  split at h
  · rename_i z; cases h; exact .inl ⟨rfl, z⟩
  · split at h
    · rename_i z; cases h; exact .inr (.inl ⟨rfl, z⟩)
    · split at h
      · rename_i z; cases h; exact .inr (.inr ⟨rfl, z⟩)
      · cases h
theorem kOf_lst {a : Addr} {q : Kd} (h : kOf K Hs a = some q) : ∃ xs, Hs a = some (.lst xs) := by
  rcases kOf_back h with ⟨_, xs, e, _⟩ | ⟨_, xs, e, _⟩ | ⟨_, xs, e, _⟩ <;> exact ⟨xs, e⟩
open Classical in
noncomputable def g0 (K : Fg) (Hs H : Hp) : Gh := ⟨fun a => if kOf K Hs a = none then H a else none, kOf K Hs, sizeLine - 1000, 2⟩
theorem g0_B {a : Addr} {u : HO} (h : kOf K Hs a = none) (e : H a = some u) : (g0 K Hs H).B a = some u := by
  show (if kOf K Hs a = none then H a else none) = some u
  rw [if_pos h]; exact e
end
end VL

set_option Elab.async false
set_option linter.all false
set_option maxRecDepth 100000
set_option autoImplicit false
namespace VL
open PySem PySem.Spec PyProof.Rows L2

/-! ### def _law_spoil_atom: its promise -/
def spY (K : Fg) : Sp := fun vs H Q E => vs.length = 1 ∧ ∃ g v, vs = [v] ∧ TH K g H ∧ TAt K g v ∧ 5000 ≤ g.f ∧ g.nc ≤ 305 ∧ ∀ g' H', Le g g' → TH K g' H' → g.f ≤ g'.f + 2000 → g'.nc ≤ g.nc + 5 → Q .non H'
structure ClY (P : Program) (w : World) (K : Fg) (mg : Str → Option Value) (base : Heap) (k : Nat) (x : Str) (ps : List Str) : Prop where
  ex : ∃ f fd, FnG P w K mg base k f fd ps (spY K) ∧ mg x = some (.ref f) ∧ PySem.W.keepIn K (.ref f) = true ∧ Binds K fd ps []
/-! ### for a in e: _law_spoil_atom(a) -/
def keepS : SD → SD
  | .sh d => if isOld d then .sh d else .no
  | .ow l => if isOldL l then .ow l else .no
  | _ => .no
def keepE (ρ : Ev) : Ev := ρ.map keepS
open Classical in
/-- the shared part without what may change -/
noncomputable def lowH (S Hs : Hp) : Hp := fun a => if S a = none then (match Hs a with
  | some (.lst _) => none
  | o => o) else S a
section
variable {K : Fg} {S Hs : Hp}
theorem lowH_keep {a : Addr} {u : HO} (e : Same S Hs) (h : Hs a = some u) (n : ∀ xs, u ≠ .lst xs) : lowH S Hs a = some u := by
  unfold lowH
  by_cases z : S a = none
  · rw [if_pos z, h]
    cases u <;> first | rfl | exact (n _ rfl).elim
  · rw [if_neg z]
    cases y : S a with
    | none => exact (z y).elim
    | some w => have := e _ _ y; rw [h] at this; cases this; rfl
theorem lowH_back {a : Addr} {u : HO} (nl : NoLst S) (e : Same S Hs) (h : lowH S Hs a = some u) : Hs a = some u ∧ ∀ xs, u ≠ .lst xs := by
  unfold lowH at h
  by_cases z : S a = none
  · rw [if_pos z] at h
    cases y : Hs a with
    | none => rw [y] at h; cases h
    | some w =>
      rw [y] at h
      cases w <;> first | (cases h; exact ⟨rfl, fun xs z => by cases z⟩) | cases h
  · rw [if_neg z] at h
    exact ⟨e _ _ h, fun xs w => by rw [w] at h; exact nl _ _ h⟩
mutual
theorem Rp.low (e : Same S Hs) : ∀ {d : D} {v : V}, Rp K Hs d v → isOld d = true → Rp K (lowH S Hs) d v
  | _, _, .non, _ => .non
  | _, _, .bl b, _ => .bl b
  | _, _, .int i, _ => .int i
  | _, _, .str x, _ => .str x
  | _, _, .lst _ _, n => by simp [isOld] at n
  | _, _, .tup q r, n => by
    refine .tup ?_ (RpL.low e r (by simpa [isOld] using n))
    rcases q with (q | ⟨o, q⟩) | q
    · exact .inl (.inl (lowH_keep e q (fun xs z => by cases z)))
    · exact .inl (.inr ⟨o, lowH_keep e q (fun xs z => by cases z)⟩)
    · exact .inr q
  | _, _, .nl q r, n => by rw [isOld_tg] at n; cases n
  | _, _, .fl q r, n => by
    rw [isOld_tf] at n
    refine .fl ?_ (RpL.low e r n)
    rcases q with ⟨o, q⟩ | q
    · exact .inl ⟨o, lowH_keep e q (fun xs z => by cases z)⟩
    · exact .inr q
  | _, _, .dk q l r, n => by simp [dkD, isOld] at n
theorem RpL.low (e : Same S Hs) : ∀ {d : List D} {v : List V}, RpL K Hs d v → isOldL d = true → RpL K (lowH S Hs) d v
  | _, _, .nil, _ => .nil
  | _, _, .cons q r, n => by
    simp only [isOldL, Bool.and_eq_true] at n
    exact .cons (Rp.low e q n.1) (RpL.low e r n.2)
end
/-- behind the changes -/
theorem RelE.low {H H' : Hp} {G : Gx} {σ σ' : Sg} {ρ : Ev} {i : Nat} {g : Gh} (nl : NoLst S) (r : RelE K S G Hs H σ ρ) (l : Le (g0 K Hs H) g) (t : TH K g H') (hl : σ'.length = σ.length) (hs : ∀ j, j ≠ i → σ'[j]? = σ[j]?) :
    RelE K S G (lowH S Hs) H' σ' (keepE (ρ.set i .no)) := by
  have stay : ∀ {a u}, H a = some u → kOf K Hs a = none → H' a = some u := fun {a u} e k => t.sub _ _ (l.b _ _ (g0_B k e))
  have kno : ∀ {a}, Hs a = none → kOf K Hs a = none := fun {a} e => by
    cases z : kOf K Hs a with
    | none => rfl
    | some q => obtain ⟨xs, y⟩ := kOf_lst z; rw [e] at y; cases y
  have get : ∀ (j : Nat) (s : SD), (keepE (ρ.set i .no))[j]? = some s → s = .no ∨ (j ≠ i ∧ ∃ s0, ρ[j]? = some s0 ∧ s = keepS s0) := fun j s h => by
    unfold keepE at h
    rw [List.getElem?_map] at h
    obtain ⟨s0, h1, rfl⟩ := Option.map_eq_some_iff.mp h
    rcases set_get h1 with ⟨_, _, rfl⟩ | ⟨hj, h1⟩
    · exact .inl rfl
    · exact .inr ⟨hj, s0, h1, rfl⟩
  have ownk : ∀ (s0 : SD) (m : List D), keepS s0 = .ow m → s0 = .ow m := fun s0 m h => by
    cases s0 with
    | ow l =>
      by_cases z : isOldL l = true
      · rw [show keepS (.ow l) = .ow l from if_pos z] at h; exact h
      · rw [show keepS (.ow l) = .no from if_neg z] at h; cases h
    | sh d =>
      by_cases z : isOld d = true
      · rw [show keepS (.sh d) = .sh d from if_pos z] at h; cases h
      · rw [show keepS (.sh d) = .no from if_neg z] at h; cases h
    | no => cases h
    | bo l => cases h
  refine ⟨fun b u e => ?_, fun b u e => ?_, fun b u e => ?_, fun p o e n => ?_, ?_, fun j s h => ?_, fun j p hp => ?_, r.one, fun j k m n p a b c d => ?_⟩
  · obtain ⟨e1, e2⟩ := lowH_back nl r.ext e
    refine stay (r.sub _ _ e1) ?_
    cases z : kOf K Hs b with
    | none => rfl
    | some q => obtain ⟨xs, y⟩ := kOf_lst z; rw [e1] at y; cases y; exact (e2 xs rfl).elim
  · refine stay (r.old _ _ e) ?_
    cases z : kOf K Hs b with
    | none => rfl
    | some q =>
      obtain ⟨xs, y⟩ := kOf_lst z
      have sn : S b = none := by
        cases w : S b with
        | none => rfl
        | some u' => have := r.ext _ _ w; rw [y] at this; cases this; exact (nl _ _ w).elim
      have := r.new _ _ y sn
      rw [e] at this; cases this
  · exact lowH_keep r.ext (r.ext _ _ e) (fun xs z => by subst z; exact nl _ _ e)
  · exact r.new p o (lowH_back nl r.ext e).1 n
  · unfold keepE; rw [List.length_map, List.length_set, r.len, hl]
  · rcases get j s h with rfl | ⟨hj, s0, h0, rfl⟩
    · trivial
    · have q := r.slot j s0 h0
      rw [hs j hj]
      cases s0 with
      | no => trivial
      | bo l => trivial
      | sh d =>
        by_cases z : isOld d = true
        · rw [show keepS (.sh d) = .sh d from if_pos z]
          obtain ⟨v, q1, q2⟩ := q
          exact ⟨v, q1, Rp.low r.ext q2 z⟩
        · rw [show keepS (.sh d) = .no from if_neg z]; trivial
      | ow l =>
        by_cases z : isOldL l = true
        · rw [show keepS (.ow l) = .ow l from if_pos z]
          obtain ⟨p, xs, f1, f2, f3, f4, f5, f6⟩ := q
          refine ⟨p, xs, f1, f2, ?_, stay f4 (kno f3), RpL.low r.ext f5 z, f6⟩
          cases y : lowH S Hs p with
          | none => rfl
          | some u => have := (lowH_back nl r.ext y).1; rw [f3] at this; cases this
        · rw [show keepS (.ow l) = .no from if_neg z]; trivial
  · obtain ⟨h1, h2, h3⟩ := r.bor j p hp
    refine ⟨h1, ?_, ?_⟩
    · cases y : lowH S Hs p with
      | none => rfl
      | some u => have := (lowH_back nl r.ext y).1; rw [h2] at this; cases this
    · cases y : H p with
      | none => exact (h3 y).elim
      | some u => rw [stay y (kno h2)]; simp
  · rcases get j _ a with z | ⟨hj, s0, h0, z⟩
    · cases z
    · rcases get k _ b with z' | ⟨hk, s1, h1, z'⟩
      · cases z'
      · have e0 := ownk s0 m z.symm
        have e1 := ownk s1 n z'.symm
        subst e0; subst e1
        rw [hs j hj] at c
        rw [hs k hk] at d
        exact r.dis j k m n p h0 h1 c d
end
section
variable {X : Cx} {W : WX} {iter : Expr} {rest : List Stmt} {f : Ev → R D} {F : Ev → Out} {i j k : Nat} {x y : Str} {px p1 p2 p3 p4 pos : Pos} {ps : List Str}
end
end VL

set_option Elab.async false
set_option linter.all false
set_option maxRecDepth 100000
set_option autoImplicit false
namespace VL
open PySem PySem.Spec PyProof.Rows L2

/-! ### a dict of text keys, held by a name -/
def eDct (ks : List Str) (fs : Ev → R (List D)) : Ev → R D := fun ρ => (fs ρ).bind fun ds => if ds.length = ks.length then .ok (dkD ks ds) else .bad
section
variable {X : Cx} {W : WX} {e a i : Expr} {f g : Ev → R D} {pos : Pos}
end
@[simp] theorem r_eDct (ks : List Str) (fs : Ev → R (List D)) (ρ : Ev) : eDct ks fs ρ = (fs ρ).bind fun ds => if ds.length = ks.length then .ok (dkD ks ds) else .bad := id rfl
@[simp] theorem r_eUn (f : Ev → R D) (ρ : Ev) : eUn f ρ = (f ρ).bind fun d => .ok (un d) := id rfl
@[simp] theorem r_eLstN (f : Ev → R (List D)) (ρ : Ev) : eLstN f ρ = (f ρ).bind fun l => .ok (tg l) := id rfl
end VL

set_option Elab.async false
set_option linter.all false
set_option maxRecDepth 100000
set_option autoImplicit false
namespace VL
open PySem PySem.Spec PyProof.Rows L2

/-! ### (a, *e) -/
def eCat (f fl : Ev → R (List D)) : Ev → R (List D) := fun ρ => (f ρ).bind fun l => (fl ρ).bind fun ds => .ok (l ++ ds)
def xCat (f fl : Ev → RX (List D)) : Ev → RX (List D) := fun ρ => (f ρ).bind fun l ρ => (fl ρ).bind fun ds ρ => .ok (l ++ ds) ρ
@[simp] theorem r_eCat (f fl : Ev → R (List D)) (ρ : Ev) : eCat f fl ρ = (f ρ).bind fun l => (fl ρ).bind fun ds => .ok (l ++ ds) := id rfl
@[simp] theorem r_xCat (f fl : Ev → RX (List D)) (ρ : Ev) : xCat f fl ρ = (f ρ).bind fun l ρ => (fl ρ).bind fun ds ρ => .ok (l ++ ds) ρ := id rfl
section
variable {X : Cx} {W : WX} {e : Expr} {es : List Expr} {p : Pos} {f fl : Ev → R (List D)} {xf xfl : Ev → RX (List D)}
end
end VL

set_option Elab.async false
set_option linter.all false
set_option maxRecDepth 100000
set_option autoImplicit false
namespace VL
open PySem PySem.Spec PyProof.Rows L2

/-! ### a statement that changes new lists only, told by its reading -/
section
variable {K : Fg} {S Hs : Hp}
end
section
variable {X : Cx} {W : WX} {st : Stmt} {rest : List Stmt} {F : Ev → Out} {C : Ev → Prop} {is : List Nat} {t : TS}
end
/-! ### for b in e: for c, k, s in b[2]: k.append(1); b[2].clear() -/
def BlN (d : D) : Prop := ∃ m r, d = .tuple [.str "some", .int m, r] ∧ RowsN r
theorem BlN.at {d : D} (h : BlN d) : AtN d := .inr h
def TBl (K : Fg) (g : Gh) (x : V) : Prop := ∃ p m r, x = .ref p ∧ SqT K g.B p [.str "some", m, .ref r] ∧ g.κ r = some .ro
section
variable {K : Fg} {g g' : Gh} {H : Hp}
theorem TBl.mono {x : V} (l : Le g g') (h : TBl K g x) : TBl K g' x := by
  obtain ⟨p, m, r, e, h1, h2⟩ := h
  exact ⟨p, m, r, e, SqT.mono l.b h1, l.k _ _ h2⟩
end
end VL

set_option Elab.async false
set_option linter.all false
set_option maxRecDepth 100000
set_option autoImplicit false
namespace VL
open PySem PySem.Spec PyProof.Rows L2
/-! ### a, b = x, y, evaluations that change lists -/
def yPar (i j : Nat) (fl : Ev → RX (List D)) : Ev → Out := fun ρ => liftX (fl ρ) fun ds ρ => match ds with
  | [d, d'] => .nx ((ρ.set i (.sh d)).set j (.sh d'))
  | _ => .bad
section
variable {X : Cx} {W : WX} {a b : Expr} {pos : Pos} {fl : Ev → RX (List D)} {ρ : Ev} {i j : Nat}
end
@[simp] theorem ry_par {ρ : Ev} {i j : Nat} (f : Ev → RX (List D)) : yPar i j f ρ = liftX (f ρ) fun ds ρ => match ds with | [d, d'] => .nx ((ρ.set i (.sh d)).set j (.sh d')) | _ => .bad := id rfl
end VL

set_option Elab.async false
set_option linter.all false
set_option maxRecDepth 100000
set_option autoImplicit false
set_option maxHeartbeats 4000000
namespace W
open PySem PySem.Spec PyProof.Rows L2 VL
noncomputable def b__law_trim_k56_1 : Ev → Out := sPopX 0
noncomputable def c__law_trim_k56 : Ev → Out := sSeq (sSetO 0 (e1 listO (eCons (eOwn 0) (cst [])))) (sSeq (sWhile (eAnd (e1 bOf (e2 gtD (e1 lenD (eCons (eOwn 0) (cst []))) (cst (.int 0)))) (e1 bOf (e2 eqD (e2 ixD (eOwn 0) (e2 subD (e1 lenD (eCons (eOwn 0) (cst []))) (cst (.int 1)))) (cst (.int 0))))) b__law_trim_k56_1) (sRetV 0))
noncomputable def m__law_trim_k56 : List D → R SD := runD 1 1 c__law_trim_k56
noncomputable def b__law_number_k56_1 : Ev → Out := sPar 2 3 (eCons (eVar 3) (eCons (e2 modD (e1 intD (eCons (eOwn 2) (cst []))) (eOwn 3)) (cst [])))
noncomputable def c__law_number_k56 : Ev → Out := sSeq (sIf (e1 bOf (e2 ltD (eOwn 1) (cst (.int 0)))) (sPar 0 1 (eCons (e2 subD (cst (.int 0)) (eOwn 0)) (eCons (e2 subD (cst (.int 0)) (eOwn 1)) (cst [])))) (sNil)) (sSeq (sPar 2 3 (eCons (e1 absD (eCons (eOwn 0) (cst []))) (eCons (eVar 1) (cst [])))) (sSeq (sWhile (e1 bOf (e2 neD (eOwn 3) (cst (.int 0)))) b__law_number_k56_1) (sRet (e1 tupD (eCons (e2 fdivD (eOwn 0) (eOwn 2)) (eCons (e2 fdivD (eOwn 1) (eOwn 2)) (cst [])))))))
noncomputable def m__law_number_k56 : List D → R SD := runD 2 4 c__law_number_k56
noncomputable def b__law_gcd_k56_1 : Ev → Out := sPar 2 3 (eCons (eVar 3) (eCons (e2 modD (e1 intD (eCons (eOwn 2) (cst []))) (eOwn 3)) (cst [])))
noncomputable def c__law_gcd_k56 : Ev → Out := sSeq (sPar 2 3 (eCons (e1 absD (eCons (eOwn 0) (cst []))) (eCons (e1 absD (eCons (eOwn 1) (cst []))) (cst [])))) (sSeq (sWhile (e1 bOf (e2 neD (eOwn 3) (cst (.int 0)))) b__law_gcd_k56_1) (sRet (eVar 2)))
noncomputable def m__law_gcd_k56 : List D → R SD := runD 2 4 c__law_gcd_k56
noncomputable def b__law_content_k56_1 : Ev → Out := sSet 1 (eCall m__law_gcd_k56 (eCons (eVar 1) (eCons (eVar 2) (cst []))))
noncomputable def c__law_content_k56 : Ev → Out := sSeq (sSet 1 (cst (.int 0))) (sSeq (sFor (e1 seqD (eVar 0)) (gSet 2) b__law_content_k56_1) (sRet (eVar 1)))
noncomputable def m__law_content_k56 : List D → R SD := runD 1 3 c__law_content_k56
noncomputable def c__law_bare : Ev → Out := sSeq (sSet 1 (eCall m__law_content_k56 (eCons (eVar 0) (cst [])))) (sRetO (eComp [2] (e1 seqD (eVar 0)) (gSet 2) (cst true) (e2 fdivD (eOwn 2) (eOwn 1))))
noncomputable def m__law_bare : List D → R SD := runD 1 3 c__law_bare
noncomputable def b__law_coprime_1 : Ev → Out := sSeq (sSet 5 (e2 ixD (eOwn 4) (e2 subD (e1 lenD (eCons (eOwn 4) (cst []))) (cst (.int 1))))) (sSeq (sSet 6 (e2 ixD (eOwn 3) (e2 subD (e1 lenD (eCons (eOwn 3) (cst []))) (cst (.int 1))))) (sSeq (sSet 7 (e2 addD (eLst (eComp [8] (e1 range1D (eCons (e2 subD (e1 lenD (eCons (eOwn 4) (cst []))) (e1 lenD (eCons (eOwn 3) (cst [])))) (cst []))) (gSet 8) (cst true) (cst (.int 0)))) (eOwn 3))) (sSet 4 (eCall m__law_trim_k56 (eCons (eLst (eComp [8] (e1 range1D (eCons (e1 lenD (eCons (eOwn 4) (cst []))) (cst []))) (gSet 8) (cst true) (e2 subD (e2 mulD (e2 ixD (eOwn 4) (eOwn 8)) (eOwn 6)) (e2 mulD (e2 ixD (eOwn 7) (eOwn 8)) (eOwn 5))))) (cst []))))))
noncomputable def b__law_coprime_2 : Ev → Out := sSeq (sSet 4 (eLst (e1 listO (eCons (eOwn 2) (cst []))))) (sSeq (sWhile (e1 bOf (e2 geD (e1 lenD (eCons (eOwn 4) (cst []))) (e1 lenD (eCons (eOwn 3) (cst []))))) b__law_coprime_1) (sSeq (sSet 2 (eVar 3)) (sSeq (sSet 3 (eVar 4)) (sIf (e1 bOf (e2 gtD (e1 lenD (eCons (eOwn 4) (cst []))) (cst (.int 0)))) (sSet 3 (eCall m__law_bare (eCons (eVar 4) (cst [])))) (sNil)))))
noncomputable def c__law_coprime : Ev → Out := sSeq (sPar 2 3 (eCons (eVar 0) (eCons (eVar 1) (cst [])))) (sSeq (sWhile (e1 bOf (e2 gtD (e1 lenD (eCons (eOwn 3) (cst []))) (cst (.int 0)))) b__law_coprime_2) (sRet (e2 leD (e1 lenD (eCons (eOwn 2) (cst []))) (cst (.int 1)))))
noncomputable def m__law_coprime : List D → R SD := runD 2 9 c__law_coprime
noncomputable def c__law_is_list : Ev → Out := sSeq (sIf (eNot (e1 truD (e1 (isiD "list") (eOwn 0)))) (sRet (cst (.bool false))) (sNil)) (sRet (e1 allD (eCons (eLst (eComp [1] (e1 seqD (eVar 0)) (gSet 1) (cst true) (eAndV (e1 (isiD "int") (eOwn 1)) (e1 notD (e1 (isiD "bool") (eOwn 1)))))) (cst []))))
noncomputable def m__law_is_list : List D → R SD := runD 1 2 c__law_is_list
noncomputable def c__law_is_fraction : Ev → Out := sSeq (sIf (eOr (eNot (e1 truD (e1 (isiD "tuple") (eOwn 0)))) (e1 bOf (e2 neD (e1 lenD (eCons (eOwn 0) (cst []))) (cst (.int 2))))) (sRet (cst (.bool false))) (sNil)) (sSeq (sAsg (eVar 0) (gTupD 2 (gsCons (gSet 1) (gsCons (gSet 2) (gsNil))))) (sSeq (sIf (eOr (eNot (e1 truD (eCall m__law_is_list (eCons (eVar 1) (cst []))))) (eOr (eNot (e1 truD (eCall m__law_is_list (eCons (eVar 2) (cst []))))) (eOr (e1 bOf (e2 neD (eCall m__law_trim_k56 (eCons (eVar 1) (cst []))) (eOwn 1))) (eOr (e1 bOf (e2 neD (eCall m__law_trim_k56 (eCons (eVar 2) (cst []))) (eOwn 2))) (e1 bOf (e2 eqD (e1 lenD (eCons (eOwn 2) (cst []))) (cst (.int 0)))))))) (sRet (cst (.bool false))) (sNil)) (sSeq (sIf (eOr (e1 bOf (e2 ltD (e2 ixD (eOwn 2) (e2 subD (e1 lenD (eCons (eOwn 2) (cst []))) (cst (.int 1)))) (cst (.int 0)))) (e1 bOf (e2 neD (eCall m__law_gcd_k56 (eCons (eCall m__law_content_k56 (eCons (eVar 1) (cst []))) (eCons (eCall m__law_content_k56 (eCons (eVar 2) (cst []))) (cst [])))) (cst (.int 1))))) (sRet (cst (.bool false))) (sNil)) (sRet (eCall m__law_coprime (eCons (eVar 1) (eCons (eVar 2) (cst []))))))))
noncomputable def m__law_is_fraction : List D → R SD := runD 1 3 c__law_is_fraction
/-! ### zeros at the end, numbers, divisors of the law -/
theorem trim_snoc0 (q : List Int) : trimP (q ++ [0]) = trimP q := trim_eq (tr_trim q) fun k => by
  rw [cf_app, cf_trim]
  by_cases h : k < q.length
  · rw [if_pos h]
  · rw [if_neg h, cf_out (l := q) (by omega)]
    by_cases e : k - q.length = 0
    · rw [e]; rfl
    · obtain ⟨m, hm⟩ : ∃ m, k - q.length = m + 1 := ⟨k - q.length - 1, by omega⟩
      rw [hm, cf_succ, cf_nil]
theorem tr_snoc {q : List Int} {x : Int} (hx : x ≠ 0) : Tr (q ++ [x]) := fun m h => by
  simp at h
  rw [cf_app, if_neg (by omega), show m - q.length = 0 by omega]
  exact hx
theorem trim56_loop : ∀ (n : Nat) (l : List Int), l.length = n → whileO (eAnd (e1 bOf (e2 gtD (e1 lenD (eCons (eOwn 0) (cst []))) (cst (.int 0)))) (e1 bOf (e2 eqD (e2 ixD (eOwn 0) (e2 subD (e1 lenD (eCons (eOwn 0) (cst []))) (cst (.int 1)))) (cst (.int 0))))) b__law_trim_k56_1 (n + 1) [.ow (l.map .int)] = .nx [.ow ((trimP l).map .int)] := by
  intro n
  induction n with
  | zero =>
    intro l hl
    obtain rfl := List.length_eq_zero_iff.mp hl
    have : trimP [] = [] := rfl
    rw [this, whileO]
    simp
  | succ n ih =>
    intro l hl
    obtain ⟨q, x, rfl⟩ : ∃ q x, l = q ++ [x] := by
      have : l ≠ [] := by rw [← List.length_pos_iff]; omega
      exact ⟨l.dropLast, l.getLast this, (List.dropLast_concat_getLast this).symm⟩
    simp at hl
    have ix : ixD (pD (q ++ [x])) (.int (q.length : Int)) = some (.int x) := by
      rw [p_ixc (l := q ++ [x]) (n := q.length) (by simp), cf_app, if_neg (by omega), Nat.sub_self]; rfl
    have wl : ((q ++ [x]).map PyData.int).length = q.length + 1 := by simp
    have ixl : ixD (.list ((q ++ [x]).map PyData.int)) (.int (q.length : Int)) = some (.int x) := ix
    rw [whileO]
    by_cases hx : x = 0
    · subst hx
      have ih' := ih q hl
      rw [trim_snoc0]
      have w1 : ((q ++ [(0 : Int)]).map PyData.int).getLast? = some (.int 0) := by rw [List.map_append]; simp
      have w2 : ((q ++ [(0 : Int)]).map PyData.int).dropLast = q.map .int := by rw [List.map_append]; simp
      generalize (q ++ [(0 : Int)]).map PyData.int = LL at *
      have g1 : 0 < LL.length := by rw [wl]; omega
      have wl' : (LL.length : Int) - 1 = (q.length : Int) := by rw [wl]; omega
      have st : b__law_trim_k56_1 [.ow LL] = .nx [.ow (q.map .int)] := by simp [b__law_trim_k56_1, onOw, w1, w2]
      simp [g1, wl', ixl, st, ih', -r_ix_l]
    · have tt : trimP (q ++ [x]) = q ++ [x] := (tr_snoc hx).trim
      rw [tt]
      generalize (q ++ [x]).map PyData.int = LL at *
      have g1 : 0 < LL.length := by rw [wl]; omega
      have wl' : (LL.length : Int) - 1 = (q.length : Int) := by rw [wl]; omega
      simp [g1, wl', ixl, hx, -r_ix_l]
theorem trim56_ok (l : List Int) (h : l.length ≤ 100000) : m__law_trim_k56 [pD l] = .ok (.ow ((trimP l).map .int)) := by
  have e := sWhile_eq (trim56_loop l.length l rfl) (by simp)
  have lo : listO [pD l] = some (l.map .int) := by unfold pD; exact r_listO
  have hls : l.length ≤ sizeLine := slB h
  simp [m__law_trim_k56, c__law_trim_k56, lo, hls, e]
/-! Euclid's way with numbers -/
theorem gcd56_loop {c : Ev → R Bool} {F : Ev → Out} {x0 x1 : SD} (hc : ∀ x y : Nat, c [x0, x1, .sh (.int (x : Int)), .sh (.int (y : Int))] = .ok (decide (y ≠ 0))) (hF : ∀ x y : Nat, y ≠ 0 → F [x0, x1, .sh (.int (x : Int)), .sh (.int (y : Int))] = .nx [x0, x1, .sh (.int (y : Int)), .sh (.int ((x % y : Nat) : Int))]) : ∀ (n x y : Nat), y < n → whileO c F n [x0, x1, .sh (.int (x : Int)), .sh (.int (y : Int))] = .nx [x0, x1, .sh (.int ((Nat.gcd x y : Nat) : Int)), .sh (.int 0)]
  | 0, x, y, h => by omega
  | n + 1, x, y, h => by
    rw [whileO, hc]
    by_cases z : y = 0
    · subst z; simp
    · have ih := gcd56_loop hc hF n y (x % y) (by have := Nat.mod_lt x (Nat.pos_of_ne_zero z); omega)
      have e : Nat.gcd y (x % y) = Nat.gcd x y := by rw [Nat.gcd_comm y (x % y), ← Nat.gcd_rec, Nat.gcd_comm]
      rw [e] at ih
      have d : decide (y ≠ 0) = true := decide_eq_true z
      rw [d]
      show (match F _ with | .nx ρ' => whileO c F n ρ' | .ct ρ' => whileO c F n ρ' | .bk ρ' => .nx ρ' | .rt r => .rt r | .rtB r ρ' => .rtB r ρ' | .ex x ρ' => .ex x ρ' | .bad => .bad) = _
      rw [hF x y z]
      exact ih
theorem abs_nat (a : Int) : absD [.int a] = some (.int (a.natAbs : Int)) := by
  rw [r_abs]
  congr 2
  split <;> omega
theorem fmod_nat (x y : Nat) : (x : Int).fmod (y : Int) = ((x % y : Nat) : Int) := by
  rw [Int.fmod_eq_emod_of_nonneg _ (by omega)]; simp
theorem gcd56_ok (a b : Int) : m__law_gcd_k56 [.int a, .int b] = .ok (.sh (.int ((Nat.gcd a.natAbs b.natAbs : Nat) : Int))) := by
  have L := gcd56_loop (c := e1 bOf (e2 neD (eOwn 3) (cst (.int 0)))) (F := b__law_gcd_k56_1) (x0 := .sh (.int a)) (x1 := .sh (.int b)) (fun x y => by simp) (fun x y hy => by
    have h0 : ¬ ((y : Int) = 0) := by omega
    have m : modD (.int (x : Int)) (.int (y : Int)) = some (.int ((x : Int).fmod (y : Int))) := r_mod h0
    rw [fmod_nat] at m
    simp [b__law_gcd_k56_1, m]) (b.natAbs + 1) a.natAbs b.natAbs (by omega)
  have e := sWhile_eq L (by simp)
  simp [m__law_gcd_k56, c__law_gcd_k56, abs_nat, e, -r_abs]
theorem number56_ok {n d : Int} (h2 : Sz 9000 d) (hd : d ≠ 0) : m__law_number_k56 [.int n, .int d] = .ok (.sh (rD ((n : Rat) / (d : Rat)))) := by
  have key : ∀ (n d : Int), Sz 9000 d → 0 < d → sWhile (e1 bOf (e2 neD (eOwn 3) (cst (.int 0)))) b__law_number_k56_1 [.sh (.int n), .sh (.int d), .sh (.int (n.natAbs : Int)), .sh (.int d)] = .nx [.sh (.int n), .sh (.int d), .sh (.int ((Nat.gcd n.natAbs d.natAbs : Nat) : Int)), .sh (.int 0)] ∧
      (∀ x, okDiv x ((Nat.gcd n.natAbs d.natAbs : Nat) : Int) = true) ∧ rD ((n : Rat) / (d : Rat)) = .tuple [.int (n.fdiv ((Nat.gcd n.natAbs d.natAbs : Nat) : Int)), .int (d.fdiv ((Nat.gcd n.natAbs d.natAbs : Nat) : Int))] := fun n d hz h0 => by
    have L := gcd56_loop (c := e1 bOf (e2 neD (eOwn 3) (cst (.int 0)))) (F := b__law_number_k56_1) (x0 := .sh (.int n)) (x1 := .sh (.int d)) (fun x y => by simp) (fun x y hy => by
      have h0 : ¬ ((y : Int) = 0) := by omega
      have m : modD (.int (x : Int)) (.int (y : Int)) = some (.int ((x : Int).fmod (y : Int))) := r_mod h0
      rw [fmod_nat] at m
      simp [b__law_number_k56_1, m]) (d.natAbs + 1) n.natAbs d.natAbs (by omega)
    have e := sWhile_eq L (by simp)
    have ed : (d.natAbs : Int) = d := by omega
    rw [ed] at e
    have g0 : 0 < Nat.gcd n.natAbs d.natAbs := Nat.gcd_pos_of_pos_right _ (by omega)
    have gl : Nat.gcd n.natAbs d.natAbs ≤ d.natAbs := Nat.gcd_le_right _ (by omega)
    refine ⟨e, fun x => okDiv_of (hz.of_le (by simpa using gl)) (by omega), ?_⟩
    rw [← rD_div (by omega)]
    unfold mkQ qD
    rw [if_neg (by omega)]
  by_cases c : d < 0
  · obtain ⟨k1, k2, k3⟩ := key (0 - n) (0 - d) (by rw [Int.zero_sub]; exact h2.neg) (by omega)
    have eq : ((0 - n : Int) : Rat) / ((0 - d : Int) : Rat) = (n : Rat) / (d : Rat) := by
      rw [Int.zero_sub, Int.zero_sub, Rat.intCast_neg, Rat.intCast_neg]
      have : (d : Rat) ≠ 0 := by exact_mod_cast hd
      grind
    rw [eq] at k3
    rw [k3]
    have z1 : (0 : Int) - n = -n := Int.zero_sub n
    have z2 : (0 : Int) - d = -d := Int.zero_sub d
    rw [z1, z2] at k1 k2 ⊢
    rw [Int.natAbs_neg, Int.natAbs_neg] at *
    simp [m__law_number_k56, c__law_number_k56, c, abs_nat, k1, k2, -r_abs]
  · obtain ⟨k1, k2, k3⟩ := key n d h2 (by omega)
    rw [k3]
    simp [m__law_number_k56, c__law_number_k56, c, abs_nat, k1, k2, -r_abs]
end W

set_option Elab.async false
set_option linter.all false
set_option maxRecDepth 100000
set_option autoImplicit false
set_option maxHeartbeats 4000000
namespace W
open PySem PySem.Spec PyProof.Rows L2 VL
/-! ### the law's stream of draws -/
def ST (k : Nat) (L : List D) : Prop := ∃ (ns : List Int) (i : Nat) (st : Int), L = [pD ns, .int (i : Int), .int st] ∧ i ≤ k ∧ 0 ≤ st ∧ (∀ z ∈ ns, Sz 1048576 z)
end W

set_option Elab.async false
set_option linter.all false
set_option maxRecDepth 100000
set_option autoImplicit false
set_option maxHeartbeats 4000000
namespace W
open PySem PySem.Spec PyProof.Rows L2 VL
/-! ### quotients that are small are allowed -/
theorem okDiv_q {i j : Int} (h : Sz 4400 (i.fdiv j)) (hj : j ≠ 0) : okDiv i j = true := by
  unfold okDiv Builtin.divisionGoesByPylong
  have e : ¬ ((if (i == 0) = true then 0 else i.natAbs.log2 / 30 + 1) > (if (j == 0) = true then 0 else j.natAbs.log2 / 30 + 1) + 150 ∧ (if (j == 0) = true then 0 else j.natAbs.log2 / 30 + 1) > 300) := by
    by_cases z : i = 0
    · subst z; simp
    · have hz : i.natAbs ≠ 0 := by omega
      have hj0 : j.natAbs ≠ 0 := by omega
      have jl : j.natAbs < 2 ^ (j.natAbs.log2 + 1) := Nat.lt_log2_self
      have le : i.natAbs ≤ ((i.fdiv j).natAbs + 1) * j.natAbs := by
        have h1 := Int.mul_fdiv_add_fmod i j
        have h2 : (i.fmod j).natAbs ≤ j.natAbs := by
          rcases Int.lt_or_lt_of_ne hj with g | g
          · have f := fmod_rng (a := -i) (b := -j) (by omega)
            rw [Int.neg_fmod_neg] at f
            omega
          · have f := fmod_rng (a := i) (b := j) (by omega)
            omega
        rw [Nat.succ_mul, ← Int.natAbs_mul, Int.mul_comm]
        omega
      have lt : i.natAbs < 2 ^ (4400 + (j.natAbs.log2 + 1)) := by
        rw [Nat.pow_add]
        have hlt := h.lt
        have pp : 0 < 2 ^ 4400 := Nat.pow_pos (by decide)
        generalize 2 ^ 4400 = BB at *
        exact Nat.lt_of_le_of_lt le (Nat.lt_of_le_of_lt (Nat.mul_le_mul_right _ hlt) (Nat.mul_lt_mul_of_pos_left jl pp))
      have := (Nat.log2_lt hz).mpr lt
      have e0 : (i == 0) = false := by simpa using z
      have ej : (j == 0) = false := by simpa using hj
      rw [e0, ej]
      simp only [Bool.false_eq_true, if_false]
      omega
  have d : decide (j ≠ 0) = true := decide_eq_true hj
  rw [d, Bool.true_and, Bool.not_eq_true', Bool.and_eq_false_iff]
  by_cases c : (if (j == 0) = true then 0 else j.natAbs.log2 / 30 + 1) > 300
  · exact .inr (decide_eq_false fun x => e ⟨x, c⟩)
  · exact .inl (decide_eq_false c)
section
variable {A B : List Int} {z l N Bd : Nat}
structure CQ (z l N Bd : Nat) (A B : List Int) : Prop where
  na : A ≠ []
  nb : B ≠ []
  ta : Tr A
  tb : Tr B
  sa : SzP z A
  sb : SzP z B
  la : A.length ≤ 100
  lb : B.length ≤ 100
  n2 : N ≤ 2 ^ l
  zb : z ≤ Bd
  bd : (l + z + 1) * N ≤ Bd
  big : Bd ≤ 4400
theorem CQ.swap (h : CQ z l N Bd A B) : CQ z l N Bd B A := ⟨h.nb, h.na, h.tb, h.ta, h.sb, h.sa, h.lb, h.la, h.n2, h.zb, h.bd, h.big⟩
theorem CQ.next (h : CQ z l N Bd A B) {f s : List Int} {n : Nat} (tf : Tr f) (ch : Chn A B f s) (ps : Prim s) (hl : s.length < f.length) (hA : s.length ≤ A.length) (hB : s.length ≤ B.length) (hn : s.length < n) (hN : A.length + B.length ≤ N + 2 * (gcS n f s).length) : SzP Bd s := by
  obtain ⟨gl, gn⟩ := gcS_len (n := n) (f := f) (s := s) tf ps.tr hn ps.ne
  have cN : (l + z + 1) * ((B.length - s.length) + (A.length - s.length)) ≤ (l + z + 1) * N := Nat.mul_le_mul_left _ (by omega)
  exact (chn_sz (l := l) ch ps h.na h.nb h.ta h.tb h.sa h.sb hl hA hB rfl (Nat.le_trans (by omega) h.n2)).mono (Nat.le_trans cN h.bd)
end
end W

set_option Elab.async false
set_option linter.all false
set_option maxRecDepth 100000
set_option autoImplicit false
set_option maxHeartbeats 4000000
namespace W
open PySem PySem.Spec PyProof.Rows L2 VL
/-! ### the quotient, with what is told of its numbers -/
structure QE (Z t J : Nat) (a b : List Int) : Prop where
  rk : ∀ {j : Nat}, j ≤ J → ∀ i, Rk Z (Rf a b j i)
  fk : ∀ {j : Nat}, j + 1 ≤ J → Rk Z (Ff a b j)
  sb : SzP t b
  ta : Tr a
  tb : Tr b
  nb : b ≠ []
  na : a ≠ []
  hl : b.length ≤ a.length
  la : a.length ≤ 1000
  ht : 1 ≤ t
  hJ : a.length - b.length + 1 = J
  hz : 2 * Z + t + 10 ≤ 8000
section
variable {Z t J : Nat} {a b : List Int}
theorem QE.lb (h : QE Z t J a b) : 0 < b.length := List.length_pos_iff.mpr h.nb
theorem QE.lead (h : QE Z t J a b) : cf b (b.length - 1) ≠ 0 := h.tb _ (by have := h.lb; omega)
end
section
variable {Z t J : Nat} {a b : List Int}
end
section
variable {Z t J : Nat} {a b : List Int}
end

end W

set_option Elab.async false
set_option linter.all false
set_option maxRecDepth 100000
set_option autoImplicit false
set_option maxHeartbeats 4000000
namespace W
open PySem PySem.Spec PyProof.Rows L2 VL
/-! ### exact division -/
section
variable {Q b : List Int}
end
/-! ### what divides is small, in bits -/
end W

set_option Elab.async false
set_option linter.all false
set_option maxRecDepth 100000
set_option autoImplicit false
set_option maxHeartbeats 4000000
namespace W
open PySem PySem.Spec PyProof.Rows L2 VL
/-! ### fractions in lowest terms -/
theorem ev_cancel {p q : List Int} (tq : Tr q) (nq : q ≠ []) (h : ∀ x, evP p x * evP q x = 0) : ∀ x, evP p x = 0 := fun x => by
  have e : mulP (trimP p) q = [] := evP_uniq (tr_mul (tr_trim p) tq) tr_nil fun y => by rw [evP_mul, evP_ext (fun k => cf_trim p k) y, evNil]; exact h y
  have z : trimP p = [] := by
    apply Classical.byContradiction
    intro g
    have h1 := mul_len_eq g nq
    rw [e, List.length_nil] at h1
    have := List.length_pos_iff.mpr g
    have := List.length_pos_iff.mpr nq
    omega
  rw [← evP_ext (fun k => cf_trim p k) x, z]; rfl
/-- what is 0 behind a factor that is no nought is 0 -/
theorem ev_cancel2 {p p' q : List Int} (tq : Tr q) (nq : q ≠ []) (h : ∀ x, evP p x * evP q x = evP p' x * evP q x) (x : Rat) : evP p x = evP p' x := by
  have := ev_cancel (p := subP p p') tq nq (fun x => by rw [ev_sub]; have := h x; grind) x
  rw [ev_sub] at this
  grind
structure Fr (P Q : List Int) : Prop where
  tp : Tr P
  tq : Tr Q
  nq : Q ≠ []
  lead : 0 < cf Q (Q.length - 1)
  cont : Nat.gcd (contN P) (contN Q) = 1
  cop : Cop P Q
/-! uniqueness -/
theorem cop_dq {P Q P' Q' : List Int} (h : Cop P Q) (e : ∀ x, evP P x * evP Q' x = evP P' x * evP Q x) : Dq Q Q' := by
  obtain ⟨u, v, c, hc, hb⟩ := h
  refine ⟨c, addP (mulP u P') (mulP v Q'), by omega, fun x => ?_⟩
  have h1 := hb x
  have h2 := e x
  rw [evP_add, evP_mul, evP_mul, ← h1]
  grind
theorem plC_pos {a : List Int} (h : 0 < cf a (a.length - 1)) : plC a = (contN a : Int) := by
  unfold plC
  rw [if_neg (by omega)]
theorem cont_half {P P' : List Int} {k k' : Nat} (hk : Nat.gcd (contN P) k = 1) (e : ∀ i, (k' : Int) * cf P i = (k : Int) * cf P' i) : k ∣ k' := by
  have d : k ∣ contN (P.map fun x => (k' : Int) * x) := dvd_cont fun i => by
    rw [cf_map (f := fun x => (k' : Int) * x) (by simp), e]
    exact Int.dvd_mul_right _ _
  rw [contN_map] at d
  have : (k' : Int).natAbs = k' := rfl
  rw [this] at d
  exact Nat.Coprime.dvd_of_dvd_mul_right (k := k) (n := contN P) (by rw [Nat.Coprime, Nat.gcd_comm]; exact hk) d
theorem fr_uniq {P Q P' Q' : List Int} (h : Fr P Q) (h' : Fr P' Q') (e : ∀ x, evP P x * evP Q' x = evP P' x * evP Q x) : P = P' ∧ Q = Q' := by
  have d1 := cop_dq h.cop e
  have d2 := cop_dq h'.cop fun x => (e x).symm
  have pr := plain_prim h.tq h.nq
  have pr' := plain_prim h'.tq h'.nq
  have pe : plainP Q = plainP Q' := dq_anti pr pr' ((Dq.plain h'.tq).mpr (((Dq.plain h.tq).mp (Dq.refl _)).trans d1)) ((Dq.plain h.tq).mpr (((Dq.plain h'.tq).mp (Dq.refl _)).trans d2))
  have e1 := ev_plain h.tq h.nq
  have e2 := ev_plain h'.tq h'.nq
  rw [← pe, plC_pos h'.lead] at e2
  rw [plC_pos h.lead] at e1
  have k0 := contN_ne h.tq h.nq
  have c1 := h.cont
  have c2 := h'.cont
  obtain ⟨k, hk⟩ : ∃ k, k = contN Q := ⟨_, rfl⟩
  obtain ⟨k', hk'⟩ : ∃ k', k' = contN Q' := ⟨_, rfl⟩
  rw [← hk] at e1 c1 k0
  rw [← hk'] at e2 c2
  have r : ∀ x, ((k' : Int) : Rat) * evP P x = ((k : Int) : Rat) * evP P' x := fun x => by
    have := ev_cancel2 (p := scaleP P (k' : Int)) (p' := scaleP P' (k : Int)) pr.tr pr.ne (fun y => by
      have := e y
      rw [e1, e2] at this
      rw [ev_scale, ev_scale]
      grind) x
    rw [ev_scale, ev_scale] at this
    grind
  have ri := ray_ev r
  have kk : k = k' := Nat.dvd_antisymm (cont_half c1 ri) (cont_half c2 fun i => (ri i).symm)
  subst kk
  have kq : ((k : Int) : Rat) ≠ 0 := int_ne (by omega)
  refine ⟨evP_uniq h.tp h'.tp fun x => ?_, evP_uniq h.tq h'.tq fun x => by rw [e1, e2]⟩
  have := r x
  generalize ((k : Int) : Rat) = K at *
  grind
/-! sizes -/
theorem plC_abs (a : List Int) : (plC a).natAbs = contN a := by
  unfold plC
  split <;> omega
/-- with a whole polynomial as the rest -/
theorem fr_cof {P Q A B : List Int} (tP : Tr P) (tQ : Tr Q) (nP : P ≠ []) (nQ : Q ≠ []) (c : Cop P Q) (g : Nat.gcd (contN P) (contN Q) = 1) (e : ∀ x, evP P x * evP B x = evP A x * evP Q x) : ∃ K, ∀ x, evP A x = evP K x * evP P x := by
  have dA : Dq P A := cop_dq (Q := P) (P := Q) (P' := B) (Q' := A) c.symm (fun x => by have := e x; grind)
  have dB : Dq Q B := cop_dq c e
  have pP := plain_prim tP nP
  have pQ := plain_prim tQ nQ
  obtain ⟨A1, hA⟩ := dq_int pP (((Dq.plain tP).mp (Dq.refl _)).trans dA)
  obtain ⟨B1, hB⟩ := dq_int pQ (((Dq.plain tQ).mp (Dq.refl _)).trans dB)
  have eP := ev_plain tP nP
  have eQ := ev_plain tQ nQ
  have pn := plC_ne tP nP
  have ap := plC_abs P
  have aq := plC_abs Q
  rw [← ap, ← aq] at g
  generalize plC P = p at *
  generalize plC Q = q at *
  have r := ray_ev (a := B1) (b := A1) (u := p) (v := q) fun x => by
    have := ev_cancel2 (p := scaleP B1 p) (p' := scaleP A1 q) (tr_mul pP.tr pQ.tr) (q := mulP (plainP P) (plainP Q)) (fun z => by
      have h := mul_len_eq pP.ne pQ.ne
      rw [z, List.length_nil] at h
      have := List.length_pos_iff.mpr pP.ne
      have := List.length_pos_iff.mpr pQ.ne
      omega) (fun y => by
      have := e y
      rw [eP, eQ, hA, hB] at this
      rw [ev_scale, ev_scale, evP_mul]
      grind) x
    rw [ev_scale, ev_scale] at this
    grind
  have dv : ∀ k, p ∣ cf A1 k := fun k => by
    have h1 : p ∣ q * cf A1 k := ⟨cf B1 k, (r k).symm⟩
    have h2 : p.natAbs ∣ q.natAbs * (cf A1 k).natAbs := by rw [← Int.natAbs_mul]; exact Int.natAbs_dvd_natAbs.mpr h1
    exact Int.natAbs_dvd_natAbs.mp (Nat.Coprime.dvd_of_dvd_mul_left g h2)
  refine ⟨A1.map fun x => x / p, fun x => ?_⟩
  have h3 := evP_inj (a := A1) (b := (A1.map fun x => x / p).map fun x => p * x)
  have : ∀ x, evP A1 x = (p : Rat) * evP (A1.map fun x => x / p) x := fun x => by
    rw [← ev_cmul]
    refine evP_ext (fun k => ?_) x
    rw [cf_map (f := fun y => p * y) (by simp), cf_map (f := fun y => y / p) (by simp)]
    exact (Int.mul_ediv_cancel' (dv k)).symm
  rw [hA, this, eP]
  grind
/-- what divides with a whole rest is small -/
theorem fact_leZ {P Q a : List Int} {A X : Nat} (na : ¬ ∀ k, cf a k = 0) (hQ : ∀ x, evP a x = evP Q x * evP P x) (hA : ∀ c ∈ a, c.natAbs ≤ A) (hX : a.length + P.length ≤ 2 * X + 2) : ∀ k, (cf P k).natAbs ≤ A * (X + 1) ^ a.length * (2 * X + 3) ^ P.length := by
  have sp := flt_split (fun x => decide (evI a x = 0)) (span X)
  have rl := roots_le a.length a ((span X).filter fun x => decide (evI a x = 0)) (Nat.le_refl _) na ((span_nodup X).sublist List.filter_sublist) fun r hr => by simpa using (List.mem_filter.mp hr).2
  have sl : (span X).length = 2 * X + 1 := by simp [span]
  refine node_le (X := X) P.length (A * (X + 1) ^ a.length) P ((span X).filter fun x => !decide (evI a x = 0)) (Nat.le_refl _) (by omega) ((span_nodup X).sublist List.filter_sublist) fun x hx => ?_
  obtain ⟨h1, h2⟩ := List.mem_filter.mp hx
  have xX : x.natAbs ≤ X := by
    unfold span at h1
    obtain ⟨i, hi, rfl⟩ := List.mem_map.mp h1
    have := List.mem_range.mp hi
    omega
  refine ⟨xX, Nat.le_trans ?_ (evI_le xX hA)⟩
  have e := hQ (x : Rat)
  rw [evI_ev, evI_ev, evI_ev, ← Rat.intCast_mul] at e
  have e : evI a x = evI Q x * evI P x := by exact_mod_cast e
  have n0 : evI a x ≠ 0 := by simpa using h2
  rw [e, Int.natAbs_mul]
  refine Nat.le_mul_of_pos_left _ ?_
  rcases Nat.eq_zero_or_pos (evI Q x).natAbs with z | z
  · exact (n0 (by rw [e, show evI Q x = 0 by omega]; simp)).elim
  · exact z
theorem cof_sz {P K a : List Int} {z n : Nat} (tP : Tr P) (na : a ≠ []) (ta : Tr a) (h : ∀ x, evP a x = evP K x * evP P x) (hz : SzP z a) (la : a.length ≤ n) (hn : n ≤ 10) : SzP (z + 8 * n) P ∧ P.length ≤ n := by
  have nP : P ≠ [] := fun g => na (evP_uniq ta tr_nil fun x => by rw [h, g, evNil]; grind)
  have lp := dq_len tP nP ta na ⟨1, K, by decide, fun x => by rw [h]; grind⟩
  refine ⟨fun x hx => ?_, by omega⟩
  obtain ⟨k, hk, rfl⟩ := List.mem_iff_getElem.mp hx
  have b := fact_leZ (P := P) (a := a) (A := 2 ^ z) (X := n) (fun g => by
    have l := List.length_pos_iff.mpr na
    exact ta (a.length - 1) (by omega) (g _)) h (fun c hc => Nat.le_of_lt (hz c hc).lt) (by omega) k
  have ek : cf P k = P[k] := by
    have := cf_get hk
    rw [List.getElem?_eq_getElem hk] at this
    exact (Option.some.inj this).symm
  rw [ek] at b
  refine ⟨Nat.lt_of_le_of_lt b ?_⟩
  have h1 : (n + 1) ^ a.length ≤ (n + 1) ^ n := Nat.pow_le_pow_right (by omega) la
  have h2 : (2 * n + 3) ^ P.length ≤ (2 * n + 3) ^ n := Nat.pow_le_pow_right (by omega) (by omega)
  have h3 : (n + 1) * (2 * n + 3) < 2 ^ 8 := Nat.lt_of_le_of_lt (Nat.mul_le_mul (show n + 1 ≤ 11 by omega) (show 2 * n + 3 ≤ 23 by omega)) (by decide)
  have l1 := List.length_pos_iff.mpr na
  have h4 : ((n + 1) * (2 * n + 3)) ^ n < (2 ^ 8) ^ n := Nat.pow_lt_pow_left h3 (by omega)
  rw [Nat.mul_pow, ← Nat.pow_mul] at h4
  rw [Nat.pow_add, Nat.mul_assoc]
  exact Nat.mul_lt_mul_of_pos_left (Nat.lt_of_le_of_lt (Nat.mul_le_mul h1 h2) h4) (Nat.pow_pos (by decide))
theorem cop_nil {Q : List Int} (tQ : Tr Q) (nQ : Q ≠ []) (c : Cop [] Q) : Q.length = 1 := by
  obtain ⟨u, v, k, hk, e⟩ := c
  have d : Dq Q [1] := ⟨k, v, by omega, fun x => by have := e x; rw [evNil] at this; rw [evOne]; grind⟩
  have := dq_len tQ nQ tr_one (by simp) d
  have := List.length_pos_iff.mpr nQ
  simp at *
  omega
/-- the size of a fraction in lowest terms, by another form -/
theorem fr_sz {P Q A B : List Int} {z n : Nat} (f : Fr P Q) (tA : Tr A) (tB : Tr B) (nB : B ≠ []) (e : ∀ x, evP P x * evP B x = evP A x * evP Q x) (sA : SzP z A) (sB : SzP z B) (lA : A.length ≤ n) (lB : B.length ≤ n) (hn : n ≤ 10) :
    SzP (z + 8 * n) P ∧ SzP (z + 8 * n) Q ∧ P.length ≤ A.length ∧ Q.length ≤ B.length ∧ (P = [] ↔ A = []) := by
  have lB0 := List.length_pos_iff.mpr nB
  have lQ0 := List.length_pos_iff.mpr f.nq
  by_cases hP : P = []
  · subst hP
    have hA : A = [] := evP_uniq tA tr_nil (ev_cancel2 f.tq f.nq fun x => by rw [← e x, evNil]; grind)
    have l1 := cop_nil f.tq f.nq f.cop
    have c1 := f.cont
    obtain ⟨q, rfl⟩ := List.length_eq_one_iff.mp l1
    have cq : contN [q] = q.natAbs := by simp [contN]
    rw [cq] at c1
    have c0 : contN ([] : List Int) = 0 := rfl
    rw [c0, Nat.gcd_zero_left] at c1
    refine ⟨(fun x hx => nomatch hx), fun x hx => ?_, by simp, by rw [l1]; exact lB0, by simp [hA]⟩
    simp at hx
    subst hx
    exact ⟨by rw [c1]; exact Nat.one_lt_two_pow (by omega)⟩
  · have nA : A ≠ [] := fun g => hP (evP_uniq f.tp tr_nil (ev_cancel2 tB nB fun x => by rw [e x, g, evNil]; grind))
    obtain ⟨K, hK⟩ := fr_cof f.tp f.tq hP f.nq f.cop f.cont e
    obtain ⟨L, hL⟩ := fr_cof f.tq f.tp f.nq hP f.cop.symm (by rw [Nat.gcd_comm]; exact f.cont) (A := B) (B := A) (fun x => by have := e x; grind)
    exact ⟨(cof_sz f.tp nA tA hK sA lA hn).1, (cof_sz f.tq nB tB hL sB lB hn).1, (cof_sz f.tp nA tA hK sA (Nat.le_refl _) (by omega)).2, (cof_sz f.tq nB tB hL sB (Nat.le_refl _) (by omega)).2, by simp [hP, nA]⟩
end W

set_option Elab.async false
set_option linter.all false
set_option maxRecDepth 100000
set_option autoImplicit false
set_option maxHeartbeats 4000000
namespace W
open PySem PySem.Spec PyProof.Rows L2 VL
/-! ### the program's fraction -/
end W

set_option Elab.async false
set_option linter.all false
set_option maxRecDepth 100000
set_option autoImplicit false
set_option maxHeartbeats 4000000
namespace W
open PySem PySem.Spec PyProof.Rows L2 VL
/-! ### fractions with another form of them; sums, differences, products, quotients -/
def fD (P Q : List Int) : D := .tuple [pD P, pD Q]
structure FB (z n : Nat) (P Q A B : List Int) : Prop where
  fr : Fr P Q
  tA : Tr A
  tB : Tr B
  nB : B ≠ []
  sA : SzP z A
  sB : SzP z B
  lA : A.length ≤ n
  lB : B.length ≤ n
  ln : n ≤ 10
  e : ∀ x, evP P x * evP B x = evP A x * evP Q x
section
variable {z n z' n' zs ns : Nat} {P Q A B P' Q' A' B' S T : List Int}
theorem FB.szP (h : FB z n P Q A B) : SzP (z + 8 * n) P := (fr_sz h.fr h.tA h.tB h.nB h.e h.sA h.sB h.lA h.lB h.ln).1
theorem FB.szQ (h : FB z n P Q A B) : SzP (z + 8 * n) Q := (fr_sz h.fr h.tA h.tB h.nB h.e h.sA h.sB h.lA h.lB h.ln).2.1
theorem FB.lP (h : FB z n P Q A B) : P.length ≤ n := Nat.le_trans (fr_sz h.fr h.tA h.tB h.nB h.e h.sA h.sB h.lA h.lB h.ln).2.2.1 h.lA
theorem FB.lQ (h : FB z n P Q A B) : Q.length ≤ n := Nat.le_trans (fr_sz h.fr h.tA h.tB h.nB h.e h.sA h.sB h.lA h.lB h.ln).2.2.2.1 h.lB
theorem FB.nil (h : FB z n P Q A B) : P = [] ↔ A = [] := (fr_sz h.fr h.tA h.tB h.nB h.e h.sA h.sB h.lA h.lB h.ln).2.2.2.2
theorem mul_ne {p q : List Int} (hp : p ≠ []) (hq : q ≠ []) : mulP p q ≠ [] := by
  have := mul_len_eq hp hq
  have := List.length_pos_iff.mpr hp
  have := List.length_pos_iff.mpr hq
  rw [← List.length_pos_iff]; omega
/-- the same function, told in two ways -/
theorem FB.uniq (h : FB z n P Q A B) (h' : FB z' n' P' Q' A' B') (e : ∀ x, evP A x * evP B' x = evP A' x * evP B x) : P = P' ∧ Q = Q' := by
  refine fr_uniq h.fr h'.fr fun x => ?_
  have := ev_cancel2 (p := mulP P Q') (p' := mulP P' Q) (tr_mul h.tB h'.tB) (mul_ne h.nB h'.nB) (fun y => by
    have h1 := h.e y
    have h2 := h'.e y
    have h3 := e y
    rw [evP_mul, evP_mul, evP_mul]
    have l1 : evP P y * evP Q' y * (evP B y * evP B' y) = (evP P y * evP B y) * evP Q' y * evP B' y := by grind
    have l2 : evP P' y * evP Q y * (evP B y * evP B' y) = (evP P' y * evP B' y) * evP Q y * evP B y := by grind
    rw [l1, l2, h1, h2]
    have l3 : evP A y * evP Q y * evP Q' y * evP B' y = (evP A y * evP B' y) * evP Q y * evP Q' y := by grind
    rw [l3, h3]; grind) x
  rwa [evP_mul, evP_mul] at this
/-- another form -/
theorem FB.form (h : FB z n P Q A B) (tS : Tr S) (tT : Tr T) (nT : T ≠ []) (sS : SzP zs S) (sT : SzP zs T) (lS : S.length ≤ ns) (lT : T.length ≤ ns) (hn : ns ≤ 10) (e : ∀ x, evP A x * evP T x = evP S x * evP B x) : FB zs ns P Q S T :=
  ⟨h.fr, tS, tT, nT, sS, sT, lS, lT, hn, fun x => by
    have := ev_cancel2 (p := mulP P T) (p' := mulP S Q) h.tB h.nB (fun y => by
      have h1 := h.e y
      have h2 := e y
      rw [evP_mul, evP_mul]
      have l1 : evP P y * evP T y * evP B y = (evP P y * evP B y) * evP T y := by grind
      rw [l1, h1]
      have l2 : evP A y * evP Q y * evP T y = (evP A y * evP T y) * evP Q y := by grind
      rw [l2, h2]; grind) x
    rwa [evP_mul, evP_mul] at this⟩
/-- a form that the fraction is to have -/
structure Bs (zs ns : Nat) (S T : List Int) : Prop where
  tS : Tr S
  tT : Tr T
  nT : T ≠ []
  sS : SzP zs S
  sT : SzP zs T
  lS : S.length ≤ ns
  lT : T.length ≤ ns
  hn : ns ≤ 10
  hl : S.length + T.length ≤ 14
theorem ix_f0 (P Q : List Int) : ixD (fD P Q) (.int 0) = some (pD P) := by unfold fD; simp
theorem ix_f1 (P Q : List Int) : ixD (fD P Q) (.int 1) = some (pD Q) := by unfold fD; simp
end
end W

set_option Elab.async false
set_option linter.all false
set_option maxRecDepth 100000
set_option autoImplicit false
set_option maxHeartbeats 4000000
namespace W
open PySem PySem.Spec PyProof.Rows L2 VL
/-! ### the law's own functions -/
theorem cont56_loop (w0 : SD) (a : List Int) : ∀ (g : Nat) (j : SD), ∃ j', forO (gTo (gSet 2) b__law_content_k56_1) (a.map .int) [w0, .sh (.int (g : Int)), j] = .nx [w0, .sh (.int ((a.foldl (fun g c => Nat.gcd g c.natAbs) g : Nat) : Int)), j'] := by
  induction a with
  | nil => exact fun g j => ⟨j, rfl⟩
  | cons c a ih =>
    intro g j
    have gk := gcd56_ok (g : Int) c
    obtain ⟨j', e⟩ := ih (Nat.gcd g c.natAbs) (.sh (.int c))
    have st : gTo (gSet 2) b__law_content_k56_1 (.int c) [w0, .sh (.int (g : Int)), j] = .nx [w0, .sh (.int ((Nat.gcd g c.natAbs : Nat) : Int)), .sh (.int c)] := by
      have gk' : m__law_gcd_k56 [.int (g : Int), .int c] = .ok (.sh (.int ((Nat.gcd g c.natAbs : Nat) : Int))) := by simpa using gk
      simp [b__law_content_k56_1, gk']
    refine ⟨j', ?_⟩
    rw [List.map_cons, List.foldl_cons, forO, st]
    exact e
theorem content56_ok (a : List Int) : m__law_content_k56 [pD a] = .ok (.sh (.int (contN a : Int))) := by
  obtain ⟨j, e⟩ := cont56_loop (.sh (pD a)) a 0 .no
  have e' : forO (gTo (gSet 2) b__law_content_k56_1) (a.map .int) [.sh (pD a), .sh (.int 0), .no] = .nx [.sh (pD a), .sh (.int (contN a : Int)), j] := e
  simp [m__law_content_k56, c__law_content_k56, e']
/-- as the program's plain, but for the sign -/
def bareP (a : List Int) : List Int := a.map fun x => x.fdiv (contN a : Int)
theorem bare_cf {a : List Int} (ta : Tr a) (na : a ≠ []) : ∃ s : Int, (s = 1 ∨ s = -1) ∧ ∀ k, cf (bareP a) k = s * cf (plainP a) k := by
  have c0 : (contN a : Int) ≠ 0 := by have := contN_ne ta na; omega
  have key : ∀ k, cf (bareP a) k = (cf a k).fdiv (contN a : Int) := fun k => cf_map (f := fun x => x.fdiv (contN a : Int)) (by simp) k
  by_cases h : cf a (a.length - 1) < 0
  · have e : plC a = -(contN a : Int) := by unfold plC; rw [if_pos h]
    refine ⟨-1, .inr rfl, fun k => ?_⟩
    have := cf_plain na ta k
    rw [e] at this
    rw [key, this, show (-(contN a : Int) * cf (plainP a) k) = (contN a : Int) * (-1 * cf (plainP a) k) by grind]
    exact Int.mul_fdiv_cancel_left _ c0
  · have e : plC a = (contN a : Int) := by unfold plC; rw [if_neg h]
    refine ⟨1, .inl rfl, fun k => ?_⟩
    have := cf_plain na ta k
    rw [e] at this
    rw [key, this, Int.one_mul]
    exact Int.mul_fdiv_cancel_left _ c0
theorem bare_len (a : List Int) : (bareP a).length = a.length := by simp [bareP]
theorem bare_tr {a : List Int} (ta : Tr a) (na : a ≠ []) : Tr (bareP a) := by
  obtain ⟨s, hs, e⟩ := bare_cf ta na
  have tp := (plain_prim ta na).tr
  intro m hm
  rw [e]
  rw [bare_len] at hm
  exact Int.mul_ne_zero (by rcases hs with rfl | rfl <;> decide) (tp m (by rw [plain_len]; exact hm))
theorem bare_sz {a : List Int} {z : Nat} (ta : Tr a) (na : a ≠ []) (h : SzP z (plainP a)) : SzP z (bareP a) := by
  obtain ⟨s, hs, e⟩ := bare_cf ta na
  intro x hx
  obtain ⟨k, hk, rfl⟩ := List.mem_iff_getElem.mp hx
  have ek : cf (bareP a) k = (bareP a)[k] := by
    have := cf_get hk
    rw [List.getElem?_eq_getElem hk] at this
    exact (Option.some.inj this).symm
  rw [← ek, e]
  rcases hs with rfl | rfl
  · rw [Int.one_mul]; exact h.cf k
  · rw [show -1 * cf (plainP a) k = -cf (plainP a) k by omega]; exact (h.cf k).neg
theorem bare_plain {a : List Int} (ta : Tr a) (na : a ≠ []) : plainP (bareP a) = plainP a := by
  obtain ⟨s, hs, e⟩ := bare_cf ta na
  have tp := plain_prim ta na
  have nb : bareP a ≠ [] := by
    have := bare_len a
    have := List.length_pos_iff.mpr na
    rw [← List.length_pos_iff]; omega
  have := plain_ray (bare_tr ta na) tp.tr nb tp.ne (u := 1) (v := s) (by decide) (by rcases hs with rfl | rfl <;> decide) fun k => by rw [e]; grind
  rw [this, plain_self tp]
theorem bare56_ok {a : List Int} (ta : Tr a) (na : a ≠ []) (h : SzP 4400 (plainP a)) (la : a.length ≤ 10000) : m__law_bare [pD a] = .ok (.ow ((bareP a).map .int)) := by
  have c0 : (contN a : Int) ≠ 0 := by have := contN_ne ta na; omega
  have bz := bare_sz ta na h
  have hls : a.length ≤ sizeLine := slB (by omega)
  have hc : ∀ a1 a2 : SD, compR (compS [2] (gSet 2) (cst true) (e2 fdivD (eOwn 2) (eOwn 1)) [a1, .sh (.int (contN a : Int)), a2]) (a.map .int) = .ok ((bareP a).map .int) := fun a1 a2 => by
    unfold bareP
    rw [List.map_map]
    exact compR_map' fun x hx => by
      have od := okDiv_q (bz _ (List.mem_map.mpr ⟨x, hx, rfl⟩)) c0
      simp [compS, od]
  simp [m__law_bare, c__law_bare, content56_ok, hls, hc]
/-! sums and products -/
/-! the questions -/
theorem is_list_ok (l : List Int) (hl : l.length ≤ 100000) : m__law_is_list [pD l] = .ok (.sh (.bool true)) := by
  have hls : l.length ≤ sizeLine := slB hl
  have hc : ∀ a1 : SD, compR (compS [1] (gSet 1) (cst true) (eAndV (e1 (isiD "int") (eOwn 1)) (e1 notD (e1 (isiD "bool") (eOwn 1)))) [a1, .no]) (l.map .int) = .ok ((l.map fun _ => true).map .bool) := fun a1 => by
    rw [List.map_map]
    exact compR_map' fun x hx => by simp [compS]
  have hb : blsD (l.map (PyData.bool ∘ fun _ => true)) = some (l.map fun _ => true) := by rw [← List.map_map]; exact blsD_map _
  simp [m__law_is_list, c__law_is_list, hls, hc, hb]
/-! ### the law's own Euclid -/
theorem cp_step {o r : List Int} {s t : Nat} (tr : Tr r) (no : o ≠ []) (hl : o.length ≤ r.length) (sr : SzP s r) (so : SzP t o) (hst : s + t ≤ 134217728) (lr : r.length ≤ 1000) (w0 w1 w2 y5 y6 y7 y8 : SD) :
    ∃ z5 z6 z7 z8, b__law_coprime_1 [w0, w1, w2, .sh (pD o), .sh (pD r), y5, y6, y7, y8] = .nx [w0, w1, w2, .sh (pD o), .sh (pD (stP o (cf o (o.length - 1)) r (r.length - o.length))), z5, z6, z7, z8] := by
  have lo := List.length_pos_iff.mpr no
  obtain ⟨by_, hby⟩ : ∃ k, k = r.length - o.length := ⟨_, rfl⟩
  have i1 : ixD (pD r) (.int ((r.length : Int) - 1)) = some (.int (cf r (r.length - 1))) := by
    rw [show (r.length : Int) - 1 = ((r.length - 1 : Nat) : Int) by omega]; exact p_ixc (by omega)
  have i2 : ixD (pD o) (.int ((o.length : Int) - 1)) = some (.int (cf o (o.length - 1))) := by
    rw [show (o.length : Int) - 1 = ((o.length - 1 : Nat) : Int) by omega]; exact p_ixc (by omega)
  have r1 := range1_ok (x := (by_ : Nat)) (by omega) (by omega)
  have r2 := range1_ok (x := (r.length : Nat)) (by omega) (by omega)
  simp only [Int.toNat_natCast] at r1 r2
  have e1' : (r.length : Int) - (o.length : Int) = (by_ : Int) := by omega
  have h1 : by_ ≤ sizeLine := slB (by omega)
  have h2 : r.length ≤ sizeLine := slB (by omega)
  have c1 : ∀ a0 a1 a2 a3 a4 a5 a6 a7 a8 : SD, compR (compS [8] (gSet 8) (cst true) (cst (.int 0)) [a0, a1, a2, a3, a4, a5, a6, a7, a8]) (rngL 0 1 by_) = .ok ((fl by_ fun _ => 0).map .int) := fun a0 a1 a2 a3 a4 a5 a6 a7 a8 => by
    rw [rng0, fl, List.map_map]
    exact compR_map' fun k hk => by simp [compS]
  have ca : addD (pD (fl by_ fun _ => 0)) (pD o) = some (pD (shP o by_)) := by
    unfold shP
    rw [if_neg no]
    unfold pD
    rw [r_addL, r_cat (slB (by simp; omega)), List.map_append]; rfl
  have ca' : addD (.list ((fl by_ fun _ => 0).map .int)) (pD o) = some (pD (shP o by_)) := ca
  have shl : (shP o by_).length = r.length := by
    unfold shP
    rw [if_neg no]; simp; omega
  obtain ⟨f, hf⟩ : ∃ f, f = cf r (r.length - 1) := ⟨_, rfl⟩
  obtain ⟨l, hL⟩ : ∃ l, l = cf o (o.length - 1) := ⟨_, rfl⟩
  rw [← hf] at i1
  rw [← hL] at i2
  have c2 : ∀ a0 a1 a2 a3 a8 : SD, compR (compS [8] (gSet 8) (cst true) (e2 subD (e2 mulD (e2 ixD (eOwn 4) (eOwn 8)) (eOwn 6)) (e2 mulD (e2 ixD (eOwn 7) (eOwn 8)) (eOwn 5))) [a0, a1, a2, a3, .sh (pD r), .sh (.int f), .sh (.int l), .sh (pD (shP o by_)), a8]) (rngL 0 1 r.length) = .ok ((fl r.length fun k => cf r k * l - cf (shP o by_) k * f).map .int) := fun a0 a1 a2 a3 a8 => by
    rw [rng0]
    unfold fl
    rw [List.map_map]
    exact compR_map' fun k hk => by
      have hk := List.mem_range.mp hk
      have j1 := p_ixc hk
      have j2 := p_ixc (l := shP o by_) (n := k) (by omega)
      have o1 : okMul (cf r k) l = true := okMul_of (sr.cf k) (hL ▸ so.cf _) hst
      have o2 : okMul (cf (shP o by_) k) f = true := okMul_of ((so.sh by_).cf k) (hf ▸ sr.cf _) (by omega)
      simp [compS, j1, j2, o1, o2]
  have ht := trim56_ok (fl r.length fun k => cf r k * l - cf (shP o by_) k * f) (by simp; omega)
  have he : trimP (fl r.length fun k => cf r k * l - cf (shP o by_) k * f) = stP o l r by_ := trim_eq (tr_st _ _ _ _) fun k => by
    rw [cf_fl, cf_st, cf_sh, show by_ + o.length - 1 = r.length - 1 by omega, ← hf]
    by_cases hk : k < r.length
    · rw [if_pos hk]
      split
      · simp
      · rfl
    · rw [if_neg hk, cf_out (l := r) (by omega), if_neg (by omega), cf_out (l := o) (by omega)]; simp
  rw [he] at ht
  have ht' : m__law_trim_k56 [.list ((fl r.length fun k => cf r k * l - cf (shP o by_) k * f).map .int)] = .ok (.ow ((stP o l r by_).map .int)) := ht
  rw [← hby, ← hL]
  exact ⟨.sh (.int f), .sh (.int l), .sh (pD (shP o by_)), y8, by simp [b__law_coprime_1, i1, i2, e1', r1, r2, h1, h2, rngL_length, c1, c2, ca, ht, -Out.nx.injEq] <;> rfl⟩
end W

set_option Elab.async false
set_option linter.all false
set_option maxRecDepth 100000
set_option autoImplicit false
set_option maxHeartbeats 4000000
namespace W
open PySem PySem.Spec PyProof.Rows L2 VL
/-! ### the law's own Euclid, to its end -/
theorem st_short {o r : List Int} (no : o ≠ []) (hl : o.length ≤ r.length) : (stP o (cf o (o.length - 1)) r (r.length - o.length)).length < r.length := by
  have lo := List.length_pos_iff.mpr no
  have : (stP o (cf o (o.length - 1)) r (r.length - o.length)).length ≤ r.length - 1 := len_of_zero (tr_st _ _ _ _) fun k hk => by
    rw [cf_st, show r.length - o.length + o.length - 1 = r.length - 1 by omega, if_neg (by omega)]
    by_cases h : k = r.length - 1
    · subst h
      rw [show r.length - 1 - (r.length - o.length) = o.length - 1 by omega, Int.mul_comm]; omega
    · rw [cf_out (l := r) (k := k) (by omega), cf_out (l := o) (k := k - (r.length - o.length)) (by omega)]; simp
  omega
theorem cp_inner {o : List Int} {t : Nat} (to : Tr o) (no : o ≠ []) (so : SzP t o) (w0 w1 w2 : SD) : ∀ (n : Nat) (r : List Int) (s : Nat), Tr r → r.length < n → n ≤ 100 → SzP s r → s + n * (t + 1) + t ≤ 100000000 → ∃ (R q : List Int) (w : Int), Tr R ∧ R.length < o.length ∧ w ≠ 0 ∧ (∀ x, (w : Rat) * evP r x = evP q x * evP o x + evP R x) ∧
    ∀ y5 y6 y7 y8 : SD, ∃ z5 z6 z7 z8, whileO (e1 bOf (e2 geD (e1 lenD (eCons (eOwn 4) (cst []))) (e1 lenD (eCons (eOwn 3) (cst []))))) b__law_coprime_1 (n + 1) [w0, w1, w2, .sh (pD o), .sh (pD r), y5, y6, y7, y8] = .nx [w0, w1, w2, .sh (pD o), .sh (pD R), z5, z6, z7, z8]
  | 0, r, s, _, h, _, _, _ => by omega
  | n + 1, r, s, tr, hn, hn2, sr, hs => by
    by_cases hl : o.length ≤ r.length
    · rw [Nat.succ_mul] at hs
      have lo := List.length_pos_iff.mpr no
      have sh := st_short no hl
      have tR := tr_st o (cf o (o.length - 1)) r (r.length - o.length)
      have sR := SzP.st so sr (so.cf (o.length - 1)) (r.length - o.length)
      have ev := ev_st o (cf o (o.length - 1)) r (r.length - o.length)
      obtain ⟨R, q, w, k1, k2, k3, k4, k5⟩ := cp_inner to no so w0 w1 w2 n _ (s + t + 1) tR (by omega) (by omega) sR (by omega)
      have l0 : cf o (o.length - 1) ≠ 0 := to _ (by omega)
      have st := cp_step tr no hl sr so (by omega) (by omega) w0 w1 w2
      generalize stP o (cf o (o.length - 1)) r (r.length - o.length) = r' at *
      refine ⟨R, addP q (shP [w * cf r (r.length - o.length + o.length - 1)] (r.length - o.length)), w * cf o (o.length - 1), k1, k2, Int.mul_ne_zero k3 l0, fun x => ?_, fun y5 y6 y7 y8 => ?_⟩
      · have h1 := k4 x
        rw [ev] at h1
        rw [evP_add, ev_sh, evOne, Rat.intCast_mul, Rat.intCast_mul]
        grind
      · obtain ⟨z5, z6, z7, z8, e⟩ := st y5 y6 y7 y8
        obtain ⟨u5, u6, u7, u8, e'⟩ := k5 z5 z6 z7 z8
        refine ⟨u5, u6, u7, u8, ?_⟩
        rw [whileO]
        simp [hl, e, e']
    · refine ⟨r, [], 1, tr, by omega, by decide, fun x => by rw [evNil]; grind, fun y5 y6 y7 y8 => ⟨y5, y6, y7, y8, ?_⟩⟩
      rw [whileO]
      simp [hl]
theorem fr_relA {f s : List Int} (tf : Tr f) (ts : Tr s) (ns : s ≠ []) : ∃ (w : Int) (q : List Int), w ≠ 0 ∧ (∀ x, (w : Rat) * evP f x = evP q x * evP s x + evP (frP f s) x) ∧ (frP f s).length < s.length := by
  by_cases h : f.length < s.length
  · rw [fr_swap h]
    exact ⟨1, [], by decide, fun x => by rw [evNil]; grind, h⟩
  · exact ⟨_, _, lead_ne ts ns _, fr_rel (by omega), fr_len tf ns (by omega)⟩
theorem rem_uniq {f s R R' q q' : List Int} {w w' : Int} (ts : Tr s) (ns : s ≠ []) (hw : w ≠ 0) (hw' : w' ≠ 0) (e : ∀ x, (w : Rat) * evP f x = evP q x * evP s x + evP R x) (e' : ∀ x, (w' : Rat) * evP f x = evP q' x * evP s x + evP R' x) (l : R.length < s.length) (l' : R'.length < s.length) (x : Rat) : (w' : Rat) * evP R x = (w : Rat) * evP R' x := by
  have ez : ∀ x, evP (subP (scaleP R w') (scaleP R' w)) x = (w' : Rat) * evP R x - (w : Rat) * evP R' x := fun x => by rw [ev_sub, ev_scale, ev_scale]; grind
  have z := dq_short (d := s) (p := subP (scaleP R w') (scaleP R' w)) ts ns (show Tr (subP (scaleP R w') (scaleP R' w)) from tr_add _ _) ⟨1, subP (scaleP q' w) (scaleP q w'), by decide, fun x => by
    have h1 := e x
    have h2 := e' x
    rw [ez, ev_sub, ev_scale, ev_scale]
    have l1 : evP R x = (w : Rat) * evP f x - evP q x * evP s x := by grind
    have l2 : evP R' x = (w' : Rat) * evP f x - evP q' x * evP s x := by grind
    rw [l1, l2]
    have : ((1 : Int) : Rat) = 1 := rfl
    rw [this]; grind⟩ (by
    have := sub_len (scaleP R w') (scaleP R' w)
    have := scale_len R w'
    have := scale_len R' w
    omega)
  have := ez x
  rw [z, evNil] at this
  grind
theorem ev_zero_iff {R R' : List Int} {w w' : Int} (tR : Tr R) (tR' : Tr R') (hw : w ≠ 0) (hw' : w' ≠ 0) (e : ∀ x, (w' : Rat) * evP R x = (w : Rat) * evP R' x) : R = [] ↔ R' = [] := by
  have k : ∀ {R R' : List Int} {w w' : Int}, Tr R' → w ≠ 0 → (∀ x, (w' : Rat) * evP R x = (w : Rat) * evP R' x) → R = [] → R' = [] := fun {R R' w w'} tR' hw e h => evP_uniq tR' tr_nil fun x => by
    have := e x
    rw [h, evNil] at this
    rw [evNil]
    have h2 := int_ne hw
    have h3 : (w : Rat) * evP R' x = 0 := by rw [← this]; grind
    exact (Rat.mul_eq_zero.mp h3).resolve_left h2
  exact ⟨k tR' hw e, k tR hw' fun x => (e x).symm⟩
/-- one turn -/
theorem cp_turn {one other : List Int} {s t : Nat} (t1 : Tr one) (n1 : one ≠ []) (t2 : Tr other) (n2 : other ≠ []) (s1 : SzP s one) (s2 : SzP t other) (l1 : one.length ≤ 90) (hs : s + 101 * (t + 1) ≤ 100000000) (l2 : other.length ≤ 90) (w0 w1 : SD) :
    ∃ R, Tr R ∧ R.length < other.length ∧ (R = [] ↔ frP (plainP one) (plainP other) = []) ∧ plainP R = plainP (frP (plainP one) (plainP other)) ∧ (∀ d, (Dq d one ∧ Dq d other) ↔ (Dq d other ∧ Dq d R)) ∧
      (SzP 4400 (plainP R) → ∀ y4 y5 y6 y7 y8 : SD, ∃ z4 z5 z6 z7 z8, b__law_coprime_2 [w0, w1, .sh (pD one), .sh (pD other), y4, y5, y6, y7, y8] = .nx [w0, w1, .sh (pD other), .sh (pD (if R = [] then [] else bareP R)), z4, z5, z6, z7, z8]) := by
  have m1 : (one.length + 1) * (t + 1) ≤ 100 * (t + 1) := Nat.mul_le_mul_right _ (by omega)
  rw [Nat.succ_mul] at hs
  obtain ⟨R, q, w, k1, k2, k3, k4, k5⟩ := cp_inner t2 n2 s2 w0 w1 (.sh (pD one)) (one.length + 1) one s t1 (by omega) (by omega) s1 (by omega)
  have p1 := plain_prim t1 n1
  have p2 := plain_prim t2 n2
  have v1 := ev_plain t1 n1
  have v2 := ev_plain t2 n2
  have c1 := plC_ne t1 n1
  obtain ⟨w', q', g1, g2, g3⟩ := fr_relA p1.tr p2.tr p2.ne
  have ru := rem_uniq (f := plainP one) (s := plainP other) (R := R) (R' := frP (plainP one) (plainP other)) (q := scaleP q (plC other)) (q' := q') (w := w * plC one) (w' := w') p2.tr p2.ne (Int.mul_ne_zero k3 c1) g1 (fun x => by
    have := k4 x
    rw [v1, v2] at this
    rw [ev_scale, Rat.intCast_mul]
    grind) g2 (by rw [plain_len]; exact k2) g3
  have tF := fr_tr (b := plainP other) p1.tr
  have zi := ev_zero_iff k1 tF (Int.mul_ne_zero k3 c1) g1 ru
  refine ⟨R, k1, k2, zi, ?_, fun d => ?_, fun hz y4 y5 y6 y7 y8 => ?_⟩
  · by_cases h : R = []
    · rw [h, zi.mp h]
    · exact plain_ray k1 tF h (fun g => h (zi.mpr g)) g1 (Int.mul_ne_zero k3 c1) (ray_ev ru)
  · constructor
    · rintro ⟨h1, h2⟩
      exact ⟨h2, h1.comb h2 (w := 1) (by decide) (s := [w]) (t := scaleP q (-1)) fun x => by
        have := k4 x
        have e1 : ((-1 : Int) : Rat) = -1 := rfl
        have e0 : ((1 : Int) : Rat) = 1 := rfl
        rw [evOne, ev_scale, e1, e0]; grind⟩
    · rintro ⟨h1, h2⟩
      exact ⟨h1.comb h2 (w := w) k3 (s := q) (t := [1]) fun x => by
        have := k4 x
        have e0 : ((1 : Int) : Rat) = 1 := rfl
        rw [evOne, e0, this]; grind, h1⟩
  · obtain ⟨z5, z6, z7, z8, e⟩ := k5 y5 y6 y7 y8
    have e' := sWhile_eq e (by simp)
    have lo : listO [pD one] = some (one.map .int) := by unfold pD; exact r_listO
    by_cases h : R = []
    · rw [if_pos h]
      subst h
      have lz : (pD []) = PyData.list [] := rfl
      exact ⟨_, z5, z6, z7, z8, by simp [b__law_coprime_2, lo, e', -Out.nx.injEq] <;> rfl⟩
    · rw [if_neg h]
      have lR := List.length_pos_iff.mpr h
      have br := bare56_ok k1 h hz (by omega)
      exact ⟨_, z5, z6, z7, z8, by simp [b__law_coprime_2, lo, e', lR, br, -Out.nx.injEq] <;> rfl⟩
section
variable {A B : List Int} {z l N Bd : Nat}
theorem dq_self_nil (one : List Int) (d : List Int) : Dq d one ↔ (Dq d one ∧ Dq d []) := ⟨fun h => ⟨h, Dq.nil d⟩, fun h => h.1⟩
theorem cp_loop (co : CQ z l N Bd A B) (w0 w1 : SD) : ∀ (n : Nat) (one other : List Int), Tr one → one ≠ [] → Tr other → Chn A B (plainP one) (plainP other) → other.length < n → other.length < one.length → one.length ≤ 90 → other.length ≤ A.length → other.length ≤ B.length → SzP Bd one → SzP Bd other → A.length + B.length ≤ N + 2 * (gcS n (plainP one) (plainP other)).length →
    ∃ one', Tr one' ∧ one' ≠ [] ∧ (∀ d, Dq d one' ↔ (Dq d one ∧ Dq d other)) ∧ ∀ y4 y5 y6 y7 y8 : SD, ∃ z4 z5 z6 z7 z8, whileO (e1 bOf (e2 gtD (e1 lenD (eCons (eOwn 3) (cst []))) (cst (.int 0)))) b__law_coprime_2 (n + 1) [w0, w1, .sh (pD one), .sh (pD other), y4, y5, y6, y7, y8] = .nx [w0, w1, .sh (pD one'), .sh (pD []), z4, z5, z6, z7, z8]
  | 0, one, other, _, _, _, _, h, _, _, _, _, _, _, _ => by omega
  | n + 1, one, other, t1, n1, t2, ch, hn, hl, lo, hA, hB, s1, s2, hN => by
    have big := co.big
    by_cases n2 : other = []
    · subst n2
      exact ⟨one, t1, n1, fun d => dq_self_nil one d, fun y4 y5 y6 y7 y8 => ⟨y4, y5, y6, y7, y8, by rw [whileO]; simp⟩⟩
    · have lp := List.length_pos_iff.mpr n2
      have p1 := plain_prim t1 n1
      have p2 := plain_prim t2 n2
      obtain ⟨R, tR, lR, zi, pe, dq, tn⟩ := cp_turn t1 n1 t2 n2 s1 s2 (by omega) (by omega) (by omega) w0 w1
      rw [gcS, if_neg p2.ne] at hN
      by_cases r0 : R = []
      · obtain tn := tn (by rw [r0]; exact fun x h => nomatch h)
        refine ⟨other, t2, n2, fun d => ?_, fun y4 y5 y6 y7 y8 => ?_⟩
        · rw [dq d, r0]; exact dq_self_nil other d
        · obtain ⟨z4, z5, z6, z7, z8, e⟩ := tn y4 y5 y6 y7 y8
          rw [if_pos r0] at e
          refine ⟨z4, z5, z6, z7, z8, ?_⟩
          have w : whileO (e1 bOf (e2 gtD (e1 lenD (eCons (eOwn 3) (cst []))) (cst (.int 0)))) b__law_coprime_2 (n + 1) [w0, w1, .sh (pD other), .sh (pD []), z4, z5, z6, z7, z8] = .nx [w0, w1, .sh (pD other), .sh (pD []), z4, z5, z6, z7, z8] := by rw [whileO]; simp
          rw [whileO]
          simp [lp, e, w]
      · have fr0 : frP (plainP one) (plainP other) ≠ [] := fun g => r0 (zi.mpr g)
        have ch' := chn_step ch p1.tr p2.tr p2.ne (by rw [plain_len, plain_len]; omega) fr0
        rw [← pe] at ch' hN
        have pR := plain_prim tR r0
        have sR := CQ.next (n := n) co p2.tr ch' pR (by rw [plain_len, plain_len]; exact lR) (by rw [plain_len]; omega) (by rw [plain_len]; omega) (by rw [plain_len]; omega) hN
        have tn := tn (sR.mono big)
        have bp := bare_plain tR r0
        have bl := bare_len R
        have nb : bareP R ≠ [] := by
          have := List.length_pos_iff.mpr r0
          rw [← List.length_pos_iff]; omega
        obtain ⟨one', k1, k2, k3, k4⟩ := cp_loop co w0 w1 n other (bareP R) t2 n2 (bare_tr tR r0) (by rw [bp]; exact ch') (by omega) (by omega) (by omega) (by omega) (by omega) s2 (bare_sz tR r0 sR) (by rw [bp]; exact hN)
        refine ⟨one', k1, k2, fun d => ?_, fun y4 y5 y6 y7 y8 => ?_⟩
        · rw [k3, dq d]
          have : Dq d (bareP R) ↔ Dq d R := by
            rw [← Dq.plain (bare_tr tR r0), bp, Dq.plain tR]
          rw [this]
        · obtain ⟨z4, z5, z6, z7, z8, e⟩ := tn y4 y5 y6 y7 y8
          rw [if_neg r0] at e
          obtain ⟨u4, u5, u6, u7, u8, e'⟩ := k4 z4 z5 z6 z7 z8
          refine ⟨u4, u5, u6, u7, u8, ?_⟩
          rw [whileO]
          simp [lp, e, e']
end
/-- Euclid's way of the law ends with a greatest common divisor -/
theorem cp_main {a b : List Int} {z : Nat} (ta : Tr a) (tb : Tr b) (na : a ≠ []) (nb : b ≠ []) (sa : SzP z a) (sb : SzP z b) (hz : z ≤ 200) (la : a.length ≤ 10) (lb : b.length ≤ 10) (hN : a.length + b.length ≤ 12 + 2 * (gcP a b).length) (w0 w1 : SD) :
    ∃ one', Tr one' ∧ one' ≠ [] ∧ (∀ d, Dq d one' ↔ (Dq d a ∧ Dq d b)) ∧ ∀ y4 y5 y6 y7 y8 : SD, ∃ z4 z5 z6 z7 z8, whileO (e1 bOf (e2 gtD (e1 lenD (eCons (eOwn 3) (cst []))) (cst (.int 0)))) b__law_coprime_2 (b.length + 3) [w0, w1, .sh (pD a), .sh (pD b), y4, y5, y6, y7, y8] = .nx [w0, w1, .sh (pD one'), .sh (pD []), z4, z5, z6, z7, z8] := by
  have ppa := plain_prim ta na
  have ppb := plain_prim tb nb
  have pla := plain_len a
  have plb := plain_len b
  have lp := List.length_pos_iff.mpr nb
  have lpa := List.length_pos_iff.mpr na
  have co : CQ z 4 12 2460 (plainP a) (plainP b) := { na := ppa.ne, nb := ppb.ne, ta := ppa.tr, tb := ppb.tr, sa := sa.plain, sb := sb.plain, la := by omega, lb := by omega, n2 := by decide, zb := by omega, bd := by omega, big := by decide }
  have sa' : SzP 2460 a := sa.mono (by omega)
  have sb' : SzP 2460 b := sb.mono (by omega)
  unfold gcP at hN
  by_cases h1 : b.length < a.length
  · exact cp_loop co w0 w1 (b.length + 2) a b ta na tb (chn_start _ _) (by omega) h1 (by omega) (by omega) (by omega) sa' sb' (by rw [pla, plb]; exact hN)
  · obtain ⟨R, tR, lR, zi, pe, dq, tn⟩ := cp_turn ta na tb nb sa' sb' (by omega) (by omega) (by omega) w0 w1
    rw [gcS, if_neg ppb.ne, ← pe] at hN
    by_cases r0 : R = []
    · have tn := tn (by rw [r0]; exact fun x h => nomatch h)
      refine ⟨b, tb, nb, fun d => ?_, fun y4 y5 y6 y7 y8 => ?_⟩
      · rw [dq d, r0]; exact dq_self_nil b d
      · obtain ⟨z4, z5, z6, z7, z8, e⟩ := tn y4 y5 y6 y7 y8
        rw [if_pos r0] at e
        refine ⟨z4, z5, z6, z7, z8, ?_⟩
        have w : whileO (e1 bOf (e2 gtD (e1 lenD (eCons (eOwn 3) (cst []))) (cst (.int 0)))) b__law_coprime_2 (b.length + 2) [w0, w1, .sh (pD b), .sh (pD []), z4, z5, z6, z7, z8] = .nx [w0, w1, .sh (pD b), .sh (pD []), z4, z5, z6, z7, z8] := by rw [whileO]; simp
        rw [whileO]
        simp [lp, e, w]
    · have pR := plain_prim tR r0
      have bp := bare_plain tR r0
      have bl := bare_len R
      have eqd : ∀ d, (Dq d b ∧ Dq d (bareP R)) ↔ (Dq d a ∧ Dq d b) := fun d => by
        rw [dq d]
        have : Dq d (bareP R) ↔ Dq d R := by rw [← Dq.plain (bare_tr tR r0), bp, Dq.plain tR]
        rw [this]
      have fin : ∀ one', (∀ y4 y5 y6 y7 y8 : SD, ∃ z4 z5 z6 z7 z8, whileO (e1 bOf (e2 gtD (e1 lenD (eCons (eOwn 3) (cst []))) (cst (.int 0)))) b__law_coprime_2 (b.length + 1 + 1) [w0, w1, .sh (pD b), .sh (pD (bareP R)), y4, y5, y6, y7, y8] = .nx [w0, w1, .sh (pD one'), .sh (pD []), z4, z5, z6, z7, z8]) → SzP 4400 (plainP R) → ∀ y4 y5 y6 y7 y8 : SD, ∃ z4 z5 z6 z7 z8, whileO (e1 bOf (e2 gtD (e1 lenD (eCons (eOwn 3) (cst []))) (cst (.int 0)))) b__law_coprime_2 (b.length + 3) [w0, w1, .sh (pD a), .sh (pD b), y4, y5, y6, y7, y8] = .nx [w0, w1, .sh (pD one'), .sh (pD []), z4, z5, z6, z7, z8] := fun one' k4 hz y4 y5 y6 y7 y8 => by
        obtain ⟨z4, z5, z6, z7, z8, e⟩ := tn hz y4 y5 y6 y7 y8
        rw [if_neg r0] at e
        obtain ⟨u4, u5, u6, u7, u8, e'⟩ := k4 z4 z5 z6 z7 z8
        refine ⟨u4, u5, u6, u7, u8, ?_⟩
        rw [whileO]
        simp [lp, e, e']
      by_cases h2 : a.length < b.length
      · have ef : plainP R = plainP a := by rw [pe, fr_swap (by omega), plain_self ppa]
        have sR : SzP z (plainP R) := by rw [ef]; exact sa.plain
        have lRa : R.length = a.length := by rw [← plain_len R, ef, pla]
        obtain ⟨one', k1, k2, k3, k4⟩ := cp_loop co.swap w0 w1 (b.length + 1) b (bareP R) tb nb (bare_tr tR r0) (by rw [bp, ef]; exact chn_start _ _) (by omega) (by omega) (by omega) (by omega) (by omega) sb' ((bare_sz tR r0 sR).mono (by omega)) (by rw [bp, pla, plb, Nat.add_comm]; exact hN)
        exact ⟨one', k1, k2, fun d => by rw [k3, eqd], fin one' k4 (sR.mono (by omega))⟩
      · have fr0 : frP (plainP a) (plainP b) ≠ [] := fun g => r0 (zi.mpr g)
        have ch' := chn_step (chn_start (plainP a) (plainP b)) ppa.tr ppb.tr ppb.ne (by omega) fr0
        rw [← pe] at ch'
        have sR := CQ.next (n := b.length + 1) co ppb.tr ch' pR (by rw [plain_len, plain_len]; exact lR) (by rw [plain_len]; omega) (by rw [plain_len]; omega) (by rw [plain_len]; omega) (by rw [pla, plb]; exact hN)
        obtain ⟨one', k1, k2, k3, k4⟩ := cp_loop co w0 w1 (b.length + 1) b (bareP R) tb nb (bare_tr tR r0) (by rw [bp]; exact ch') (by omega) (by omega) (by omega) (by omega) (by omega) sb' (bare_sz tR r0 sR) (by rw [bp, pla, plb]; exact hN)
        exact ⟨one', k1, k2, fun d => by rw [k3, eqd], fin one' k4 (sR.mono (by decide))⟩
theorem coprime_ok {a b : List Int} {z : Nat} (ta : Tr a) (tb : Tr b) (nb : b ≠ []) (sa : SzP z a) (sb : SzP z b) (hz : z ≤ 200) (la : a.length ≤ 10) (lb : b.length ≤ 10) (hN : a.length + b.length ≤ 12 + 2 * (gcP a b).length) :
    ∃ one', Tr one' ∧ one' ≠ [] ∧ (∀ d, Dq d one' ↔ (Dq d a ∧ Dq d b)) ∧ m__law_coprime [pD a, pD b] = .ok (.sh (.bool (decide (one'.length ≤ 1)))) := by
  have lp := List.length_pos_iff.mpr nb
  by_cases na : a = []
  · subst na
    refine ⟨b, tb, nb, fun d => ⟨fun h => ⟨Dq.nil d, h⟩, fun h => h.2⟩, ?_⟩
    have lo : listO [pD []] = some [] := r_listO
    have w1 : whileO (e1 bOf (e2 geD (e1 lenD (eCons (eOwn 4) (cst []))) (e1 lenD (eCons (eOwn 3) (cst []))))) b__law_coprime_1 1 [.sh (pD []), .sh (pD b), .sh (pD []), .sh (pD b), .sh (pD []), .no, .no, .no, .no] = .nx [.sh (pD []), .sh (pD b), .sh (pD []), .sh (pD b), .sh (pD []), .no, .no, .no, .no] := by
      rw [whileO]; simp [lp, nb]
    have lz : PyData.list [] = pD [] := rfl
    have w1' := sWhile_eq w1 (by simp)
    have st : b__law_coprime_2 [.sh (pD []), .sh (pD b), .sh (pD []), .sh (pD b), .no, .no, .no, .no, .no] = .nx [.sh (pD []), .sh (pD b), .sh (pD b), .sh (pD []), .sh (pD []), .no, .no, .no, .no] := by
      simp [b__law_coprime_2, lo, lz, w1']
    have w2 : whileO (e1 bOf (e2 gtD (e1 lenD (eCons (eOwn 3) (cst []))) (cst (.int 0)))) b__law_coprime_2 2 [.sh (pD []), .sh (pD b), .sh (pD []), .sh (pD b), .no, .no, .no, .no, .no] = .nx [.sh (pD []), .sh (pD b), .sh (pD b), .sh (pD []), .sh (pD []), .no, .no, .no, .no] := by
      rw [whileO]
      have w3 : whileO (e1 bOf (e2 gtD (e1 lenD (eCons (eOwn 3) (cst []))) (cst (.int 0)))) b__law_coprime_2 1 [.sh (pD []), .sh (pD b), .sh (pD b), .sh (pD []), .sh (pD []), .no, .no, .no, .no] = .nx [.sh (pD []), .sh (pD b), .sh (pD b), .sh (pD []), .sh (pD []), .no, .no, .no, .no] := by rw [whileO]; simp
      simp [lp, st, w3]
    have w2' := sWhile_eq w2 (by simp)
    simp [m__law_coprime, c__law_coprime, w2']
    omega
  · obtain ⟨one', k1, k2, k3, k4⟩ := cp_main ta tb na nb sa sb hz la lb hN (.sh (pD a)) (.sh (pD b))
    obtain ⟨z4, z5, z6, z7, z8, e⟩ := k4 .no .no .no .no .no
    have e' := sWhile_eq e (by simp)
    exact ⟨one', k1, k2, k3, by simp [m__law_coprime, c__law_coprime, e']; omega⟩
theorem cop_small {a b o : List Int} (c : Cop a b) (to : Tr o) (no : o ≠ []) (h : Dq o a) (h' : Dq o b) : o.length ≤ 1 := by
  obtain ⟨u, v, k, hk, e⟩ := c
  have d : Dq o [k] := h.comb h' (w := 1) (by decide) (s := u) (t := v) fun x => by
    rw [evOne, e]
    have : ((1 : Int) : Rat) = 1 := rfl
    rw [this]; grind
  have tk : Tr [k] := fun m hm => by
    simp at hm; subst hm
    exact show k ≠ 0 by omega
  exact dq_len to no tk (by simp) d
theorem gcd1_len {a b : List Int} (ta : Tr a) (tb : Tr b) (nb : b ≠ []) (c : Cop a b) : (gcP a b).length = 1 := by
  have sp := gcP_spec ta tb
  have ng : gcP a b ≠ [] := fun z => nb (sp.nil z).2
  have := cop_small c sp.tr ng sp.left sp.right
  have := List.length_pos_iff.mpr ng
  omega
/-- what is in lowest terms is so by the law -/
theorem is_fraction_ok {P Q : List Int} {z : Nat} (f : Fr P Q) (sP : SzP z P) (sQ : SzP z Q) (hz : z ≤ 200) (lP : P.length ≤ 10) (lQ : Q.length ≤ 10) (hl : P.length + Q.length ≤ 14) : m__law_is_fraction [fD P Q] = .ok (.sh (.bool true)) := by
  have lp := List.length_pos_iff.mpr f.nq
  have g1 := gcd1_len f.tp f.tq f.nq f.cop
  obtain ⟨one', k1, k2, k3, k4⟩ := coprime_ok f.tp f.tq f.nq sP sQ hz lP lQ (by omega)
  have d := (k3 one').mp (Dq.refl _)
  have h1 := cop_small f.cop k1 k2 d.1 d.2
  rw [decide_eq_true h1] at k4
  have i1 := is_list_ok P (by omega)
  have i2 := is_list_ok Q (by omega)
  have t1 := trim56_ok P (by omega)
  have t2 := trim56_ok Q (by omega)
  rw [f.tp.trim] at t1
  rw [f.tq.trim] at t2
  have ix : ixD (pD Q) (.int ((Q.length : Int) - 1)) = some (.int (cf Q (Q.length - 1))) := by
    rw [show (Q.length : Int) - 1 = ((Q.length - 1 : Nat) : Int) by omega]; exact p_ixc (by omega)
  have l0 : ¬ cf Q (Q.length - 1) < 0 := by have := f.lead; omega
  have c1 := content56_ok P
  have c2 := content56_ok Q
  have g := gcd56_ok (contN P : Int) (contN Q : Int)
  have fc := f.cont
  simp only [Int.natAbs_natCast] at g
  rw [fc] at g
  have q0 : ¬ ((Q.length : Int) = 0) := by omega
  have q0' : Q.length ≠ 0 := by omega
  have pn : ∀ l : List Int, neD (pD l) (pD l) = some (.bool false) := fun l => by rw [p_ne]; simp
  have ef : fD P Q = PyData.tuple [pD P, pD Q] := rfl
  rw [ef]
  simp [m__law_is_fraction, c__law_is_fraction, i1, i2, t1, t2, pn, f.nq, ix, l0, c1, c2, g, k4]
end W

set_option Elab.async false
set_option linter.all false
set_option maxRecDepth 100000
set_option autoImplicit false
set_option maxHeartbeats 400000
namespace W
open PySem PySem.Spec PyProof.Rows L2 VL
/-! ### the chain -/
def brP (s : Int) (a : List Int) : List Int := a.map fun x => s * x.fdiv (contN a : Int)
section
variable {a : List Int} {s : Int}
theorem br_cf (hs : s = 1 ∨ s = -1) (ta : Tr a) (na : a ≠ []) (k : Nat) : cf a k = (contN a : Int) * (s * cf (brP s a) k) := by
  have c0 : (contN a : Int) ≠ 0 := by have := contN_ne ta na; omega
  have key : cf (brP s a) k = s * (cf a k).fdiv (contN a : Int) := cf_map (f := fun x => s * x.fdiv (contN a : Int)) (by simp) k
  have ss : s * s = 1 := by rcases hs with rfl | rfl <;> rfl
  rw [key, show s * (s * (cf a k).fdiv (contN a : Int)) = (s * s) * (cf a k).fdiv (contN a : Int) by grind, ss, Int.one_mul]
  have d : (contN a : Int) ∣ cf a k := by
    by_cases h : k < a.length
    · exact contN_dvd (cf_mem h)
    · rw [cf_out (by omega)]; exact Int.dvd_zero _
  obtain ⟨m, hm⟩ := d
  rw [hm, Int.mul_fdiv_cancel_left _ c0]
theorem br_len (s : Int) (a : List Int) : (brP s a).length = a.length := by simp [brP]
theorem br_tr (hs : s = 1 ∨ s = -1) (ta : Tr a) (na : a ≠ []) : Tr (brP s a) := fun m hm => fun z => by
  have := br_cf hs ta na m
  rw [z, Int.mul_zero, Int.mul_zero] at this
  exact ta m (by rw [br_len] at hm; exact hm) this
theorem br_ne (na : a ≠ []) : brP s a ≠ [] := by
  have := br_len s a
  have := List.length_pos_iff.mpr na
  rw [← List.length_pos_iff]; omega
theorem br_ev (hs : s = 1 ∨ s = -1) (ta : Tr a) (na : a ≠ []) (x : Rat) : evP a x = ((contN a : Int) : Rat) * ((s : Rat) * evP (brP s a) x) := by
  have : evP a x = evP (scaleP (scaleP (brP s a) s) (contN a : Int)) x := evP_ext (fun k => by
    rw [cf_scale, cf_scale, br_cf hs ta na k]; grind) x
  rw [this, ev_scale, ev_scale]; grind
theorem br_plain (hs : s = 1 ∨ s = -1) (ta : Tr a) (na : a ≠ []) : plainP (brP s a) = plainP a := by
  have c0 : (contN a : Int) ≠ 0 := by have := contN_ne ta na; omega
  refine plain_ray (br_tr hs ta na) ta (br_ne na) na (u := (contN a : Int) * s) (v := 1) (Int.mul_ne_zero c0 (by rcases hs with rfl | rfl <;> decide)) (by decide) fun k => ?_
  rw [br_cf hs ta na k]; grind
theorem br_sz {z : Nat} (hs : s = 1 ∨ s = -1) (ta : Tr a) (na : a ≠ []) (h : SzP z (plainP a)) : SzP z (brP s a) := by
  obtain ⟨t, ht, e⟩ := bare_cf ta na
  intro x hx
  obtain ⟨k, hk, rfl⟩ := List.mem_iff_getElem.mp hx
  have ek : cf (brP s a) k = (brP s a)[k] := by
    have := cf_get hk
    rw [List.getElem?_eq_getElem hk] at this
    exact (Option.some.inj this).symm
  have key : cf (brP s a) k = s * cf (bareP a) k := by
    rw [show cf (brP s a) k = s * (cf a k).fdiv (contN a : Int) from cf_map (f := fun x => s * x.fdiv (contN a : Int)) (by simp) k]
    congr 1
    exact (cf_map (f := fun x => x.fdiv (contN a : Int)) (by simp) k).symm
  rw [← ek, key, e]
  have zk := h.cf k
  rcases hs with rfl | rfl <;> rcases ht with rfl | rfl
  · rwa [Int.one_mul, Int.one_mul]
  · rw [Int.one_mul, show -1 * cf (plainP a) k = -cf (plainP a) k by omega]; exact zk.neg
  · rw [Int.one_mul, show -1 * cf (plainP a) k = -cf (plainP a) k by omega]; exact zk.neg
  · rwa [show -1 * (-1 * cf (plainP a) k) = cf (plainP a) k by omega]
end
/-- the sign is turned -/
def trn (a b : List Int) : Bool := decide (0 < cf b (b.length - 1)) || decide ((a.length - b.length) % 2 = 1)
def nxP (a b : List Int) : List Int := brP (if trn a b then -1 else 1) (frP a b)
def chS : Nat → List Int → List Int → List (List Int)
  | 0, a, b => [a, b]
  | n + 1, a, b => if frP a b = [] then [a, b] else a :: chS n b (nxP a b)
def chP (p : List Int) : List (List Int) := chS p.length (brP 1 p) (brP 1 (derP p))
theorem chS_head : ∀ (n : Nat) (a b : List Int), ∃ l, chS n a b = a :: b :: l
  | 0, a, b => ⟨[], rfl⟩
  | n + 1, a, b => by
    unfold chS
    split
    · exact ⟨[], rfl⟩
    · obtain ⟨l, hl⟩ := chS_head n b (nxP a b)
      exact ⟨nxP a b :: l, by rw [hl]⟩
theorem pow_pos_even {c : Int} (hc : c ≠ 0) : ∀ m : Nat, 0 < c ^ (2 * m)
  | 0 => by simp
  | m + 1 => by
    rw [show 2 * (m + 1) = 2 * m + 1 + 1 by omega, Int.pow_succ, Int.pow_succ, Int.mul_assoc]
    refine Int.mul_pos (pow_pos_even hc m) ?_
    rcases Int.lt_or_lt_of_ne hc with h | h
    · exact Int.mul_pos_of_neg_of_neg h h
    · exact Int.mul_pos h h
theorem pow_sign {c : Int} (hc : c ≠ 0) (k : Nat) : ((0 < c ∨ k % 2 = 0) → 0 < c ^ k) ∧ (¬ (0 < c ∨ k % 2 = 0) → c ^ k < 0) := by
  constructor
  · intro h
    rcases h with h | h
    · exact Int.pow_pos h
    · obtain ⟨m, rfl⟩ : ∃ m, k = 2 * m := ⟨k / 2, by omega⟩
      exact pow_pos_even hc m
  · intro h
    obtain ⟨m, rfl⟩ : ∃ m, k = 2 * m + 1 := ⟨k / 2, by omega⟩
    rw [Int.pow_succ]
    exact Int.mul_neg_of_pos_of_neg (pow_pos_even hc m) (by omega)
section
variable {a b : List Int}
theorem nx_rel (ta : Tr a) (tb : Tr b) (nb : b ≠ []) (hl : b.length ≤ a.length) (nr : frP a b ≠ []) :
    Tr (nxP a b) ∧ nxP a b ≠ [] ∧ (nxP a b).length < b.length ∧ plainP (nxP a b) = plainP (frP a b) ∧ (∃ (α β : Int) (q : List Int), 0 < α ∧ 0 < β ∧ ∀ x, (α : Rat) * evP a x = evP q x * evP b x - (β : Rat) * evP (nxP a b) x) := by
  have tr := fr_tr (b := b) ta
  have hs : ((if trn a b then (-1 : Int) else 1) = 1 ∨ (if trn a b then (-1 : Int) else 1) = -1) := by split <;> simp
  have lb := List.length_pos_iff.mpr nb
  have l0 : cf b (b.length - 1) ≠ 0 := tb _ (by omega)
  refine ⟨br_tr hs tr nr, br_ne nr, by unfold nxP; rw [br_len]; exact fr_len ta nb hl, br_plain hs tr nr, ?_⟩
  have c0 : 0 < (contN (frP a b) : Int) := by have := contN_ne tr nr; omega
  have rel := fun x => fr_rel (a := a) (b := b) hl x
  have be := fun x => br_ev hs tr nr x
  obtain ⟨p1, p2⟩ := pow_sign l0 (a.length - b.length + 1)
  have tt : trn a b = true ↔ (0 < cf b (b.length - 1) ∨ (a.length - b.length + 1) % 2 = 0) := by
    unfold trn
    rw [Bool.or_eq_true, decide_eq_true_eq, decide_eq_true_eq]
    constructor
    · rintro (h | h)
      · exact .inl h
      · right; omega
    · rintro (h | h)
      · exact .inl h
      · right; omega
  by_cases t : trn a b = true
  · refine ⟨_, _, qN a b (a.length - b.length + 1), p1 (tt.mp t), c0, fun x => ?_⟩
    have h1 := rel x
    have h2 := be x
    unfold nxP
    rw [if_pos t] at *
    have o : ((-1 : Int) : Rat) = -1 := rfl
    rw [o] at h2
    rw [h1, h2]; grind
  · refine ⟨-(cf b (b.length - 1) ^ (a.length - b.length + 1)), _, scaleP (qN a b (a.length - b.length + 1)) (-1), ?_, c0, fun x => ?_⟩
    · have := p2 (fun h => t (tt.mpr h)); omega
    · have h1 := rel x
      have h2 := be x
      unfold nxP
      rw [if_neg t] at *
      have o : ((1 : Int) : Rat) = 1 := rfl
      have o' : ((-1 : Int) : Rat) = -1 := rfl
      rw [o] at h2
      rw [Rat.intCast_neg, ev_scale, o']
      have : -(((cf b (b.length - 1) ^ (a.length - b.length + 1) : Int)) : Rat) * evP a x = -((((cf b (b.length - 1) ^ (a.length - b.length + 1) : Int)) : Rat) * evP a x) := by grind
      rw [this, h1, h2]; grind
end
end W

set_option Elab.async false
set_option linter.all false
set_option maxRecDepth 100000
set_option autoImplicit false
set_option maxHeartbeats 400000
namespace W
open PySem PySem.Spec PyProof.Rows L2 VL
/-! ### products of different known factors have no root twice -/
/-! ### the chain of such a product -/
structure ChF (b : Int) (fs : List (List Int)) (n : Nat) : Prop where
  sch : SCh (chS n (brP 1 (kP b fs)) (brP 1 (derP (kP b fs))))
  ht : ∀ a ∈ chS n (brP 1 (kP b fs)) (brP 1 (derP (kP b fs))), Tr a ∧ a ≠ []
  mu : ∃ μ : Rat, 0 < μ ∧ ∀ x, evP (derP (brP 1 (kP b fs))) x = μ * evP (brP 1 (derP (kP b fs))) x
  sg : ∀ x, sgQ (evP (brP 1 (kP b fs)) x) = sgI b * prR (RS fs) x
section
variable {fs : List (List Int)} {b : Int}
theorem kP_len (b : Int) (fs : List (List Int)) : (kP b fs).length = (prodP fs).length := by simp [kP]
theorem kP_tr (hf : ∀ f ∈ fs, f ∈ FL) (hl : fs.length ≤ 10) (hb : b ≠ 0) : Tr (kP b fs) := fun m hm => by
  rw [cf_kP]
  rw [kP_len] at hm
  exact Int.mul_ne_zero hb ((lproduct_ok hf hl).2.2.1 m hm)
theorem kP_two (hf : ∀ f ∈ fs, f ∈ FL) (nf : fs ≠ []) : 2 ≤ (kP b fs).length := by
  have := prod_len2 hf tr_one (show 1 ≤ [(1 : Int)].length by simp)
  have := List.length_pos_iff.mpr nf
  rw [kP_len]
  show 2 ≤ (fs.foldl mulP [1]).length
  have e : [(1 : Int)].length = 1 := rfl
  omega
end
end W

set_option Elab.async false
set_option linter.all false
set_option maxRecDepth 100000
set_option autoImplicit false
set_option maxHeartbeats 1000000
namespace W
open PySem PySem.Spec PyProof.Rows L2 VL
noncomputable def c_bare : Ev → Out := sRetO (eComp [2] (e1 seqD (eVar 0)) (gSet 2) (cst true) (e2 mulD (eOwn 1) (e2 fdivD (eOwn 2) (eCall m_content (eCons (eVar 0) (cst []))))))
noncomputable def m_bare : List D → R SD := runD 2 3 c_bare
/-! ### changes of signs -/
/-! ### signs of the chain -/
end W

set_option Elab.async false
set_option linter.all false
set_option maxRecDepth 100000
set_option autoImplicit false
set_option maxHeartbeats 1000000
namespace W
open PySem PySem.Spec PyProof.Rows L2 VL
/-! ### values of greater polynomials -/
theorem value_loop2 {a0 : SD} {x : Rat} {kx c n : Nat} (hx : Rk kx x) (hc : 1 ≤ c) (hn : c + (kx + 1) * n + 1 + kx + c ≤ 8000) : ∀ (r t : List Int) (j : SD), (∀ z ∈ r, Sz c z) → SzP c t → r.length + t.length ≤ n →
    ∃ j', forO (gTo (gSet 3) b_value_at_1) (r.map .int) [a0, .sh (rD x), .sh (rD (evP t x)), j] = .nx [a0, .sh (rD x), .sh (rD (evP (r.reverse ++ t) x)), j']
  | [], t, j, _, _, _ => ⟨j, rfl⟩
  | z :: r, t, j, hr, ht, h => by
    rw [List.length_cons] at h
    have hz := rk_int (hr z (by simp)) hc
    have hs := ev_rk hx ht
    have ml : (kx + 1) * t.length ≤ (kx + 1) * n := Nat.mul_le_mul_left _ (by omega)
    have e1 := times_r hs hx (by omega)
    have e2 := plus_r (hs.mul hx) hz (by omega)
    have e : gTo (gSet 3) b_value_at_1 (.int z) [a0, .sh (rD x), .sh (rD (evP t x)), j] = .nx [a0, .sh (rD x), .sh (rD (evP (z :: t) x)), .sh (.int z)] := by
      have ee : evP (z :: t) x = evP t x * x + (z : Rat) := rfl
      rw [ee]
      simp [b_value_at_1, e1, rD_int, e2]
    obtain ⟨j', i1⟩ := value_loop2 (a0 := a0) hx hc hn r (z :: t) (.sh (.int z)) (fun y hy => hr y (by simp [hy])) (fun y hy => by
      rcases List.mem_cons.mp hy with rfl | hy
      · exact hr y (by simp)
      · exact ht y hy) (by simp; omega)
    refine ⟨j', ?_⟩
    rw [List.map_cons]
    unfold forO
    rw [e, List.reverse_cons, List.append_assoc]
    exact i1
theorem value_at2 {a : List Int} {x : Rat} {kx c : Nat} (ha : SzP c a) (hx : Rk kx x) (hc : 1 ≤ c) (h : c + (kx + 1) * a.length + 1 + kx + c ≤ 8000) : m_value_at [pD a, rD x] = .ok (.sh (rD (evP a x))) := by
  obtain ⟨j', e⟩ := value_loop2 (a0 := .sh (pD a)) (n := a.length) hx hc h a.reverse [] .no (fun z hz => ha z (by simpa using hz)) (fun z hz => nomatch hz) (by simp)
  have z0 : evP [] x = 0 := rfl
  rw [z0, List.reverse_reverse, List.append_nil, List.map_reverse] at e
  simp [m_value_at, c_value_at, rD_0, e]
theorem sign_at2 {a : List Int} {x : Rat} {kx c : Nat} (ha : SzP c a) (hx : Rk kx x) (hc : 1 ≤ c) (h : c + (kx + 1) * a.length + 1 + kx + c ≤ 8000) : m_sign_at [pD a, rD x] = .ok (.sh (.int (sgQ (evP a x)))) := by
  have v := value_at2 ha hx hc h
  rw [sgQ_I]
  simp [m_sign_at, c_sign_at, m_sign_of, c_sign_of, v, sgI]
end W

set_option Elab.async false
set_option linter.all false
set_option maxRecDepth 100000
set_option autoImplicit false
set_option maxHeartbeats 1000000
namespace W
open PySem PySem.Spec PyProof.Rows L2 VL
/-! ### the program's chain -/
theorem bare_ok {a : List Int} {s : Int} (hs : s = 1 ∨ s = -1) (ta : Tr a) (na : a ≠ []) (h : SzP 4400 (plainP a)) (la : a.length ≤ 1000) : m_bare [pD a, .int s] = .ok (.ow ((brP s a).map .int)) := by
  have c0 : (contN a : Int) ≠ 0 := by have := contN_ne ta na; omega
  have bz := bare_sz ta na h
  have hls : a.length ≤ sizeLine := slB (by omega)
  have ct := content_ok a
  have hc : ∀ a2 : SD, compR (compS [2] (gSet 2) (cst true) (e2 mulD (eOwn 1) (e2 fdivD (eOwn 2) (eCall m_content (eCons (eVar 0) (cst []))))) [.sh (pD a), .sh (.int s), a2]) (a.map .int) = .ok ((brP s a).map .int) := fun a2 => by
    unfold brP
    rw [List.map_map]
    exact compR_map' fun x hx => by
      have q : Sz 4400 (x.fdiv (contN a : Int)) := bz _ (List.mem_map.mpr ⟨x, hx, rfl⟩)
      have od := okDiv_q q c0
      have om : okMul s (x.fdiv (contN a : Int)) = true := okMul_of (show Sz 1 s by rcases hs with rfl | rfl <;> exact Sz.lit (by decide)) q (by decide)
      simp [compS, ct, od, om]
  simp [m_bare, c_bare, hls, hc]
theorem fr_plain {a b : List Int} (ta : Tr a) (na : a ≠ []) (tb : Tr b) (nb : b ≠ []) : (frP a b = [] ↔ frP (plainP a) (plainP b) = []) ∧ plainP (frP a b) = plainP (frP (plainP a) (plainP b)) := by
  have p1 := plain_prim ta na
  have p2 := plain_prim tb nb
  have v1 := ev_plain ta na
  have v2 := ev_plain tb nb
  have c1 := plC_ne ta na
  obtain ⟨w, q, k3, k4, k2⟩ := fr_relA ta tb nb
  obtain ⟨w', q', g1, g2, g3⟩ := fr_relA p1.tr p2.tr p2.ne
  have k1 := fr_tr (b := b) ta
  have tF := fr_tr (b := plainP b) p1.tr
  have ru := rem_uniq (f := plainP a) (s := plainP b) (R := frP a b) (R' := frP (plainP a) (plainP b)) (q := scaleP q (plC b)) (q' := q') (w := w * plC a) (w' := w') p2.tr p2.ne (Int.mul_ne_zero k3 c1) g1 (fun x => by
    have := k4 x
    rw [v1, v2] at this
    rw [ev_scale, Rat.intCast_mul]
    grind) g2 (by rw [plain_len]; exact k2) g3
  have zi := ev_zero_iff k1 tF (Int.mul_ne_zero k3 c1) g1 ru
  refine ⟨zi, ?_⟩
  by_cases h : frP a b = []
  · rw [h, zi.mp h]
  · exact plain_ray k1 tF h (fun g => h (zi.mpr g)) g1 (Int.mul_ne_zero k3 c1) (ray_ev ru)
/-- what holds of the last two -/
structure CI (A B a b : List Int) : Prop where
  ta : Tr a
  na : a ≠ []
  tb : Tr b
  nb : b ≠ []
  hl : b.length < a.length
  la : a.length ≤ 19
  sa : SzP 1900 a
  sb : SzP 1900 b
  ch : Chn A B (plainP a) (plainP b)
  hA : b.length ≤ A.length
  hB : b.length ≤ B.length
section
variable {A B a b : List Int} {z : Nat}
theorem CI.next (co : CQ z 5 27 1900 A B) (hAB : A.length + B.length ≤ 27) (h : CI A B a b) (nr : frP a b ≠ []) : CI A B b (nxP a b) ∧ SzP 4400 (plainP (frP a b)) := by
  obtain ⟨t1, n1, l1, p1, _⟩ := nx_rel h.ta h.tb h.nb (by have := h.hl; omega) nr
  obtain ⟨z1, z2⟩ := fr_plain h.ta h.na h.tb h.nb
  have pa := plain_prim h.ta h.na
  have pb := plain_prim h.tb h.nb
  have fr0 : frP (plainP a) (plainP b) ≠ [] := fun g => nr (z1.mpr g)
  have ch' := chn_step h.ch pa.tr pb.tr pb.ne (by rw [plain_len, plain_len]; have := h.hl; omega) fr0
  rw [← z2, ← p1] at ch'
  have pc := plain_prim t1 n1
  have sz := CQ.next (n := 100) co pb.tr ch' pc (by rw [plain_len, plain_len]; exact l1) (by rw [plain_len]; have := h.hA; omega) (by rw [plain_len]; have := h.hB; omega) (by rw [plain_len]; have := h.la; have := h.hl; omega) (by omega)
  have hs : ((if trn a b then (-1 : Int) else 1) = 1 ∨ (if trn a b then (-1 : Int) else 1) = -1) := by split <;> simp
  have tr := fr_tr (b := b) h.ta
  have sR : SzP 1900 (plainP (frP a b)) := by rw [← p1]; exact sz
  have sc : SzP 1900 (nxP a b) := br_sz hs tr nr sR
  exact ⟨⟨h.tb, h.nb, t1, n1, l1, by have := h.la; have := h.hl; omega, h.sb, sc, ch', by have := h.hA; omega, by have := h.hB; omega⟩, sR.mono (by decide)⟩
theorem cut2 (l : List D) (x y : D) : cutL (l ++ [x, y]) (some (-2)) none = [x, y] := by
  unfold cutL
  rw [HT.sIx_none]
  have e : HT.sIx (l ++ [x, y]).length 0 (some (-2)) = l.length := by
    show (if (-2 : Int) < 0 then (-2 + ((l ++ [x, y]).length : Int)).toNat else min (-2 : Int).toNat (l ++ [x, y]).length) = _
    rw [if_pos (by decide)]
    simp; omega
  rw [e, List.drop_left]
  simp
/-- all members are small -/
theorem chain_sz (co : CQ z 5 27 1900 A B) (hAB : A.length + B.length ≤ 27) : ∀ (n : Nat) (a b : List Int), CI A B a b → (∀ f ∈ chS n a b, SzP 1900 f ∧ f.length ≤ 19 ∧ f ≠ []) ∧ (chS n a b).length ≤ n + 2
  | 0, a, b, h => ⟨fun f hf => by
      have hf : f ∈ [a, b] := hf
      simp at hf
      rcases hf with rfl | rfl
      · exact ⟨h.sa, h.la, h.na⟩
      · exact ⟨h.sb, by have := h.la; have := h.hl; omega, h.nb⟩, by simp [chS]⟩
  | n + 1, a, b, h => by
    unfold chS
    by_cases r0 : frP a b = []
    · rw [if_pos r0]
      exact ⟨fun f hf => by
        simp at hf
        rcases hf with rfl | rfl
        · exact ⟨h.sa, h.la, h.na⟩
        · exact ⟨h.sb, by have := h.la; have := h.hl; omega, h.nb⟩, by simp⟩
    · rw [if_neg r0]
      obtain ⟨i1, i2⟩ := chain_sz co hAB n b (nxP a b) (CI.next co hAB h r0).1
      exact ⟨fun f hf => by
        rcases List.mem_cons.mp hf with rfl | hf
        · exact ⟨h.sa, h.la, h.na⟩
        · exact i1 f hf, by simp; omega⟩
end
end W

set_option Elab.async false
set_option linter.all false
set_option maxRecDepth 100000
set_option autoImplicit false
set_option maxHeartbeats 1000000
namespace W
open PySem PySem.Spec PyProof.Rows L2 VL
noncomputable def b__law_gcd_k18_1 : Ev → Out := sSeq (sIf (e1 bOf (e2 eqD (eOwn 1) (cst (.int 0)))) (.bk) (sNil)) (sPar 0 1 (eCons (eVar 1) (eCons (e2 modD (e1 intD (eCons (eOwn 0) (cst []))) (eOwn 1)) (cst []))))
noncomputable def c__law_gcd_k18 : Ev → Out := sSeq (sPar 0 1 (eCons (e1 absD (eCons (eOwn 0) (cst []))) (eCons (e1 absD (eCons (eOwn 1) (cst []))) (cst [])))) (sSeq (sFor (e1 range1D (eCons (cst (.int 20000)) (cst []))) (gSet 2) b__law_gcd_k18_1) (sRet (eVar 0)))
noncomputable def m__law_gcd_k18 : List D → R SD := runD 2 3 c__law_gcd_k18
noncomputable def c__law_number_k18 : Ev → Out := sSeq (sIf (e1 bOf (e2 ltD (eOwn 1) (cst (.int 0)))) (sPar 0 1 (eCons (e1 negD (eOwn 0)) (eCons (e1 negD (eOwn 1)) (cst [])))) (sNil)) (sSeq (sSet 2 (eCall m__law_gcd_k18 (eCons (eVar 0) (eCons (eVar 1) (cst []))))) (sRet (e1 tupD (eCons (e2 fdivD (eOwn 0) (eOwn 2)) (eCons (e2 fdivD (eOwn 1) (eOwn 2)) (cst []))))))
noncomputable def m__law_number_k18 : List D → R SD := runD 2 3 c__law_number_k18
noncomputable def c__law_plus_k18 : Ev → Out := sRet (eCall m__law_number_k18 (eCons (e2 addD (e2 mulD (e2 ixD (eOwn 0) (cst (.int 0))) (e2 ixD (eOwn 1) (cst (.int 1)))) (e2 mulD (e2 ixD (eOwn 1) (cst (.int 0))) (e2 ixD (eOwn 0) (cst (.int 1))))) (eCons (e2 mulD (e2 ixD (eOwn 0) (cst (.int 1))) (e2 ixD (eOwn 1) (cst (.int 1)))) (cst []))))
noncomputable def m__law_plus_k18 : List D → R SD := runD 2 2 c__law_plus_k18
noncomputable def c__law_x : Ev → Out := sSeq (sSet 2 (eCall m__law_number_k18 (eCons (e2 mulD (e2 subD (e2 modD (e1 intD (eCons (e2 ixD (eOwn 0) (cst (.int 0))) (cst []))) (cst (.int 61))) (cst (.int 30))) (e2 ixD (eLst (e1 lim (eCons (cst (.int 1)) (eCons (cst (.int 1)) (eCons (cst (.int 1)) (eCons (cst (.int 33)) (cst []))))))) (e2 modD (e1 intD (eCons (e2 ixD (eOwn 0) (cst (.int 1))) (cst []))) (cst (.int 4))))) (eCons (e2 addD (cst (.int 1)) (e2 modD (e1 intD (eCons (e2 ixD (eOwn 0) (cst (.int 1))) (cst []))) (cst (.int 9)))) (cst []))))) (sSeq (sIf (eOr (e1 bOf (e2 eqD (e2 modD (e1 intD (eCons (e2 ixD (eOwn 0) (cst (.int 2))) (cst []))) (cst (.int 3))) (cst (.int 0)))) (e1 bOf (e2 eqD (e1 lenD (eCons (eOwn 1) (cst []))) (cst (.int 0))))) (sRet (eVar 2)) (sNil)) (sSeq (sSet 3 (e2 ixD (eOwn 1) (e2 modD (e1 intD (eCons (e2 ixD (eOwn 0) (cst (.int 0))) (cst []))) (e1 lenD (eCons (eOwn 1) (cst [])))))) (sSeq (sIf (e1 bOf (e2 neD (e1 lenD (eCons (eOwn 3) (cst []))) (cst (.int 2)))) (sRet (eVar 2)) (sNil)) (sRet (eCall m__law_plus_k18 (eCons (eCall m__law_number_k18 (eCons (e1 negD (e2 ixD (eOwn 3) (cst (.int 0)))) (eCons (e2 ixD (eOwn 3) (cst (.int 1))) (cst [])))) (eCons (e2 ixD (eLst (e1 lim (eCons (e1 tupD (eCons (cst (.int 0)) (eCons (cst (.int 1)) (cst [])))) (eCons (e1 tupD (eCons (cst (.int 0)) (eCons (cst (.int 1)) (cst [])))) (eCons (e1 tupD (eCons (cst (.int 1)) (eCons (cst (.int 100)) (cst [])))) (eCons (e1 tupD (eCons (e1 negD (cst (.int 1))) (eCons (cst (.int 100)) (cst [])))) (cst []))))))) (e2 modD (e1 intD (eCons (e2 ixD (eOwn 0) (cst (.int 1))) (cst []))) (cst (.int 4)))) (cst []))))))))
noncomputable def m__law_x : List D → R SD := runD 2 4 c__law_x
/-! ### sizes of the drawn products -/
theorem prod_szs : ∀ {fs : List (List Int)} {acc : List Int} {t : Nat}, (∀ f ∈ fs, f ∈ FL) → Tr acc → SzP t acc → SzP (t + 7 * fs.length) (fs.foldl mulP acc) ∧ (fs.foldl mulP acc).length ≤ acc.length + 3 * fs.length
  | [], acc, t, _, _, h => ⟨by simpa using h, by simp⟩
  | f :: fs, acc, t, hf, ta, h => by
    obtain ⟨z, tf, l4, _⟩ := FL_all f (hf f (by simp))
    have e := mulP_comm ta tf
    have s1 : SzP (t + 7) (mulP acc f) := by rw [e]; exact (SzP.mul z h).mono (by omega)
    have l1 := mul_len1 (q := acc) (u := f) (Nat.le_refl _) l4
    obtain ⟨i1, i2⟩ := prod_szs (fs := fs) (acc := mulP acc f) (fun g hg => hf g (by simp [hg])) (tr_mul ta tf) s1
    rw [List.foldl_cons, List.length_cons]
    exact ⟨i1.mono (by omega), by omega⟩
theorem FL_two : ∀ f ∈ FL, f.length ≤ 3 ∨ f = [-2, 0, 0, 1] := by decide +kernel
theorem prod_len3 : ∀ {fs : List (List Int)} {acc : List Int}, (∀ f ∈ fs, f ∈ FL) → fs.Nodup → acc ≠ [] → (fs.foldl mulP acc).length ≤ acc.length + 2 * fs.length + (if [-2, 0, 0, 1] ∈ fs then 1 else 0)
  | [], acc, _, _, _ => by simp
  | f :: fs, acc, hf, nd, ha => by
    obtain ⟨n1, n2⟩ := List.nodup_cons.mp nd
    obtain ⟨z, tf, l4, l2⟩ := FL_all f (hf f (by simp))
    have hm : (mulP acc f).length = acc.length + f.length - 1 := by
      unfold mulP
      have h2 : f ≠ [] := by rintro rfl; simp at l2
      rw [if_neg (by simp [ha, h2]), fl_length]
    have la := List.length_pos_iff.mpr ha
    have ih := prod_len3 (fs := fs) (acc := mulP acc f) (fun g hg => hf g (by simp [hg])) n2 (by rw [← List.length_pos_iff]; omega)
    rw [List.foldl_cons, List.length_cons]
    rcases FL_two f (hf f (by simp)) with h | h
    · by_cases c : [-2, 0, 0, 1] ∈ fs
      · rw [if_pos c] at ih
        rw [if_pos (by simp [c])]; omega
      · rw [if_neg c] at ih
        split <;> omega
    · subst h
      rw [if_neg n1] at ih
      rw [if_pos (by simp)]
      have e4 : [(-2 : Int), 0, 0, 1].length = 4 := rfl
      omega
section
variable {fs : List (List Int)} {b : Int}
theorem kP_len14 (hf : ∀ f ∈ fs, f ∈ FL) (nd : fs.Nodup) (hl : fs.length ≤ 6) : (kP b fs).length ≤ 14 := by
  rw [kP_len]
  have := prod_len3 (acc := [1]) hf nd (by simp)
  have e : [(1 : Int)].length = 1 := rfl
  show (fs.foldl mulP [1]).length ≤ 14
  split at this <;> omega
theorem kP_szs (hf : ∀ f ∈ fs, f ∈ FL) (hl : fs.length ≤ 6) (sb : Sz 3 b) : SzP 46 (kP b fs) ∧ (kP b fs).length ≤ 19 ∧ SzP 51 (derP (kP b fs)) := by
  obtain ⟨h1, h2⟩ := prod_szs (acc := [1]) (t := 1) hf tr_one szp1
  have e : [(1 : Int)].length = 1 := rfl
  have l1 : (kP b fs).length ≤ 19 := by
    rw [kP_len]
    show (fs.foldl mulP [1]).length ≤ 19
    omega
  have s1 : SzP 46 (kP b fs) := fun x hx => by
    obtain ⟨y, hy, rfl⟩ := List.mem_map.mp hx
    exact (sb.mul (h1 y hy)).mono (by omega)
  refine ⟨s1, l1, fun x hx => ?_⟩
  obtain ⟨k, hk, rfl⟩ := List.mem_iff_getElem.mp hx
  have ek : cf (derP (kP b fs)) k = (derP (kP b fs))[k] := by
    have := cf_get hk
    rw [List.getElem?_eq_getElem hk] at this
    exact (Option.some.inj this).symm
  rw [der_len] at hk
  rw [← ek, cf_der]
  exact ((s1.cf (k + 1)).mul (show Sz 5 ((k : Int) + 1) from .of 32 (by omega) (by omega) (by decide))).mono (by decide)
structure Cst (b : Int) (fs : List (List Int)) : Prop where
  co : CQ 51 5 27 1900 (plainP (kP b fs)) (plainP (derP (kP b fs)))
  hab : (plainP (kP b fs)).length + (plainP (derP (kP b fs))).length ≤ 27
  ci : CI (plainP (kP b fs)) (plainP (derP (kP b fs))) (brP 1 (kP b fs)) (brP 1 (derP (kP b fs)))
theorem cst_ok (hf : ∀ f ∈ fs, f ∈ FL) (nd : fs.Nodup) (nf : fs ≠ []) (hl : fs.length ≤ 6) (hb : b ≠ 0) (sb : Sz 3 b) : Cst b fs := by
  obtain ⟨s1, _, s2⟩ := kP_szs hf hl sb
  have l1 := kP_len14 (b := b) hf nd hl
  have t0 := kP_tr (b := b) hf (by omega) hb
  have l2 := kP_two (b := b) hf nf
  have n0 : kP b fs ≠ [] := by rw [← List.length_pos_iff]; omega
  have t1 := tr_der t0
  have ld := der_len (kP b fs)
  have n1 : derP (kP b fs) ≠ [] := by rw [← List.length_pos_iff]; omega
  have p0 := plain_prim t0 n0
  have p1 := plain_prim t1 n1
  have pl0 := plain_len (kP b fs)
  have pl1 := plain_len (derP (kP b fs))
  have h1 : (1 : Int) = 1 ∨ (1 : Int) = -1 := .inl rfl
  have b0 := br_len 1 (kP b fs)
  have b1 := br_len 1 (derP (kP b fs))
  refine ⟨{ na := p0.ne, nb := p1.ne, ta := p0.tr, tb := p1.tr, sa := (s1.mono (by decide)).plain, sb := s2.plain, la := by omega, lb := by omega, n2 := by decide, zb := by decide, bd := by decide, big := by decide }, by omega, ⟨br_tr h1 t0 n0, br_ne n0, br_tr h1 t1 n1, br_ne n1, by omega, by omega, br_sz h1 t0 n0 ((s1.mono (by decide)).plain), br_sz h1 t1 n1 ((s2.mono (by decide)).plain), ?_, by omega, by omega⟩⟩
  rw [br_plain h1 t0 n0, br_plain h1 t1 n1]
  exact chn_start _ _
theorem chP_ok (hf : ∀ f ∈ fs, f ∈ FL) (nd : fs.Nodup) (nf : fs ≠ []) (hl : fs.length ≤ 6) (hb : b ≠ 0) (sb : Sz 3 b) : (∀ f ∈ chP (kP b fs), SzP 1900 f ∧ f.length ≤ 19 ∧ f ≠ []) ∧ (chP (kP b fs)).length ≤ 21 := by
  obtain ⟨co, hab, ci⟩ := cst_ok hf nd nf hl hb sb
  obtain ⟨s1, l1, s2⟩ := kP_szs hf hl sb
  obtain ⟨h1, h2⟩ := chain_sz co hab (kP b fs).length _ _ ci
  exact ⟨h1, by unfold chP; omega⟩
end
end W

set_option Elab.async false
set_option linter.all false
set_option maxRecDepth 100000
set_option autoImplicit false
set_option maxHeartbeats 1000000
namespace W
open PySem PySem.Spec PyProof.Rows L2 VL
/-! ### the law's numbers -/
theorem gcd18_step {x y : Nat} {j2 : SD} {d : D} (hy : y ≠ 0) : gTo (gSet 2) b__law_gcd_k18_1 d [.sh (.int (x : Int)), .sh (.int (y : Int)), j2] = .nx [.sh (.int (y : Int)), .sh (.int ((x % y : Nat) : Int)), .sh d] := by
  have hm : modD (.int (x : Int)) (.int (y : Int)) = some (.int ((x % y : Nat) : Int)) := by
    rw [r_mod (by omega), fmod_nat]
  have hz : ¬ ((y : Int) = 0) := by omega
  simp [b__law_gcd_k18_1, hm, hy]
theorem gcd18_ok {a b : Int} {g X Y k : Nat} (ha : a.natAbs = g * X) (hb : b.natAbs = g * Y) (hX : X < 2 ^ k) (hY : Y < 2 ^ k) (hk : 2 * k ≤ 19000) : m__law_gcd_k18 [.int a, .int b] = .ok (.sh (.int ((Nat.gcd a.natAbs b.natAbs : Nat) : Int))) := by
  have L := forO_gen (F := gTo (gSet 2) b__law_gcd_k18_1) (l := rngL 0 1 20000) (fun o => ∃ c j1 j2, o = .nx [.sh (.int ((c : Nat) : Int)), j1, j2] ∧ c = Nat.gcd a.natAbs b.natAbs)
    (fun i ρ => ∃ (x y : Nat) (j2 : SD), ρ = [.sh (.int ((g * x : Nat) : Int)), .sh (.int ((g * y : Nat) : Int)), j2] ∧ Nat.gcd (g * x) (g * y) = Nat.gcd a.natAbs b.natAbs ∧ ((i = 0 ∧ x * y * 2 < 2 ^ 19001) ∨ (x * y * 2 ^ i < 2 ^ 19001 ∧ y ≤ x)))
    (ρ := [.sh (.int (a.natAbs : Int)), .sh (.int (b.natAbs : Int)), .no])
    ⟨X, Y, _, by rw [← ha, ← hb], by rw [← ha, ← hb], .inl ⟨rfl, by
      have h1 := Nat.mul_lt_mul'' hX hY
      rw [← Nat.pow_add] at h1
      have h2 : (2 : Nat) ^ (k + k) ≤ 2 ^ 19000 := Nat.pow_le_pow_right (by decide) (by omega)
      have h3 : (2 : Nat) ^ 19001 = 2 ^ 19000 * 2 := Nat.pow_succ (n := 2) (m := 19000)
      rw [h3]
      generalize (2 : Nat) ^ 19000 = q at *
      generalize (2 : Nat) ^ (k + k) = r at *
      omega⟩⟩
    (fun i d ρ hd hi => by
      obtain ⟨x, y, j2, rfl, hg, hp⟩ := hi
      by_cases hy : g * y = 0
      · right; left
        refine ⟨_, by rw [hy]; simp [b__law_gcd_k18_1, -Out.bk.injEq]; rfl, g * x, _, _, rfl, ?_⟩
        rw [hy, Nat.gcd_zero_right] at hg
        exact hg
      · have e := gcd18_step (x := g * x) (y := g * y) (j2 := j2) (d := d) hy
        have y0 : y ≠ 0 := fun z => hy (by rw [z, Nat.mul_zero])
        rw [Nat.mul_mod_mul_left] at e
        left
        refine ⟨_, .inl e, y, x % y, _, rfl, ?_, .inr ?_⟩
        · rw [← hg, ← Nat.mul_mod_mul_left, Nat.gcd_comm (g * x) (g * y), Nat.gcd_comm (g * y) (g * x % (g * y)), ← Nat.gcd_rec]
        · rcases hp with ⟨rfl, hp⟩ | ⟨hp, hl⟩
          · have : x % y < y := Nat.mod_lt _ (by omega)
            have h2 : x % y ≤ x := Nat.mod_le _ _
            refine ⟨Nat.lt_of_le_of_lt ?_ hp, by omega⟩
            calc y * (x % y) * 2 ^ (0 + 1) = y * (x % y) * 2 := by rw [Nat.zero_add, Nat.pow_one]
              _ ≤ y * x * 2 := Nat.mul_le_mul_right 2 (Nat.mul_le_mul_left y h2)
              _ = x * y * 2 := by rw [Nat.mul_comm y x]
          · obtain ⟨h1, h2⟩ := gcd_halves hl y0
            refine ⟨Nat.lt_of_le_of_lt ?_ hp, h2⟩
            calc y * (x % y) * 2 ^ (i + 1) = 2 * (y * (x % y)) * 2 ^ i := by rw [Nat.pow_succ]; grind
              _ ≤ x * y * 2 ^ i := Nat.mul_le_mul_right _ h1)
    (fun ρ h => by
      obtain ⟨x, y, j2, rfl, hg, hp⟩ := h
      rw [rngL_length] at hp
      have z : x * y = 0 ∧ y ≤ x := by
        rcases hp with ⟨h, _⟩ | ⟨hp, hl⟩
        · exact absurd h (by decide)
        · refine ⟨?_, hl⟩
          have h2 : (2 : Nat) ^ 19001 ≤ 2 ^ 20000 := Nat.pow_le_pow_right (by decide) (by decide)
          have h3 : x * y * 2 ^ 20000 < 2 ^ 20000 := Nat.lt_of_lt_of_le hp h2
          have h4 : 0 < (2 : Nat) ^ 20000 := Nat.pow_pos (by decide)
          generalize (2 : Nat) ^ 20000 = q at *
          apply Classical.byContradiction
          intro n
          have : 1 * q ≤ x * y * q := Nat.mul_le_mul_right _ (by omega)
          omega
      obtain ⟨z1, z2⟩ := z
      have y0 : y = 0 := by
        rcases Nat.mul_eq_zero.mp z1 with h | h
        · omega
        · exact h
      subst y0
      rw [Nat.mul_zero, Nat.gcd_zero_right] at hg
      exact ⟨g * x, _, _, rfl, hg⟩)
  obtain ⟨c, j1, j2, e, hc⟩ := L
  have hr : range1D [.int 20000] = some (rngL 0 1 20000) := range1_ok (x := 20000) (by decide) (by decide)
  subst hc
  simp [m__law_gcd_k18, c__law_gcd_k18, abs_nat, hr, e, -r_abs]
theorem gcd18_s {a b : Int} {k : Nat} (ha : Sz k a) (hb : Sz k b) (hk : 2 * k ≤ 19000) : m__law_gcd_k18 [.int a, .int b] = .ok (.sh (.int ((Nat.gcd a.natAbs b.natAbs : Nat) : Int))) :=
  gcd18_ok (g := 1) (X := a.natAbs) (Y := b.natAbs) (k := k) (by omega) (by omega) ha.lt hb.lt hk
theorem number18_ok {n d : Int} {k : Nat} (hn : Sz k n) (h2 : Sz k d) (hk : k ≤ 9000) (hd : d ≠ 0) : m__law_number_k18 [.int n, .int d] = .ok (.sh (rD ((n : Rat) / (d : Rat)))) := by
  have key : ∀ (n d : Int), Sz k n → Sz k d → 0 < d → m__law_gcd_k18 [.int n, .int d] = .ok (.sh (.int ((Nat.gcd n.natAbs d.natAbs : Nat) : Int))) ∧ (∀ x, okDiv x ((Nat.gcd n.natAbs d.natAbs : Nat) : Int) = true) ∧ rD ((n : Rat) / (d : Rat)) = .tuple [.int (n.fdiv ((Nat.gcd n.natAbs d.natAbs : Nat) : Int)), .int (d.fdiv ((Nat.gcd n.natAbs d.natAbs : Nat) : Int))] := fun n d hn hz h0 => by
    have g0 : 0 < Nat.gcd n.natAbs d.natAbs := Nat.gcd_pos_of_pos_right _ (by omega)
    have gl : Nat.gcd n.natAbs d.natAbs ≤ d.natAbs := Nat.gcd_le_right _ (by omega)
    refine ⟨gcd18_s hn hz (by omega), fun x => okDiv_of ((hz.mono hk).of_le (by simpa using gl)) (by omega), ?_⟩
    rw [← rD_div (by omega)]
    unfold mkQ qD
    rw [if_neg (by omega)]
  by_cases c : d < 0
  · obtain ⟨k1, k2, k3⟩ := key (-n) (-d) hn.neg h2.neg (by omega)
    have eq : ((-n : Int) : Rat) / ((-d : Int) : Rat) = (n : Rat) / (d : Rat) := by
      rw [Rat.intCast_neg, Rat.intCast_neg]
      have : (d : Rat) ≠ 0 := by exact_mod_cast hd
      grind
    rw [eq] at k3
    rw [k3]
    rw [Int.natAbs_neg, Int.natAbs_neg] at *
    simp [m__law_number_k18, c__law_number_k18, c, k1, k2]
  · obtain ⟨k1, k2, k3⟩ := key n d hn h2 (by omega)
    rw [k3]
    simp [m__law_number_k18, c__law_number_k18, c, k1, k2]
theorem plus18_r {r s : Rat} {k l : Nat} (h : Rk k r) (h' : Rk l s) (e : k + l + 1 ≤ 8000) : m__law_plus_k18 [rD r, rD s] = .ok (.sh (rD (r + s))) := by
  have o1 : okMul r.num (s.den : Int) = true := okMul_of h.s1 h'.s2 (by omega)
  have o2 : okMul s.num (r.den : Int) = true := okMul_of h'.s1 h.s2 (by omega)
  have o3 : okMul (r.den : Int) (s.den : Int) = true := okMul_of h.s2 h'.s2 (by omega)
  have d0 : (r.den : Int) * (s.den : Int) ≠ 0 := Int.mul_ne_zero (by have := r.den_nz; omega) (by have := s.den_nz; omega)
  have z1 : Sz (k + l + 1) (r.num * (s.den : Int) + s.num * (r.den : Int)) := (show Sz (k + l) (r.num * (s.den : Int)) from h.s1.mul h'.s2).add ((show Sz (l + k) (s.num * (r.den : Int)) from h'.s1.mul h.s2).mono (by omega))
  have z2 : Sz (k + l + 1) ((r.den : Int) * (s.den : Int)) := (show Sz (k + l) ((r.den : Int) * (s.den : Int)) from h.s2.mul h'.s2).mono (by omega)
  have nm := number18_ok z1 z2 (by omega) d0
  have q : ((r.num * (s.den : Int) + s.num * (r.den : Int) : Int) : Rat) / (((r.den : Int) * (s.den : Int) : Int) : Rat) = r + s := by
    have a1 := num_eq r
    have a2 := num_eq s
    have a3 := den_ne r
    have a4 := den_ne s
    rw [Rat.intCast_add, Rat.intCast_mul, Rat.intCast_mul, Rat.intCast_mul, a1, a2]
    grind
  have nm' : m__law_number_k18 [.int (r.num * (s.den : Int) + s.num * (r.den : Int)), .int ((r.den : Int) * (s.den : Int))] = .ok (.sh (rD (r + s))) := by rw [← q]; exact nm
  simp [m__law_plus_k18, c__law_plus_k18, o1, o2, o3, nm']
/-- a drawn number -/
theorem law_x_ok {a b c : Int} {fs : List (List Int)} (hf : ∀ f ∈ fs, f ∈ FL) (nf : fs ≠ []) (hl : fs.length ≤ 6) : ∃ x : Rat, m__law_x [pD [a, b, c], .list (fs.map pD)] = .ok (.sh (rD x)) ∧ Rk 60 x := by
  have i0 : ixD (pD [a, b, c]) (.int 0) = some (.int a) := p_ixc (l := [a, b, c]) (n := 0) (by simp)
  have i1 : ixD (pD [a, b, c]) (.int 1) = some (.int b) := p_ixc (l := [a, b, c]) (n := 1) (by simp)
  have i2 : ixD (pD [a, b, c]) (.int 2) = some (.int c) := p_ixc (l := [a, b, c]) (n := 2) (by simp)
  obtain ⟨u0, u1⟩ := fmod_rng (a := a) (b := 61) (by decide)
  have m61 : modD (.int a) (.int 61) = some (.int (a.fmod 61)) := r_mod (by decide)
  obtain ⟨v0, v1⟩ := fmod_rng (a := b) (b := 4) (by decide)
  have m4 : modD (.int b) (.int 4) = some (.int (b.fmod 4)) := r_mod (by decide)
  obtain ⟨w0, w1⟩ := fmod_rng (a := b) (b := 9) (by decide)
  have m9 : modD (.int b) (.int 9) = some (.int (b.fmod 9)) := r_mod (by decide)
  have m3 : modD (.int c) (.int 3) = some (.int (c.fmod 3)) := r_mod (by decide)
  obtain ⟨e, he, e1, e2⟩ : ∃ e : Int, ixD (.list [.int 1, .int 1, .int 1, .int 33]) (.int (b.fmod 4)) = some (.int e) ∧ 1 ≤ e ∧ e ≤ 33 := by
    have hc : b.fmod 4 = 0 ∨ b.fmod 4 = 1 ∨ b.fmod 4 = 2 ∨ b.fmod 4 = 3 := by omega
    rcases hc with h | h | h | h <;> rw [h] <;> exact ⟨_, by simp <;> rfl, by decide, by decide⟩
  have mu : mulD (.int (a.fmod 61 - 30)) (.int e) = some (.int ((a.fmod 61 - 30) * e)) := r_mulS (by omega) (by omega) (by omega) (by omega)
  have sz1 : Sz 20 ((a.fmod 61 - 30) * e) := (show Sz 10 (a.fmod 61 - 30) from .of 1024 (by omega) (by omega) (by decide)).mul (show Sz 10 e from .of 1024 (by omega) (by omega) (by decide))
  have sz2 : Sz 20 (1 + b.fmod 9) := .of 1024 (by omega) (by omega) (by decide)
  have d9 : 1 + b.fmod 9 ≠ 0 := by omega
  have n1 := number18_ok sz1 sz2 (by decide) d9
  have k1 := rk_div d9 sz1 sz2
  obtain ⟨x0, hx0⟩ : ∃ x0, x0 = (((a.fmod 61 - 30) * e : Int) : Rat) / ((1 + b.fmod 9 : Int) : Rat) := ⟨_, rfl⟩
  rw [← hx0] at n1 k1
  have nl : ¬ fs.length = 0 := fun z => nf (List.length_eq_zero_iff.mp z)
  have nl' : ¬ ((fs.length : Int) = 0) := by omega
  by_cases c0 : c.fmod 3 = 0
  · refine ⟨x0, ?_, k1.mono (by decide)⟩
    rw [c0] at m3
    simp [m__law_x, c__law_x, i0, i1, i2, m61, m4, m9, m3, he, mu, n1, -r_ix_l]
  · obtain ⟨t0, t1⟩ := fmod_rng (a := a) (b := (fs.length : Int)) (by omega)
    have mf : modD (.int a) (.int (fs.length : Int)) = some (.int (a.fmod (fs.length : Int))) := r_mod (by omega)
    obtain ⟨j, hj⟩ : ∃ j : Nat, a.fmod (fs.length : Int) = (j : Int) := ⟨(a.fmod (fs.length : Int)).toNat, by omega⟩
    rw [hj] at mf
    have jl : j < fs.length := by omega
    have ixf : ixD (.list (fs.map pD)) (.int (j : Int)) = some (pD fs[j]) := by rw [r_ix_l, r_at, List.getElem?_map, List.getElem?_eq_getElem jl]; rfl
    have hF := hf _ (List.getElem_mem jl)
    generalize fs[j] = f at *
    obtain ⟨zf, _, l4, l2⟩ := FL_all f hF
    by_cases lf : f.length = 2
    · obtain ⟨p, q, rfl⟩ : ∃ p q, f = [p, q] := by
        match f, lf with
        | [p, q], _ => exact ⟨p, q, rfl⟩
      have q0 : 0 < q := FL_sh _ hF
      have zp : Sz 3 p := zf p (by simp)
      have zq : Sz 3 q := zf q (by simp)
      have j0 : ixD (pD [p, q]) (.int 0) = some (.int p) := p_ixc (l := [p, q]) (n := 0) (by simp)
      have j1 : ixD (pD [p, q]) (.int 1) = some (.int q) := p_ixc (l := [p, q]) (n := 1) (by simp)
      have n2 := number18_ok zp.neg zq (by decide) (by omega)
      have k2 := rk_div (show q ≠ 0 by omega) zp.neg zq
      obtain ⟨y0, hy0⟩ : ∃ y0, y0 = ((-p : Int) : Rat) / (q : Rat) := ⟨_, rfl⟩
      rw [← hy0] at n2 k2
      obtain ⟨g, hg, gk⟩ : ∃ g : Rat, ixD (.list [.tuple [.int 0, .int 1], .tuple [.int 0, .int 1], .tuple [.int 1, .int 100], .tuple [.int (-1), .int 100]]) (.int (b.fmod 4)) = some (rD g) ∧ Rk 10 g := by
        have hc : b.fmod 4 = 0 ∨ b.fmod 4 = 1 ∨ b.fmod 4 = 2 ∨ b.fmod 4 = 3 := by omega
        have r1 : Rk 10 (((1 : Int) : Rat) / ((100 : Int) : Rat)) := rk_div (by decide) (Sz.lit (by decide)) (Sz.lit (by decide))
        have r2 : Rk 10 (((-1 : Int) : Rat) / ((100 : Int) : Rat)) := rk_div (by decide) (Sz.lit (by decide)) (Sz.lit (by decide))
        have d1 : PyData.tuple [.int 1, .int 100] = rD (((1 : Int) : Rat) / ((100 : Int) : Rat)) := by
          have a1 : (((1 : Int) : Rat) / ((100 : Int) : Rat)).num = 1 := by decide +kernel
          have a2 : (((1 : Int) : Rat) / ((100 : Int) : Rat)).den = 100 := by decide +kernel
          rw [rD_def, a1, a2]; rfl
        have d2 : PyData.tuple [.int (-1), .int 100] = rD (((-1 : Int) : Rat) / ((100 : Int) : Rat)) := by
          have a1 : (((-1 : Int) : Rat) / ((100 : Int) : Rat)).num = -1 := by decide +kernel
          have a2 : (((-1 : Int) : Rat) / ((100 : Int) : Rat)).den = 100 := by decide +kernel
          rw [rD_def, a1, a2]; rfl
        rcases hc with h | h | h | h <;> rw [h]
        · exact ⟨0, by simp <;> rfl, rk0.mono (by decide)⟩
        · exact ⟨0, by simp <;> rfl, rk0.mono (by decide)⟩
        · exact ⟨_, by rw [← d1]; simp <;> rfl, r1⟩
        · exact ⟨_, by rw [← d2]; simp <;> rfl, r2⟩
      have pl := plus18_r k2 gk (by decide)
      refine ⟨y0 + g, ?_, (k2.add gk).mono (by decide)⟩
      simp [m__law_x, c__law_x, i0, i1, i2, m61, m4, m9, m3, he, mu, n1, c0, nl, mf, ixf, j0, j1, n2, hg, pl, -r_ix_l]
    · refine ⟨x0, ?_, k1.mono (by decide)⟩
      have lf' : ¬ ((f.length : Int) = 2) := by omega
      simp [m__law_x, c__law_x, i0, i1, i2, m61, m4, m9, m3, he, mu, n1, c0, nl, mf, ixf, lf, lf', -r_ix_l]
end W

set_option Elab.async false
set_option linter.all false
set_option maxRecDepth 100000
set_option autoImplicit false
set_option maxHeartbeats 1000000
namespace W
open PySem PySem.Spec PyProof.Rows L2 VL
noncomputable def b__law_bare_k17_1 : Ev → Out := sSet 2 (eCall m__law_gcd_k18 (eCons (eVar 2) (eCons (eVar 3) (cst []))))
noncomputable def c__law_bare_k17 : Ev → Out := sSeq (sSet 2 (cst (.int 0))) (sSeq (sFor (e1 seqD (eVar 0)) (gSet 3) b__law_bare_k17_1) (sRetO (eComp [3] (e1 seqD (eVar 0)) (gSet 3) (cst true) (e2 mulD (eOwn 1) (e2 fdivD (eOwn 3) (eOwn 2))))))
noncomputable def m__law_bare_k17 : List D → R SD := runD 2 4 c__law_bare_k17
noncomputable def c__law_add_k17 : Ev → Out := sSeq (sSet 2 (e1 maxD (eCons (e1 lenD (eCons (eOwn 0) (cst []))) (eCons (e1 lenD (eCons (eOwn 1) (cst []))) (cst []))))) (sRetO (eCallO m__law_trim_k19 (eCons (eLst (eComp [3] (e1 range1D (eCons (eOwn 2) (cst []))) (gSet 3) (cst true) (e2 addD (e2 ixD (e2 addD (eOwn 0) (e2 mulD (eLst (e1 lim (eCons (cst (.int 0)) (cst [])))) (eOwn 2))) (eOwn 3)) (e2 ixD (e2 addD (eOwn 1) (e2 mulD (eLst (e1 lim (eCons (cst (.int 0)) (cst [])))) (eOwn 2))) (eOwn 3))))) (cst []))))
noncomputable def m__law_add_k17 : List D → R SD := runD 2 4 c__law_add_k17
noncomputable def b__law_rest_k17_1 : Ev → Out := sSeq (sSet 4 (cst (.int 0))) (sSeq (sIf (e1 bOf (e2 eqD (e1 lenD (eCons (eOwn 2) (cst []))) (e2 subD (e1 lenD (eCons (eOwn 0) (cst []))) (eOwn 3)))) (sSet 4 (e2 ixD (eOwn 2) (e1 negD (cst (.int 1))))) (sNil)) (sSeq (sSet 5 (e2 subD (e2 subD (e1 lenD (eCons (eOwn 0) (cst []))) (e1 lenD (eCons (eOwn 1) (cst [])))) (eOwn 3))) (sSeq (sSet 6 (e2 addD (e2 mulD (eLst (e1 lim (eCons (cst (.int 0)) (cst [])))) (eOwn 5)) (eLst (eComp [7] (e1 seqD (eVar 1)) (gSet 7) (cst true) (e2 mulD (eOwn 4) (eOwn 7)))))) (sSet 2 (eCall m__law_add_k17 (eCons (eLst (eComp [7] (e1 seqD (eVar 2)) (gSet 7) (cst true) (e2 mulD (e2 ixD (eOwn 1) (e1 negD (cst (.int 1)))) (eOwn 7)))) (eCons (eLst (eComp [7] (e1 seqD (eVar 6)) (gSet 7) (cst true) (e1 negD (eOwn 7)))) (cst []))))))))
noncomputable def c__law_rest_k17 : Ev → Out := sSeq (sSet 2 (eLst (e1 listO (eCons (eOwn 0) (cst []))))) (sSeq (sFor (e1 range1D (eCons (e2 addD (e2 subD (e1 lenD (eCons (eOwn 0) (cst []))) (e1 lenD (eCons (eOwn 1) (cst [])))) (cst (.int 1))) (cst []))) (gSet 3) b__law_rest_k17_1) (sRet (eVar 2)))
noncomputable def m__law_rest_k17 : List D → R SD := runD 2 8 c__law_rest_k17
noncomputable def b__law_chain_1 : Ev → Out := sSeq (sPar 4 5 (eCons (e2 ixD (eOwn 1) (e1 negD (cst (.int 2)))) (eCons (e2 ixD (eOwn 1) (e1 negD (cst (.int 1)))) (cst [])))) (sSeq (sSet 6 (eCall m__law_rest_k17 (eCons (eVar 4) (eCons (eVar 5) (cst []))))) (sSeq (sIf (e1 bOf (e2 eqD (e1 lenD (eCons (eOwn 6) (cst []))) (cst (.int 0)))) (.bk) (sNil)) (sSeq (sSet 7 (eOrV (e2 gtD (e2 ixD (eOwn 5) (e1 negD (cst (.int 1)))) (cst (.int 0))) (e2 eqD (e2 modD (e1 intD (eCons (e2 subD (e1 lenD (eCons (eOwn 4) (cst []))) (e1 lenD (eCons (eOwn 5) (cst [])))) (cst []))) (cst (.int 2))) (cst (.int 1))))) (sApp 1 (eCall m__law_bare_k17 (eCons (eVar 6) (eCons (e2 ixD (eLst (e1 lim (eCons (cst (.int 1)) (eCons (e1 negD (cst (.int 1))) (cst []))))) (e1 intD (eCons (eOwn 7) (cst [])))) (cst []))))))))
noncomputable def c__law_chain : Ev → Out := sSeq (sSetO 1 (e1 lim (eCons (eCall m__law_bare_k17 (eCons (eVar 0) (eCons (cst (.int 1)) (cst [])))) (eCons (eCall m__law_bare_k17 (eCons (eLst (eComp [2] (e1 range2D (eCons (cst (.int 1)) (eCons (e1 lenD (eCons (eOwn 0) (cst []))) (cst [])))) (gSet 2) (cst true) (e2 mulD (e2 ixD (eOwn 0) (eOwn 2)) (eOwn 2)))) (eCons (cst (.int 1)) (cst [])))) (cst []))))) (sSeq (sFor (e1 range1D (eCons (e1 lenD (eCons (eOwn 0) (cst []))) (cst []))) (gSet 3) b__law_chain_1) (sRetV 1))
noncomputable def m__law_chain : List D → R SD := runD 1 8 c__law_chain
noncomputable def c__law_times_k17 : Ev → Out := sRet (eCall m__law_number_k18 (eCons (e2 mulD (e2 ixD (eOwn 0) (cst (.int 0))) (e2 ixD (eOwn 1) (cst (.int 0)))) (eCons (e2 mulD (e2 ixD (eOwn 0) (cst (.int 1))) (e2 ixD (eOwn 1) (cst (.int 1)))) (cst []))))
noncomputable def m__law_times_k17 : List D → R SD := runD 2 2 c__law_times_k17
noncomputable def b__law_at_k17_1 : Ev → Out := sSet 2 (eCall m__law_plus_k18 (eCons (eCall m__law_times_k17 (eCons (eVar 2) (eCons (eVar 1) (cst [])))) (eCons (e1 tupD (eCons (e2 ixD (eOwn 0) (e2 subD (e2 subD (e1 lenD (eCons (eOwn 0) (cst []))) (cst (.int 1))) (eOwn 3))) (eCons (cst (.int 1)) (cst [])))) (cst []))))
noncomputable def c__law_at_k17 : Ev → Out := sSeq (sSet 2 (e1 tupD (eCons (cst (.int 0)) (eCons (cst (.int 1)) (cst []))))) (sSeq (sFor (e1 range1D (eCons (e1 lenD (eCons (eOwn 0) (cst []))) (cst []))) (gSet 3) b__law_at_k17_1) (sRet (eVar 2)))
noncomputable def m__law_at_k17 : List D → R SD := runD 2 4 c__law_at_k17
noncomputable def c__law_sign_at : Ev → Out := sRet (eCall m_sign_of (eCons (e2 ixD (eCall m__law_at_k17 (eCons (eVar 0) (eCons (eVar 1) (cst [])))) (cst (.int 0))) (cst [])))
noncomputable def m__law_sign_at : List D → R SD := runD 2 2 c__law_sign_at
/-! ### the law's chain -/
theorem b17_loop {g k : Nat} (hk : 2 * k ≤ 19000) (w0 w1 : SD) : ∀ (a : List Int) (X : Nat) (j : SD), X < 2 ^ k → (∀ c ∈ a, ∃ Y, c.natAbs = g * Y ∧ Y < 2 ^ k) → ∃ j', forO (gTo (gSet 3) b__law_bare_k17_1) (a.map .int) [w0, w1, .sh (.int ((g * X : Nat) : Int)), j] = .nx [w0, w1, .sh (.int ((a.foldl (fun g c => Nat.gcd g c.natAbs) (g * X) : Nat) : Int)), j']
  | [], X, j, _, _ => ⟨j, rfl⟩
  | c :: a, X, j, hX, ha => by
    obtain ⟨Y, hY, lY⟩ := ha c (by simp)
    have gk := gcd18_ok (a := ((g * X : Nat) : Int)) (b := c) (g := g) (X := X) (Y := Y) (k := k) (Int.natAbs_natCast _) hY hX lY hk
    have en : (((g * X : Nat) : Int)).natAbs = g * X := Int.natAbs_natCast _
    rw [en] at gk
    have e2 : Nat.gcd (g * X) c.natAbs = g * Nat.gcd X Y := by rw [hY, Nat.gcd_mul_left]
    have l2 : Nat.gcd X Y < 2 ^ k := by
      by_cases z : X = 0
      · subst z; rw [Nat.gcd_zero_left]; exact lY
      · exact Nat.lt_of_le_of_lt (Nat.gcd_le_left Y (Nat.pos_of_ne_zero z)) hX
    obtain ⟨j', e⟩ := b17_loop hk w0 w1 a (Nat.gcd X Y) (.sh (.int c)) l2 (fun x hx => ha x (by simp [hx]))
    have st : gTo (gSet 3) b__law_bare_k17_1 (.int c) [w0, w1, .sh (.int ((g * X : Nat) : Int)), j] = .nx [w0, w1, .sh (.int ((Nat.gcd (g * X) c.natAbs : Nat) : Int)), .sh (.int c)] := by
      generalize g * X = n at *
      simp [b__law_bare_k17_1, gk]
    refine ⟨j', ?_⟩
    rw [List.map_cons, List.foldl_cons, forO, st, e2]
    exact e
theorem bare17_ok {a : List Int} {s : Int} (hs : s = 1 ∨ s = -1) (ta : Tr a) (na : a ≠ []) (h : SzP 4400 (plainP a)) (la : a.length ≤ 1000) : m__law_bare_k17 [pD a, .int s] = .ok (.ow ((brP s a).map .int)) := by
  have c0 : (contN a : Int) ≠ 0 := by have := contN_ne ta na; omega
  have bz := bare_sz ta na h
  have hls : a.length ≤ sizeLine := slB (by omega)
  obtain ⟨j', lp⟩ := b17_loop (g := contN a) (k := 4400) (by decide) (.sh (pD a)) (.sh (.int s)) a 0 .no (Nat.two_pow_pos _) (fun c hc => by
    refine ⟨(c.fdiv (contN a : Int)).natAbs, ?_, (bz _ (List.mem_map.mpr ⟨c, hc, rfl⟩)).lt⟩
    obtain ⟨m, hm⟩ := contN_dvd hc
    rw [hm, Int.mul_fdiv_cancel_left _ c0, Int.natAbs_mul, Int.natAbs_natCast])
  rw [Nat.mul_zero] at lp
  have e0 : ((0 : Nat) : Int) = 0 := rfl
  rw [e0] at lp
  have lp' : forO (gTo (gSet 3) b__law_bare_k17_1) (a.map .int) [.sh (pD a), .sh (.int s), .sh (.int 0), .no] = .nx [.sh (pD a), .sh (.int s), .sh (.int (contN a : Int)), j'] := lp
  have hc : ∀ a3 : SD, compR (compS [3] (gSet 3) (cst true) (e2 mulD (eOwn 1) (e2 fdivD (eOwn 3) (eOwn 2))) [.sh (pD a), .sh (.int s), .sh (.int (contN a : Int)), a3]) (a.map .int) = .ok ((brP s a).map .int) := fun a3 => by
    unfold brP
    rw [List.map_map]
    exact compR_map' fun x hx => by
      have q : Sz 4400 (x.fdiv (contN a : Int)) := bz _ (List.mem_map.mpr ⟨x, hx, rfl⟩)
      have od := okDiv_q q c0
      have om : okMul s (x.fdiv (contN a : Int)) = true := okMul_of (show Sz 1 s by rcases hs with rfl | rfl <;> exact Sz.lit (by decide)) q (by decide)
      simp [compS, od, om]
  simp [m__law_bare_k17, c__law_bare_k17, hls, lp', hc]
theorem cat0 {l : List Int} {n : Nat} (hl : l.length ≤ 10000) (hn : n ≤ 10000) : addD (pD l) (pD (fl n fun _ => 0)) = some (pD (l ++ fl n fun _ => 0)) := by
  unfold pD
  rw [r_addL, r_cat (slB (by simp; omega)), List.map_append]; rfl
theorem cf_pad (l : List Int) (n k : Nat) : cf (l ++ fl n fun _ => 0) k = cf l k := by
  rw [cf_app]
  split
  · rfl
  · rename_i h
    rw [cf_fl, cf_out (l := l) (by omega)]
    split <;> rfl
theorem add17_ok {a b : List Int} (ha : a.length ≤ 5000) (hb : b.length ≤ 5000) : m__law_add_k17 [pD a, pD b] = .ok (.ow ((addP a b).map .int)) := by
  obtain ⟨L, hL⟩ : ∃ L, L = max a.length b.length := ⟨_, rfl⟩
  have rp := rep_ok (n := L) (z := ((max a.length b.length : Nat) : Int)) (by rw [hL]) (by omega)
  have r1 := range1_ok (x := ((max a.length b.length : Nat) : Int)) (by omega) (by omega)
  have et : ((max a.length b.length : Nat) : Int).toNat = L := by omega
  rw [et] at r1
  have ca := cat0 (l := a) (n := L) (by omega) (by omega)
  have cb := cat0 (l := b) (n := L) (by omega) (by omega)
  have hls : L ≤ sizeLine := slB (by omega)
  have hc : ∀ a3 : SD, compR (compS [3] (gSet 3) (cst true) (e2 addD (e2 ixD (e2 addD (eOwn 0) (e2 mulD (eLst (e1 lim (eCons (cst (.int 0)) (cst [])))) (eOwn 2))) (eOwn 3)) (e2 ixD (e2 addD (eOwn 1) (e2 mulD (eLst (e1 lim (eCons (cst (.int 0)) (cst [])))) (eOwn 2))) (eOwn 3))) [.sh (pD a), .sh (pD b), .sh (.int ((max a.length b.length : Nat) : Int)), a3]) (rngL 0 1 L) = .ok ((fl L fun k => cf a k + cf b k).map .int) := fun a3 => by
    have e : rngL 0 1 L = (List.range L).map fun i => PyData.int ((i : Nat) : Int) := by
      unfold rngL
      exact List.map_congr_left fun i _ => congrArg PyData.int (by omega)
    rw [e]
    have e' : (fl L fun k => cf a k + cf b k).map PyData.int = (List.range L).map fun k => PyData.int (cf a k + cf b k) := by unfold fl; rw [List.map_map]; rfl
    rw [e']
    exact compR_map' fun k hk => by
      have kl : k < L := List.mem_range.mp hk
      have i1 := p_ixc (l := a ++ fl L fun _ => 0) (n := k) (by simp; omega)
      have i2 := p_ixc (l := b ++ fl L fun _ => 0) (n := k) (by simp; omega)
      rw [cf_pad] at i1 i2
      simp [compS, rp, ca, cb, i1, i2]
  have ht := trimk_ok (fl L fun k => cf a k + cf b k) (by simp; omega)
  have he : trimP (fl L fun k => cf a k + cf b k) = addP a b := by unfold addP; rw [hL]
  rw [he] at ht
  simp [m__law_add_k17, c__law_add_k17, r1, rngL_length, hc, ht, hls]
theorem rest17_step {a b : List Int} {s t j : Nat} (hsa : SzP s a) (hsb : SzP t b) (ha : Tr a) (hb : b ≠ []) (hl : b.length ≤ a.length) (hj : j ≤ a.length - b.length) (hla : a.length ≤ 1000) (hst : s + 1001 * (t + 1) ≤ 10000000) (w3 w4 w5 w6 w7 : SD) :
    ∃ y4 y5 y6, gTo (gSet 3) b__law_rest_k17_1 (.int (j : Int)) [.sh (pD a), .sh (pD b), .sh (pD (frN a b j)), w3, w4, w5, w6, w7]
      = .nx [.sh (pD a), .sh (pD b), .sh (pD (frN a b (j + 1))), .sh (.int (j : Int)), y4, y5, y6, w7] := by
  have lb : 0 < b.length := List.length_pos_iff.mpr hb
  have fz := frN_sz hsa hsb j
  have jm : j * (t + 1) ≤ 1000 * (t + 1) := Nat.mul_le_mul_right _ (by omega)
  have fl' := frN_len ha hb hl (j := j) (by omega)
  obtain ⟨k, hk⟩ : ∃ k, k = a.length - b.length - j := ⟨_, rfl⟩
  obtain ⟨c, hc⟩ : ∃ c, c = cf (frN a b j) (k + b.length - 1) := ⟨_, rfl⟩
  have e5 : (a.length : Int) - (b.length : Int) - (j : Int) = (k : Int) := by omega
  have ixl := ix_last (l := b) (n := b.length - 1) (by omega)
  obtain ⟨u, hu⟩ : ∃ u, u = cf b (b.length - 1) := ⟨_, rfl⟩
  have su : Sz t u := by rw [hu]; exact hsb.cf _
  have rp := rep_ok (n := k) (z := (k : Int)) rfl (by omega)
  have cs : Sz (s + j * (t + 1)) c := by rw [hc]; exact fz.cf _
  have ca : addD (pD (fl k fun _ => 0)) (pD (b.map (c * ·))) = some (pD ((fl k fun _ => 0) ++ b.map (c * ·))) := by
    unfold pD
    rw [r_addL, r_cat (slB (by simp; omega)), List.map_append]; rfl
  obtain ⟨M, hM⟩ : ∃ M, M = (fl k fun _ => (0 : Int)) ++ b.map (c * ·) := ⟨_, rfl⟩
  rw [← hM] at ca
  have lM : M.length ≤ 1000 := by rw [hM]; simp; omega
  have ls : b.length ≤ sizeLine := slB (by omega)
  have lr : (frN a b j).length ≤ sizeLine := slB (by omega)
  have lMs : M.length ≤ sizeLine := slB (by omega)
  rw [← hu] at ixl
  obtain ⟨R', hR'⟩ : ∃ R', R' = frN a b (j + 1) := ⟨_, rfl⟩
  have en : addP ((frN a b j).map (u * ·)) (M.map fun x => -x) = R' := by
    rw [hR']
    refine (tr_add _ _).uniq (frN_tr ha _) fun n => ?_
    have c1 : cf ((frN a b j).map (u * ·)) n = u * cf (frN a b j) n := cf_map (f := fun x => u * x) (by simp) n
    have c2 : cf (M.map fun x => -x) n = -(cf M n) := cf_map (f := fun x => -x) (by simp) n
    have c3 : cf M n = if n < k then 0 else c * cf b (n - k) := by
      rw [hM, cf_app, fl_length, cf_fl]
      split
      · rfl
      · exact cf_map (f := fun x => c * x) (by simp) _
    rw [frN, cf_add, c1, c2, c3, cf_st, ← hk, ← hc, ← hu]
    split
    · rw [Int.mul_comm]; omega
    · rw [Int.mul_comm, Int.mul_comm c]; omega
  have ad := add17_ok (a := (frN a b j).map (u * ·)) (b := M.map fun x => -x) (by simp; omega) (by simp; omega)
  rw [en] at ad
  have k1 : ∀ a0 a1 a2 a3 a5 a6 a7 : SD, compR (compS [7] (gSet 7) (cst true) (e2 mulD (eOwn 4) (eOwn 7)) [a0, a1, a2, a3, .sh (.int c), a5, a6, a7]) (b.map .int) = .ok ((b.map (c * ·)).map .int) := fun a0 a1 a2 a3 a5 a6 a7 => by
    rw [List.map_map]
    exact compR_map' fun x hx => by
      have o := okMul_of cs (hsb x hx) (by omega)
      simp [compS, o]
  have k2 : ∀ a0 a2 a3 a4 a5 a6 a7 : SD, compR (compS [7] (gSet 7) (cst true) (e2 mulD (e2 ixD (eOwn 1) (e1 negD (cst (.int 1)))) (eOwn 7)) [a0, .sh (pD b), a2, a3, a4, a5, a6, a7]) ((frN a b j).map .int) = .ok (((frN a b j).map (u * ·)).map .int) := fun a0 a2 a3 a4 a5 a6 a7 => by
    rw [List.map_map]
    exact compR_map' fun x hx => by
      have o := okMul_of su (fz x hx) (by omega)
      simp [compS, ixl, o]
  have k3 : ∀ a0 a1 a2 a3 a4 a5 a6 a7 : SD, compR (compS [7] (gSet 7) (cst true) (e1 negD (eOwn 7)) [a0, a1, a2, a3, a4, a5, a6, a7]) (M.map .int) = .ok ((M.map fun x => -x).map .int) := fun a0 a1 a2 a3 a4 a5 a6 a7 => by
    rw [List.map_map]
    exact compR_map' fun x hx => by simp [compS]
  have kk1 : ∀ l : List Int, PyData.list (l.map .int) = pD l := fun _ => rfl
  rw [← hR']
  by_cases h : (frN a b j).length = k + b.length
  · have h' : ((frN a b j).length : Int) = (a.length : Int) - (j : Int) := by omega
    have ix := ix_last (l := frN a b j) (n := k + b.length - 1) (by omega)
    rw [← hc] at ix
    generalize frN a b j = R at *
    generalize List.map (fun x => u * x) R = R1 at *
    generalize List.map (fun x => c * x) b = B1 at *
    generalize List.map (fun x => -x) M = M1 at *
    exact ⟨_, _, _, by simp [b__law_rest_k17_1, h', ix, e5, rp, ls, lr, lMs, k1, k2, k3, ca, ad, -Out.nx.injEq] <;> rfl⟩
  · have h' : ¬ ((frN a b j).length : Int) = (a.length : Int) - (j : Int) := by omega
    have c0 : c = 0 := by rw [hc]; exact cf_out (by omega)
    rw [c0] at k1 ca
    generalize frN a b j = R at *
    generalize List.map (fun x => u * x) R = R1 at *
    generalize List.map (fun x => 0 * x) b = B1 at *
    generalize List.map (fun x => -x) M = M1 at *
    exact ⟨_, _, _, by simp [b__law_rest_k17_1, h', e5, rp, ls, lr, lMs, k1, k2, k3, ca, ad, -Out.nx.injEq] <;> rfl⟩
theorem rest17_ok {a b : List Int} {s t : Nat} (hsa : SzP s a) (hsb : SzP t b) (ha : Tr a) (hb : b ≠ []) (hl : b.length ≤ a.length) (hla : a.length ≤ 1000) (hst : s + 1001 * (t + 1) ≤ 10000000) : m__law_rest_k17 [pD a, pD b] = .ok (.sh (pD (frP a b))) := by
  have e : frP a b = frN a b (a.length - b.length + 1) := by unfold frP; rw [if_neg (by omega)]
  rw [e]
  have lo : listO [pD a] = some (a.map .int) := by unfold pD; exact r_listO
  have hls : a.length ≤ sizeLine := slB (by omega)
  have hr := range1_ok (x := (a.length : Int) - (b.length : Int) + 1) (by omega) (by omega)
  have et : ((a.length : Int) - (b.length : Int) + 1).toNat = a.length - b.length + 1 := by omega
  rw [et] at hr
  obtain ⟨ρ', eq, y3, y4, y5, y6, y7, rfl⟩ := forO_inv (F := gTo (gSet 3) b__law_rest_k17_1) (l := rngL 0 1 (a.length - b.length + 1))
    (fun j ρ => ∃ y3 y4 y5 y6 y7, ρ = [.sh (pD a), .sh (pD b), .sh (pD (frN a b j)), y3, y4, y5, y6, y7])
    (ρ := [.sh (pD a), .sh (pD b), .sh (pD a), .no, .no, .no, .no, .no]) ⟨_, _, _, _, _, rfl⟩
    (fun j d ρ hd hi => by
      obtain ⟨hj, rfl⟩ := rng0_get hd
      obtain ⟨y3, y4, y5, y6, y7, rfl⟩ := hi
      obtain ⟨z4, z5, z6, st⟩ := rest17_step hsa hsb ha hb hl (by omega : j ≤ a.length - b.length) hla hst y3 y4 y5 y6 y7
      exact ⟨_, .inl st, _, _, _, _, _, rfl⟩)
  rw [rngL_length] at eq
  simp [m__law_rest_k17, c__law_rest_k17, lo, hls, hr, eq]
theorem ix_m1 (L : List D) (x y : D) : ixD (.list (L ++ [x, y])) (.int (-1)) = some y := by
  have : L ++ [x, y] = (L ++ [x]) ++ [y] := by simp
  rw [this]
  exact r_at_last
theorem ix_m2 (L : List D) (x y : D) : ixD (.list (L ++ [x, y])) (.int (-2)) = some x := by
  have e : ixN (L ++ [x, y]).length (-2) = some L.length := by
    unfold ixN
    rw [if_neg (by omega), if_pos (by simp; omega)]
    simp
    omega
  rw [r_ix_l]
  unfold atI
  rw [e]
  simp
section
variable {A B a b : List Int} {z : Nat}
theorem chain17_step (co : CQ z 5 27 1900 A B) (hAB : A.length + B.length ≤ 27) (h : CI A B a b) (pre : List (List Int)) (hp : pre.length ≤ 1000) (d : D) (w0 w2 w3 w4 w5 w6 w7 : SD) :
    (frP a b = [] → ∃ z3 z4 z5 z6, gTo (gSet 3) b__law_chain_1 d [w0, .ow ((pre ++ [a, b]).map pD), w2, w3, w4, w5, w6, w7] = .bk [w0, .ow ((pre ++ [a, b]).map pD), w2, z3, z4, z5, z6, w7]) ∧
    (frP a b ≠ [] → ∃ z3 z4 z5 z6 z7, gTo (gSet 3) b__law_chain_1 d [w0, .ow ((pre ++ [a, b]).map pD), w2, w3, w4, w5, w6, w7] = .nx [w0, .ow ((pre ++ [a, b, nxP a b]).map pD), w2, z3, z4, z5, z6, z7]) := by
  have lb := List.length_pos_iff.mpr h.nb
  have la := h.la
  have hl := h.hl
  have fr := rest17_ok h.sa h.sb h.ta h.nb (by omega) (by omega) (by omega)
  obtain ⟨L, hL⟩ : ∃ L, L = (pre ++ [a, b]).map pD := ⟨_, rfl⟩
  have i1 : ixD (.list L) (.int (-1)) = some (pD b) := by rw [hL, List.map_append]; exact ix_m1 _ _ _
  have i2 : ixD (.list L) (.int (-2)) = some (pD a) := by rw [hL, List.map_append]; exact ix_m2 _ _ _
  have il := ix_last (l := b) (n := b.length - 1) (by omega)
  have md : modD (.int ((a.length : Int) - (b.length : Int))) (.int 2) = some (.int (((a.length - b.length) % 2 : Nat) : Int)) := by
    have := r_mod (x := (a.length : Int) - (b.length : Int)) (y := 2) (by decide)
    rw [this]
    have : ((a.length : Int) - (b.length : Int)).fmod 2 = (((a.length - b.length) % 2 : Nat) : Int) := by
      rw [show (a.length : Int) - (b.length : Int) = ((a.length - b.length : Nat) : Int) by omega]
      exact fmod_nat _ 2
    rw [this]
  have hLs : L.length < sizeLine := by
    have e : L.length = pre.length + 2 := by rw [hL]; simp
    have : (100000 : Nat) ≤ sizeLine := by decide
    omega
  rw [← hL]
  constructor
  · intro z
    rw [z] at fr
    exact ⟨_, _, _, _, by simp [b__law_chain_1, i1, i2, fr, -r_ix_l, -Out.bk.injEq] <;> rfl⟩
  · intro nr
    obtain ⟨_, s4⟩ := CI.next co hAB h nr
    have te : ¬ ((frP a b).length : Int) = 0 := by have := List.length_pos_iff.mpr nr; omega
    have tr := fr_tr (b := b) h.ta
    have lf := fr_len (b := b) h.ta h.nb (by omega)
    have e3 : (pre ++ [a, b, nxP a b]).map pD = L ++ [pD (nxP a b)] := by rw [hL]; simp
    rw [e3]
    have j0 : ixD (.list [.int 1, .int (-1)]) (.int 0) = some (.int 1) := by simp <;> rfl
    have j1 : ixD (.list [.int 1, .int (-1)]) (.int 1) = some (.int (-1)) := by simp <;> rfl
    have ib : ∀ v : Bool, intD [.bool v] = some (.int (if v then 1 else 0)) := fun v => by cases v <;> rfl
    by_cases t : trn a b = true
    · have bo := bare17_ok (s := -1) (.inr rfl) tr nr (s4.mono (by decide)) (by omega)
      have en : nxP a b = brP (-1) (frP a b) := by unfold nxP; rw [if_pos t]
      rw [en]
      unfold trn at t
      rw [Bool.or_eq_true, decide_eq_true_eq, decide_eq_true_eq] at t
      generalize frP a b = R at *
      by_cases g : 0 < cf b (b.length - 1)
      · exact ⟨_, _, _, .sh (pD R), .sh (.bool true), by simp [b__law_chain_1, i1, i2, fr, te, nr, il, g, bo, hLs, j0, j1, -r_ix_l, -Out.nx.injEq] <;> rfl⟩
      · have t2 := t.resolve_left g
        have t2' : (((a.length - b.length) % 2 : Nat) : Int) = 1 := by omega
        rw [t2'] at md
        exact ⟨_, _, _, .sh (pD R), .sh (.bool true), by simp [b__law_chain_1, i1, i2, fr, te, nr, il, g, md, bo, hLs, j0, j1, -r_ix_l, -Out.nx.injEq] <;> rfl⟩
    · have bo := bare17_ok (s := 1) (.inl rfl) tr nr (s4.mono (by decide)) (by omega)
      have en : nxP a b = brP 1 (frP a b) := by unfold nxP; rw [if_neg t]
      rw [en]
      unfold trn at t
      rw [Bool.or_eq_true, decide_eq_true_eq, decide_eq_true_eq] at t
      generalize frP a b = R at *
      have g : ¬ 0 < cf b (b.length - 1) := fun h => t (.inl h)
      have t2 : ¬ (a.length - b.length) % 2 = 1 := fun h => t (.inr h)
      have t2' : (((a.length - b.length) % 2 : Nat) : Int) = 0 := by omega
      rw [t2'] at md
      exact ⟨_, _, _, .sh (pD R), .sh (.bool false), by simp [b__law_chain_1, i1, i2, fr, te, nr, il, g, md, bo, hLs, j0, j1, -r_ix_l, -Out.nx.injEq] <;> rfl⟩
theorem chain17_loop (co : CQ z 5 27 1900 A B) (hAB : A.length + B.length ≤ 27) (w0 w2 : SD) : ∀ (ds : List D) (a b : List Int) (pre : List (List Int)) (y3 y4 y5 y6 y7 : SD), CI A B a b → pre.length + ds.length ≤ 1000 →
    ∃ z3 z4 z5 z6 z7, forO (gTo (gSet 3) b__law_chain_1) ds [w0, .ow ((pre ++ [a, b]).map pD), w2, y3, y4, y5, y6, y7] = .nx [w0, .ow ((pre ++ chS ds.length a b).map pD), w2, z3, z4, z5, z6, z7]
  | [], a, b, pre, y3, y4, y5, y6, y7, h, hp => ⟨y3, y4, y5, y6, y7, rfl⟩
  | d :: ds, a, b, pre, y3, y4, y5, y6, y7, h, hp => by
    rw [List.length_cons] at hp
    obtain ⟨s1, s2⟩ := chain17_step co hAB h pre (by omega) d w0 w2 y3 y4 y5 y6 y7
    rw [List.length_cons, forO]
    by_cases r0 : frP a b = []
    · obtain ⟨z3, z4, z5, z6, s1⟩ := s1 r0
      have e : chS (ds.length + 1) a b = [a, b] := by unfold chS; rw [if_pos r0]
      rw [e, s1]
      exact ⟨_, _, _, _, _, rfl⟩
    · obtain ⟨z3, z4, z5, z6, z7, s2⟩ := s2 r0
      have e : chS (ds.length + 1) a b = a :: chS ds.length b (nxP a b) := by rw [chS, if_neg r0]
      obtain ⟨c, _⟩ := CI.next co hAB h r0
      obtain ⟨u3, u4, u5, u6, u7, ih⟩ := chain17_loop co hAB w0 w2 ds b (nxP a b) (pre ++ [a]) z3 z4 z5 z6 z7 c (by simp; omega)
      have e1' : pre ++ [a] ++ [b, nxP a b] = pre ++ [a, b, nxP a b] := by simp
      have e2' : pre ++ [a] ++ chS ds.length b (nxP a b) = pre ++ a :: chS ds.length b (nxP a b) := by simp
      rw [e1', e2'] at ih
      rw [e, s2]
      exact ⟨_, _, _, _, _, ih⟩
end
theorem chain17_ok {fs : List (List Int)} {b : Int} (hf : ∀ f ∈ fs, f ∈ FL) (nd : fs.Nodup) (nf : fs ≠ []) (hl : fs.length ≤ 6) (hb : b ≠ 0) (sb : Sz 3 b) : m__law_chain [pD (kP b fs)] = .ok (.ow ((chP (kP b fs)).map pD)) := by
  obtain ⟨co, hab, ci⟩ := cst_ok hf nd nf hl hb sb
  obtain ⟨s1, l1, s2⟩ := kP_szs hf hl sb
  have t0 := kP_tr (b := b) hf (by omega) hb
  have l2 := kP_two (b := b) hf nf
  have n0 : kP b fs ≠ [] := by rw [← List.length_pos_iff]; omega
  have t1 := tr_der t0
  have ld := der_len (kP b fs)
  have n1 : derP (kP b fs) ≠ [] := by rw [← List.length_pos_iff]; omega
  have h1 : (1 : Int) = 1 ∨ (1 : Int) = -1 := .inl rfl
  have b0 := bare17_ok h1 t0 n0 (s1.plain.mono (by decide)) (by omega)
  have b1 := bare17_ok h1 t1 n1 (s2.plain.mono (by decide)) (by omega)
  have hr := range2_ok (x := 1) (y := ((kP b fs).length : Nat)) (by decide) (by decide) (by omega) (by omega)
  have e : (((kP b fs).length : Int) - 1).toNat = (kP b fs).length - 1 := by omega
  rw [e] at hr
  have hls : (kP b fs).length - 1 ≤ sizeLine := slB (by omega)
  have hc : ∀ a1 a2 a3 a4 a5 a6 a7 : SD, compR (compS [2] (gSet 2) (cst true) (e2 mulD (e2 ixD (eOwn 0) (eOwn 2)) (eOwn 2)) [.sh (pD (kP b fs)), a1, a2, a3, a4, a5, a6, a7]) (rngL 1 1 ((kP b fs).length - 1)) = .ok ((derP (kP b fs)).map .int) := fun a1 a2 a3 a4 a5 a6 a7 => by
    rw [rng1]
    have e' : (derP (kP b fs)).map PyData.int = (List.range ((kP b fs).length - 1)).map fun k => PyData.int (cf (kP b fs) (k + 1) * ((k : Int) + 1)) := by unfold derP fl; rw [List.map_map]; rfl
    rw [e']
    exact compR_map' fun k hk => by
      have kl := List.mem_range.mp hk
      have ix := p_ixc (l := kP b fs) (n := k + 1) (by omega)
      have ix' : ixD (pD (kP b fs)) (.int ((k : Int) + 1)) = some (.int (cf (kP b fs) (k + 1))) := ix
      have o : okMul (cf (kP b fs) (k + 1)) ((k : Int) + 1) = true := okMul_of (s1.cf _) (show Sz 5 ((k : Int) + 1) from .of 32 (by omega) (by omega) (by decide)) (by decide)
      simp [compS, ix', o]
  have r2 := range1_ok (x := ((kP b fs).length : Nat)) (by omega) (by omega)
  have et : (((kP b fs).length : Nat) : Int).toNat = (kP b fs).length := by omega
  rw [et] at r2
  obtain ⟨z3, z4, z5, z6, z7, lp⟩ := chain17_loop co hab (.sh (pD (kP b fs))) .no (rngL 0 1 (kP b fs).length) _ _ [] .no .no .no .no .no ci (by rw [rngL_length]; simp; omega)
  rw [rngL_length, List.nil_append, List.nil_append] at lp
  unfold chP
  generalize chS (kP b fs).length (brP 1 (kP b fs)) (brP 1 (derP (kP b fs))) = L at *
  simp only [List.map_cons, List.map_nil] at lp
  simp [m__law_chain, c__law_chain, b0, b1, hr, rngL_length, hls, hc, r2, lp]
/-! ### values by the law -/
theorem times17_r {r s : Rat} {k l : Nat} (h : Rk k r) (h' : Rk l s) (e : k + l ≤ 8000) : m__law_times_k17 [rD r, rD s] = .ok (.sh (rD (r * s))) := by
  have o1 : okMul r.num s.num = true := okMul_of h.s1 h'.s1 (by omega)
  have o2 : okMul (r.den : Int) (s.den : Int) = true := okMul_of h.s2 h'.s2 (by omega)
  have d0 : (r.den : Int) * (s.den : Int) ≠ 0 := Int.mul_ne_zero (by have := r.den_nz; omega) (by have := s.den_nz; omega)
  have z1 : Sz (k + l) (r.num * s.num) := h.s1.mul h'.s1
  have z2 : Sz (k + l) ((r.den : Int) * (s.den : Int)) := h.s2.mul h'.s2
  have nm := number18_ok z1 z2 (by omega) d0
  have q : ((r.num * s.num : Int) : Rat) / (((r.den : Int) * (s.den : Int) : Int) : Rat) = r * s := by
    have a1 := num_eq r
    have a2 := num_eq s
    have a3 := den_ne r
    have a4 := den_ne s
    rw [Rat.intCast_mul, Rat.intCast_mul, a1, a2]
    grind
  have nm' : m__law_number_k18 [.int (r.num * s.num), .int ((r.den : Int) * (s.den : Int))] = .ok (.sh (rD (r * s))) := by rw [← q]; exact nm
  simp [m__law_times_k17, c__law_times_k17, o1, o2, nm']
theorem at17_ok {a : List Int} {x : Rat} {kx c : Nat} (ha : SzP c a) (hx : Rk kx x) (hc : 1 ≤ c) (h : c + (kx + 1) * a.length + 2 + kx + c ≤ 7000) (la : a.length ≤ 1000) : m__law_at_k17 [pD a, rD x] = .ok (.sh (rD (evP a x))) := by
  have hr := range1_ok (x := (a.length : Nat)) (by omega) (by omega)
  have et : ((a.length : Nat) : Int).toNat = a.length := by omega
  rw [et] at hr
  obtain ⟨ρ', e, y3, rfl⟩ := forO_inv (F := gTo (gSet 3) b__law_at_k17_1) (l := rngL 0 1 a.length)
    (fun i ρ => ∃ y3, ρ = [.sh (pD a), .sh (rD x), .sh (rD (evP (a.drop (a.length - i)) x)), y3])
    (ρ := [.sh (pD a), .sh (rD x), .sh (rD 0), .no])
    ⟨.no, by
      rw [Nat.sub_zero, List.drop_length]
      rfl⟩
    (fun i d ρ hd hi => by
      obtain ⟨hj, rfl⟩ := rng0_get hd
      obtain ⟨y3, rfl⟩ := hi
      have hz : SzP c (a.drop (a.length - i)) := fun z hz => ha z (List.mem_of_mem_drop hz)
      have hs := ev_rk hx hz
      have ld : (a.drop (a.length - i)).length ≤ a.length := by simp
      have ml : (kx + 1) * (a.drop (a.length - i)).length ≤ (kx + 1) * a.length := Nat.mul_le_mul_left _ ld
      have kl : a.length - i - 1 < a.length := by omega
      have ix := p_ixc (l := a) (n := a.length - i - 1) kl
      have ei : ((a.length - i - 1 : Nat) : Int) = (a.length : Int) - 1 - (i : Int) := by omega
      rw [ei] at ix
      have hk := rk_int (ha.cf (a.length - i - 1)) hc
      have m1 := times17_r hs hx (by omega)
      have p1 := plus18_r (hs.mul hx) hk (by omega)
      have ed : a.drop (a.length - (i + 1)) = cf a (a.length - i - 1) :: a.drop (a.length - i) := by
        rw [show a.length - (i + 1) = a.length - i - 1 by omega, List.drop_eq_getElem_cons kl, show a.length - i - 1 + 1 = a.length - i by omega]
        have : cf a (a.length - i - 1) = a[a.length - i - 1] := by
          have := cf_get kl
          rw [List.getElem?_eq_getElem kl] at this
          exact (Option.some.inj this).symm
        rw [this]
      have ee : evP (a.drop (a.length - (i + 1))) x = evP (a.drop (a.length - i)) x * x + ((cf a (a.length - i - 1) : Int) : Rat) := by rw [ed]; rfl
      generalize evP (a.drop (a.length - i)) x = v at *
      generalize evP (a.drop (a.length - (i + 1))) x = v' at *
      subst ee
      exact ⟨_, .inl (by simp [b__law_at_k17_1, ix, m1, rD_int, p1, -Out.nx.injEq] <;> rfl), _, rfl⟩)
  rw [rngL_length, Nat.sub_self, List.drop_zero] at e
  simp [m__law_at_k17, c__law_at_k17, rD_0, hr, e]
theorem sign17_ok {a : List Int} {x : Rat} {kx c : Nat} (ha : SzP c a) (hx : Rk kx x) (hc : 1 ≤ c) (h : c + (kx + 1) * a.length + 2 + kx + c ≤ 7000) (la : a.length ≤ 1000) : m__law_sign_at [pD a, rD x] = .ok (.sh (.int (sgQ (evP a x)))) := by
  have v := at17_ok ha hx hc h la
  rw [sgQ_I]
  simp [m__law_sign_at, c__law_sign_at, v, sign_of_ok]
end W

set_option Elab.async false
set_option linter.all false
set_option maxRecDepth 100000
set_option autoImplicit false
set_option maxHeartbeats 4000000
namespace W
open PySem PySem.Spec PyProof.Rows L2 VL
/-! ### the drawn polynomials and fractions -/
structure Drn (p q p0 q0 : List Int) : Prop where
  tp : Tr p
  tq : Tr q
  nq : q ≠ []
  sp : SzP 50 p
  sq : SzP 50 q
  lp : p.length ≤ 4
  lq : q.length ≤ 4
  bs : Bs 23 3 p0 q0
  e : ∀ x, evP p x * evP q0 x = evP p0 x * evP q x
theorem ST.mono {k l : Nat} {L : List D} (h : ST k L) (hl : k ≤ l) : ST l L := by
  obtain ⟨ns, i, st, e, hi, r⟩ := h
  exact ⟨ns, i, st, e, by omega, r⟩
end W

set_option Elab.async false
set_option linter.all false
set_option maxRecDepth 100000
set_option autoImplicit false
set_option maxHeartbeats 4000000
namespace W
open PySem PySem.Spec PyProof.Rows L2 VL
/-! ### fractions as they are written, and by the law -/
section
variable {z n z' n' zs ns : Nat} {P Q A B P' Q' A' B' S T : List Int}
theorem FB.is (h : FB z n P Q A B) (hz : z + 8 * n ≤ 200) (hn : n ≤ 7) : m__law_is_fraction [fD P Q] = .ok (.sh (.bool true)) := by
  have l1 := h.lP
  have l2 := h.lQ
  exact is_fraction_ok h.fr h.szP h.szQ hz (by omega) (by omega) (by omega)
@[simp] theorem okD_f (n : Nat) (P Q : List Int) : okD (n + 2) (fD P Q) = true := by unfold fD; simp
end
end W

set_option Elab.async false
set_option linter.all false
set_option maxRecDepth 100000
set_option autoImplicit false
set_option maxHeartbeats 4000000
namespace W
open PySem PySem.Spec PyProof.Rows L2 VL
/-! ### forms of sums, differences, products -/
section
variable {p0 q0 r0 s0 g0 h0 P Q R S G H : List Int}
theorem FB.bs {z n : Nat} {A B : List Int} (f : FB z n P Q A B) (h : n ≤ 7) : Bs z n A B := ⟨f.tA, f.tB, f.nB, f.sA, f.sB, f.lA, f.lB, f.ln, by have := f.lA; have := f.lB; omega⟩
end
end W

set_option Elab.async false
set_option linter.all false
set_option maxRecDepth 100000
set_option autoImplicit false
set_option maxHeartbeats 4000000
namespace W
open PySem PySem.Spec PyProof.Rows L2 VL
noncomputable def c__law_plus_k57 : Ev → Out := sRet (eCall m__law_number_k56 (eCons (e2 addD (e2 mulD (e2 ixD (eOwn 0) (cst (.int 0))) (e2 ixD (eOwn 1) (cst (.int 1)))) (e2 mulD (e2 ixD (eOwn 1) (cst (.int 0))) (e2 ixD (eOwn 0) (cst (.int 1))))) (eCons (e2 mulD (e2 ixD (eOwn 0) (cst (.int 1))) (e2 ixD (eOwn 1) (cst (.int 1)))) (cst []))))
noncomputable def m__law_plus_k57 : List D → R SD := runD 2 2 c__law_plus_k57
noncomputable def c__law_times_k57 : Ev → Out := sRet (eCall m__law_number_k56 (eCons (e2 mulD (e2 ixD (eOwn 0) (cst (.int 0))) (e2 ixD (eOwn 1) (cst (.int 0)))) (eCons (e2 mulD (e2 ixD (eOwn 0) (cst (.int 1))) (e2 ixD (eOwn 1) (cst (.int 1)))) (cst []))))
noncomputable def m__law_times_k57 : List D → R SD := runD 2 2 c__law_times_k57
noncomputable def b__law_at_k57_1 : Ev → Out := sSet 2 (eCall m__law_plus_k57 (eCons (eCall m__law_times_k57 (eCons (eVar 2) (eCons (eVar 1) (cst [])))) (eCons (e1 tupD (eCons (e2 ixD (eOwn 0) (e2 subD (e2 subD (e1 lenD (eCons (eOwn 0) (cst []))) (cst (.int 1))) (eOwn 3))) (eCons (cst (.int 1)) (cst [])))) (cst []))))
noncomputable def c__law_at_k57 : Ev → Out := sSeq (sSet 2 (e1 tupD (eCons (cst (.int 0)) (eCons (cst (.int 1)) (cst []))))) (sSeq (sFor (e1 range1D (eCons (e1 lenD (eCons (eOwn 0) (cst []))) (cst []))) (gSet 3) b__law_at_k57_1) (sRet (eVar 2)))
noncomputable def m__law_at_k57 : List D → R SD := runD 2 4 c__law_at_k57
noncomputable def c__law_value_k57 : Ev → Out := sSeq (sSet 2 (eCall m__law_at_k57 (eCons (e2 ixD (eOwn 0) (cst (.int 1))) (eCons (eVar 1) (cst []))))) (sSeq (sIf (e1 bOf (e2 eqD (eOwn 2) (e1 tupD (eCons (cst (.int 0)) (eCons (cst (.int 1)) (cst [])))))) (sRet (cst .none)) (sNil)) (sRet (eCall m__law_times_k57 (eCons (eCall m__law_at_k57 (eCons (e2 ixD (eOwn 0) (cst (.int 0))) (eCons (eVar 1) (cst [])))) (eCons (eCall m__law_number_k56 (eCons (e2 ixD (eOwn 2) (cst (.int 1))) (eCons (e2 ixD (eOwn 2) (cst (.int 0))) (cst [])))) (cst []))))))
noncomputable def m__law_value_k57 : List D → R SD := runD 2 3 c__law_value_k57
noncomputable def c_value_of : Ev → Out := sSeq (sSet 2 (eCall m_value_at (eCons (e2 ixD (eOwn 0) (cst (.int 1))) (eCons (eVar 1) (cst []))))) (sSeq (sIf (e1 bOf (e2 eqD (eOwn 2) (cst (.tuple [(.int 0), (.int 1)])))) (sRet (cst .none)) (sNil)) (sRet (eCall m_divided (eCons (eCall m_value_at (eCons (e2 ixD (eOwn 0) (cst (.int 0))) (eCons (eVar 1) (cst [])))) (eCons (eVar 2) (cst []))))))
noncomputable def m_value_of : List D → R SD := runD 2 3 c_value_of
/-! ### the law's values of fractions -/
section
variable {k l : Nat} {r s : Rat}
theorem plus57_r (h : Rk k r) (h' : Rk l s) (e : k + l ≤ 8000) : m__law_plus_k57 [rD r, rD s] = .ok (.sh (rD (r + s))) := by
  have o1 : okMul r.num (s.den : Int) = true := okMul_of h.s1 h'.s2 (by omega)
  have o2 : okMul s.num (r.den : Int) = true := okMul_of h'.s1 h.s2 (by omega)
  have o3 : okMul (r.den : Int) (s.den : Int) = true := okMul_of h.s2 h'.s2 (by omega)
  have d0 : (r.den : Int) * (s.den : Int) ≠ 0 := Int.mul_ne_zero (by have := r.den_nz; omega) (by have := s.den_nz; omega)
  have nm := number56_ok (n := r.num * (s.den : Int) + s.num * (r.den : Int)) ((h.s2.mul h'.s2).mono (show k + l ≤ 9000 by omega)) d0
  have q : ((r.num * (s.den : Int) + s.num * (r.den : Int) : Int) : Rat) / (((r.den : Int) * (s.den : Int) : Int) : Rat) = r + s := by
    have a1 := num_eq r
    have a2 := num_eq s
    have a3 := den_ne r
    have a4 := den_ne s
    rw [Rat.intCast_add, Rat.intCast_mul, Rat.intCast_mul, Rat.intCast_mul, a1, a2]
    grind
  have nm' : m__law_number_k56 [.int (r.num * (s.den : Int) + s.num * (r.den : Int)), .int ((r.den : Int) * (s.den : Int))] = .ok (.sh (rD (r + s))) := by rw [← q]; exact nm
  simp [m__law_plus_k57, c__law_plus_k57, o1, o2, o3, nm']
theorem times57_r (h : Rk k r) (h' : Rk l s) (e : k + l ≤ 8000) : m__law_times_k57 [rD r, rD s] = .ok (.sh (rD (r * s))) := by
  have o1 : okMul r.num s.num = true := okMul_of h.s1 h'.s1 (by omega)
  have o3 : okMul (r.den : Int) (s.den : Int) = true := okMul_of h.s2 h'.s2 (by omega)
  have d0 : (r.den : Int) * (s.den : Int) ≠ 0 := Int.mul_ne_zero (by have := r.den_nz; omega) (by have := s.den_nz; omega)
  have nm := number56_ok (n := r.num * s.num) ((h.s2.mul h'.s2).mono (show k + l ≤ 9000 by omega)) d0
  have q : ((r.num * s.num : Int) : Rat) / (((r.den : Int) * (s.den : Int) : Int) : Rat) = r * s := by
    have a1 := num_eq r
    have a2 := num_eq s
    have a3 := den_ne r
    have a4 := den_ne s
    rw [Rat.intCast_mul, Rat.intCast_mul, a1, a2]
    grind
  have nm' : m__law_number_k56 [.int (r.num * s.num), .int ((r.den : Int) * (s.den : Int))] = .ok (.sh (rD (r * s))) := by rw [← q]; exact nm
  simp [m__law_times_k57, c__law_times_k57, o1, o3, nm']
theorem inv57_r (h : Rk k r) (h0 : r ≠ 0) (e : k ≤ 8000) : m__law_number_k56 [.int (r.den : Int), .int r.num] = .ok (.sh (rD (1 / r))) ∧ Rk k (1 / r) := by
  have n0 : r.num ≠ 0 := fun z => h0 (Rat.num_eq_zero.mp z)
  have nm := number56_ok (n := (r.den : Int)) (d := r.num) (h.s1.mono (show k ≤ 9000 by omega)) n0
  have rk := rk_div (n := (r.den : Int)) (d := r.num) n0 h.s2 h.s1
  have q : (((r.den : Int) : Int) : Rat) / ((r.num : Int) : Rat) = 1 / r := by
    have a1 := num_eq r
    have a3 := den_ne r
    rw [a1]
    grind
  rw [q] at nm rk
  exact ⟨nm, rk⟩
end
theorem at57_ok {a : List Int} {x : Rat} {kx c : Nat} (ha : SzP c a) (hx : Rk kx x) (hc : 1 ≤ c) (h : 1 + a.length * (kx + c + 1) + kx + c ≤ 8000) (hl : a.length ≤ 100000) :
    m__law_at_k57 [pD a, rD x] = .ok (.sh (rD (evP a x))) := by
  obtain ⟨ρ', e, j, rfl, _⟩ := forO_inv (F := gTo (gSet 3) b__law_at_k57_1) (l := rngL 0 1 a.length)
    (fun i ρ => ∃ j, ρ = [.sh (pD a), .sh (rD x), .sh (rD (evP (a.drop (a.length - i)) x)), j] ∧ Rk (1 + i * (kx + c + 1)) (evP (a.drop (a.length - i)) x))
    (ρ := [.sh (pD a), .sh (rD x), .sh (rD 0), .no])
    ⟨.no, by rw [Nat.sub_zero, List.drop_length]; rfl, by rw [Nat.sub_zero, List.drop_length, Nat.zero_mul]; exact rk0⟩
    (fun i d ρ hd hi => by
      obtain ⟨hil, rfl⟩ := rng0_get hd
      obtain ⟨j, rfl, hs⟩ := hi
      obtain ⟨n, hn⟩ : ∃ n, a.length - i = n + 1 := ⟨a.length - i - 1, by omega⟩
      rw [hn] at hs ⊢
      have hz := rk_int (ha.cf n) hc
      have hmul : (i + 1) * (kx + c + 1) ≤ a.length * (kx + c + 1) := Nat.mul_le_mul_right _ (by omega)
      rw [Nat.succ_mul] at hmul
      have e1 := times57_r hs hx (by omega)
      have e2 := plus57_r (hs.mul hx) hz (by omega)
      have ix : ixD (pD a) (.int ((a.length : Int) - 1 - (i : Int))) = some (.int (cf a n)) := by
        have := p_ixn a n
        rw [cf_get (by omega)] at this
        rw [show (a.length : Int) - 1 - (i : Int) = (n : Int) by omega]
        exact this
      have dr : a.drop n = cf a n :: a.drop (n + 1) := by
        rw [List.drop_eq_getElem_cons (by omega), cf_elem (by omega)]
      have ev : evP (a.drop n) x = evP (a.drop (n + 1)) x * x + (cf a n : Rat) := by rw [dr]; rfl
      refine ⟨_, .inl (by simp [b__law_at_k57_1, e1, rD_int, e2, ix, -Out.nx.injEq]; rfl), .sh (.int (i : Nat)), ?_, ?_⟩
      · rw [show a.length - (i + 1) = n by omega, ev]
      · rw [show a.length - (i + 1) = n by omega, ev, Nat.succ_mul]
        exact ((hs.mul hx).add hz).mono (by omega))
  rw [rngL_length, Nat.sub_self] at e
  have e' : forO (gTo (gSet 3) b__law_at_k57_1) (rngL 0 1 a.length) [.sh (pD a), .sh (rD x), .sh (rD 0), .no] = .nx [.sh (pD a), .sh (rD x), .sh (rD (evP a x)), j] := e
  have hr := range1_ok (x := (a.length : Nat)) (by omega) (by omega)
  simp [m__law_at_k57, c__law_at_k57, rD_0, hr, e']
/-- a value, or none -/
noncomputable def valD (P Q : List Int) (x : Rat) : D := if evP Q x = 0 then .none else rD (evP P x / evP Q x)
section
variable {P Q : List Int} {x : Rat} {w : Nat}
theorem at57_s (hP : SzP w P) (hx : Rk 60 x) (hw : w ≤ 200) (h0 : 0 < w) (l1 : P.length ≤ 10) : m__law_at_k57 [pD P, rD x] = .ok (.sh (rD (evP P x))) ∧ m_value_at [pD P, rD x] = .ok (.sh (rD (evP P x))) ∧ Rk 820 (evP P x) := by
  have m : P.length * (60 + w + 1) ≤ 10 * 261 := Nat.mul_le_mul l1 (by omega)
  have m2 : (60 + 1) * P.length ≤ 61 * 10 := Nat.mul_le_mul_left _ l1
  exact ⟨at57_ok hP hx h0 (by omega) (by omega), (value_at_ok hP hx h0 (by omega)).1, (ev_rk hx hP).mono (by omega)⟩
theorem value57_ok (hP : SzP w P) (hQ : SzP w Q) (hx : Rk 60 x) (hw : w ≤ 200) (h0 : 0 < w) (l1 : P.length ≤ 10) (l2 : Q.length ≤ 10) :
    m__law_value_k57 [fD P Q, rD x] = .ok (.sh (valD P Q x)) ∧ m_value_of [fD P Q, rD x] = .ok (.sh (valD P Q x)) := by
  obtain ⟨a1, a2, a3⟩ := at57_s hP hx hw h0 l1
  obtain ⟨b1, b2, b3⟩ := at57_s hQ hx hw h0 l2
  have ez : PyData.tuple [.int 0, .int 1] = rD 0 := rfl
  have eq0 := r_eqR (r := evP Q x) (s := 0)
  unfold valD
  by_cases z : evP Q x = 0
  · rw [if_pos z]
    rw [decide_eq_true z] at eq0
    rw [z] at b1 b2 eq0
    constructor
    · simp [m__law_value_k57, c__law_value_k57, ix_f0, ix_f1, b1, ez, eq0]
    · simp [m_value_of, c_value_of, ix_f0, ix_f1, b2, ez, eq0]
  · rw [if_neg z]
    rw [decide_eq_false z] at eq0
    obtain ⟨i1, i2⟩ := inv57_r b3 z (by decide)
    have t := times57_r a3 i2 (by decide)
    rw [show evP P x * (1 / evP Q x) = evP P x / evP Q x by grind] at t
    have dv := (div_r a3 b3 z (by decide)).1
    constructor
    · simp [m__law_value_k57, c__law_value_k57, ix_f0, ix_f1, b1, ez, eq0, i1, a1, t]
    · simp [m_value_of, c_value_of, ix_f0, ix_f1, b2, ez, eq0, a2, dv]
end
/-! ### values of fractions in lowest terms -/
theorem Bs.mono {z n z' n' : Nat} {S T : List Int} (h : Bs z n S T) (hz : z ≤ z') (hn : n ≤ n') (h10 : n' ≤ 10) : Bs z' n' S T := ⟨h.tS, h.tT, h.nT, h.sS.mono hz, h.sT.mono hz, Nat.le_trans h.lS hn, Nat.le_trans h.lT hn, h10, h.hl⟩
section
variable {P Q R S : List Int} {z n z' n' : Nat} {A B A' B' : List Int} {x : Rat}
theorem FB.vals (f : FB z n P Q A B) (hz : z + 8 * n ≤ 200) (h0 : 0 < z) (hx : Rk 60 x) : m__law_value_k57 [fD P Q, rD x] = .ok (.sh (valD P Q x)) ∧ m_value_of [fD P Q, rD x] = .ok (.sh (valD P Q x)) := by
  have l1 := f.lP
  have l2 := f.lQ
  have l3 := f.ln
  exact value57_ok f.szP f.szQ hx hz (by omega) (by omega) (by omega)
theorem FB.rk (f : FB z n P Q A B) (hz : z + 8 * n ≤ 200) (h0 : 0 < z) (hx : Rk 60 x) (q : evP Q x ≠ 0) : Rk 1640 (evP P x / evP Q x) := by
  have l1 := f.lP
  have l2 := f.lQ
  have l3 := f.ln
  exact (div_r (at57_s f.szP hx hz (by omega) (by omega)).2.2 (at57_s f.szQ hx hz (by omega) (by omega)).2.2 q (by decide)).2
end
end W

set_option Elab.async false
set_option linter.all false
set_option maxRecDepth 100000
set_option autoImplicit false
namespace VL
open PySem PySem.Spec PyProof.Rows L2

/-! ### a list of one's own, read without tags -/
def sUnO (i : Nat) (F : Ev → Out) : Ev → Out := fun ρ => match ρ[i]? with
  | some (.ow l) => F (ρ.set i (.ow (unL l)))
  | _ => F ρ
/-! ### x[0].append(z); x[1].append(z) -/
section
variable {X : Cx} {W : WX} {st st2 : Stmt} {rest : List Stmt} {F : Ev → Out} {C : Ev → Prop} {is : List Nat} {t t2 : TS}
end
@[simp] theorem r_sUnO {i : Nat} {F : Ev → Out} {ρ : Ev} : sUnO i F ρ = match ρ[i]? with
  | some (.ow l) => F (ρ.set i (.ow (unL l)))
  | _ => F ρ := id rfl
end VL


set_option Elab.async false
set_option linter.all false
set_option maxRecDepth 100000
set_option autoImplicit false
set_option maxHeartbeats 4000000
namespace W
open PySem PySem.Spec PyProof.Rows L2 VL
/-! ### tags -/
mutual
theorem un_nd : ∀ (d : D), d.hasDict = false → un d = d
  | .none, _ => by simp [un]
  | .bool b, _ => by simp [un]
  | .int b, _ => by simp [un]
  | .str b, _ => by simp [un]
  | .list l, h => by
    simp only [un]
    rw [unL_nd l (by unfold PyData.hasDict at h; exact h)]
  | .tuple l, h => by
    simp only [un]
    rw [unL_nd l (by unfold PyData.hasDict at h; exact h)]
  | .dict k, h => by simp [PyData.hasDict] at h
theorem unL_nd : ∀ (l : List D), PyData.hasDictAll l = false → unL l = l
  | [], _ => by simp [unL]
  | d :: l, h => by
    unfold PyData.hasDictAll at h
    rw [Bool.or_eq_false_iff] at h
    simp only [unL]
    rw [un_nd d h.1, unL_nd l h.2]
end
theorem ndall {l : List D} (h : ∀ d ∈ l, d.hasDict = false) : PyData.hasDictAll l = false := by
  induction l with
  | nil => rfl
  | cons d l ih => unfold PyData.hasDictAll; rw [h d (by simp), ih fun x hx => h x (by simp [hx])]; rfl
theorem ndlist {l : List D} (h : ∀ d ∈ l, d.hasDict = false) : (PyData.list l).hasDict = false := by unfold PyData.hasDict; exact ndall h
theorem ndtup {l : List D} (h : ∀ d ∈ l, d.hasDict = false) : (PyData.tuple l).hasDict = false := by unfold PyData.hasDict; exact ndall h
theorem ndp (p : List Int) : (pD p).hasDict = false := ndlist fun d hd => by
  obtain ⟨x, _, rfl⟩ := List.mem_map.mp hd
  rfl
theorem ndf (P Q : List Int) : (fD P Q).hasDict = false := ndtup fun d hd => by
  simp at hd
  rcases hd with rfl | rfl <;> exact ndp _
theorem ndr (r : Rat) : (rD r).hasDict = false := rfl
@[simp] theorem un_p (p : List Int) : un (pD p) = pD p := un_nd _ (ndp p)
@[simp] theorem un_f (P Q : List Int) : un (fD P Q) = fD P Q := un_nd _ (ndf P Q)
@[simp] theorem un_r (r : Rat) : un (rD r) = rD r := un_nd _ (ndr r)
@[simp] theorem un_i (i : Int) : un (.int i) = .int i := un_nd _ rfl
@[simp] theorem un_s (i : Str) : un (.str i) = .str i := un_nd _ rfl
@[simp] theorem un_b (i : Bool) : un (.bool i) = .bool i := un_nd _ rfl
@[simp] theorem un_no : un .none = .none := un_nd _ rfl
@[simp] theorem un_op (p : List Int) : un (old (pD p)) = pD p := un_old _ (ndp p)
@[simp] theorem un_of (P Q : List Int) : un (old (fD P Q)) = fD P Q := un_old _ (ndf P Q)
theorem colS_nd {d : D} (h : d.hasDict = false) : colS (.sh d) = .sh (old d) := if_neg (by rw [h]; decide)
theorem keepS_old {d : D} (h : d.hasDict = false) : keepS (.sh (old d)) = .sh (old d) := if_pos (old_isOld d h)
theorem ST.nd {k : Nat} {L : List D} (h : ST k L) : PyData.hasDictAll L = false := by
  obtain ⟨ns, i, st, rfl, _⟩ := h
  refine ndall fun d hd => ?_
  simp at hd
  rcases hd with rfl | rfl | rfl
  · exact ndp _
  · rfl
  · rfl
/-- a new fraction -/
def fN (P Q : List Int) : D := .tuple [tg (P.map .int), tg (Q.map .int)]
@[simp] theorem un_fN (P Q : List Int) : un (fN P Q) = fD P Q := by
  unfold fN fD pD
  simp only [un, unL, un_tg]
  rw [unL_nd (P.map .int) (ndall fun d hd => by obtain ⟨x, _, rfl⟩ := List.mem_map.mp hd; rfl), unL_nd (Q.map .int) (ndall fun d hd => by obtain ⟨x, _, rfl⟩ := List.mem_map.mp hd; rfl)]
theorem polyN {P : List Int} (h : P.length ≤ 100) : PolyN (tg (P.map .int)) := ⟨_, rfl, by simpa using h, fun x hx => by obtain ⟨i, _, rfl⟩ := List.mem_map.mp hx; exact ⟨i, rfl⟩⟩
theorem wipe_nil (ρ : Ev) : wipeE ρ [] = ρ := rfl
end W

set_option Elab.async false
set_option linter.all false
set_option maxRecDepth 100000
set_option autoImplicit false
namespace VL
open PySem PySem.Spec PyProof.Rows L2

/-! ### new lists that are changed; what is known stays known but for them -/
def Stays (Hs H H' : Hp) : Prop := ∀ a u, H a = some u → (∀ xs, Hs a ≠ some (.lst xs)) → H' a = some u
section
variable {K : Fg} {S Hs : Hp}
theorem RelE.lowD {H H' : Hp} {G : Gx} {σ σ' : Sg} {ρ : Ev} {is : List Nat} (nl : NoLst S) (r : RelE K S G Hs H σ ρ) (stay' : Stays Hs H H') (hl : σ'.length = σ.length) (hs : ∀ j, j ∉ is → σ'[j]? = σ[j]?) :
    RelE K S G (lowH S Hs) H' σ' (keepE (wipeE ρ is)) := by
  have stay : ∀ {a u}, H a = some u → (∀ xs, Hs a ≠ some (.lst xs)) → H' a = some u := fun {a u} e k => stay' a u e k
  have kno : ∀ {a}, Hs a = none → (∀ xs, Hs a ≠ some (.lst xs)) := fun {a} e xs z => by rw [e] at z; cases z
  have get : ∀ (j : Nat) (s : SD), (keepE (wipeE ρ is))[j]? = some s → s = .no ∨ (j ∉ is ∧ ∃ s0, ρ[j]? = some s0 ∧ s = keepS s0) := fun j s h => by
    unfold keepE at h
    rw [List.getElem?_map] at h
    obtain ⟨s0, h1, rfl⟩ := Option.map_eq_some_iff.mp h
    rcases wipeE_get h1 with rfl | ⟨hj, h1⟩
    · exact .inl rfl
    · exact .inr ⟨hj, s0, h1, rfl⟩
  have ownk : ∀ (s0 : SD) (m : List D), keepS s0 = .ow m → s0 = .ow m := fun s0 m h => by
    cases s0 with
    | ow l =>
      by_cases z : isOldL l = true
      · rw [show keepS (.ow l) = .ow l from if_pos z] at h; exact h
      · rw [show keepS (.ow l) = .no from if_neg z] at h; cases h
    | sh d =>
      by_cases z : isOld d = true
      · rw [show keepS (.sh d) = .sh d from if_pos z] at h; cases h
      · rw [show keepS (.sh d) = .no from if_neg z] at h; cases h
    | no => cases h
    | bo l => cases h
  refine ⟨fun b u e => ?_, fun b u e => ?_, fun b u e => ?_, fun p o e n => ?_, ?_, fun j s h => ?_, fun j p hp => ?_, r.one, fun j k m n p a b c d => ?_⟩
  · obtain ⟨e1, e2⟩ := lowH_back nl r.ext e
    exact stay (r.sub _ _ e1) fun xs y => by rw [e1] at y; cases y; exact (e2 xs rfl).elim
  · refine stay (r.old _ _ e) fun xs y => ?_
    have sn : S b = none := by
      cases w : S b with
      | none => rfl
      | some u' => have := r.ext _ _ w; rw [y] at this; cases this; exact (nl _ _ w).elim
    have := r.new _ _ y sn
    rw [e] at this; cases this
  · exact lowH_keep r.ext (r.ext _ _ e) (fun xs z => by subst z; exact nl _ _ e)
  · exact r.new p o (lowH_back nl r.ext e).1 n
  · unfold keepE; rw [List.length_map, wipeE_length, r.len, hl]
  · rcases get j s h with rfl | ⟨hj, s0, h0, rfl⟩
    · trivial
    · have q := r.slot j s0 h0
      rw [hs j hj]
      cases s0 with
      | no => trivial
      | bo l => trivial
      | sh d =>
        by_cases z : isOld d = true
        · rw [show keepS (.sh d) = .sh d from if_pos z]
          obtain ⟨v, q1, q2⟩ := q
          exact ⟨v, q1, Rp.low r.ext q2 z⟩
        · rw [show keepS (.sh d) = .no from if_neg z]; trivial
      | ow l =>
        by_cases z : isOldL l = true
        · rw [show keepS (.ow l) = .ow l from if_pos z]
          obtain ⟨p, xs, f1, f2, f3, f4, f5, f6⟩ := q
          refine ⟨p, xs, f1, f2, ?_, stay f4 (kno f3), RpL.low r.ext f5 z, f6⟩
          cases y : lowH S Hs p with
          | none => rfl
          | some u => have := (lowH_back nl r.ext y).1; rw [f3] at this; cases this
        · rw [show keepS (.ow l) = .no from if_neg z]; trivial
  · obtain ⟨h1, h2, h3⟩ := r.bor j p hp
    refine ⟨h1, ?_, ?_⟩
    · cases y : lowH S Hs p with
      | none => rfl
      | some u => have := (lowH_back nl r.ext y).1; rw [h2] at this; cases this
    · cases y : H p with
      | none => exact (h3 y).elim
      | some u => rw [stay y (kno h2)]; simp
  · rcases get j _ a with z | ⟨hj, s0, h0, z⟩
    · cases z
    · rcases get k _ b with z' | ⟨hk, s1, h1, z'⟩
      · cases z'
      · have e0 := ownk s0 m z.symm
        have e1 := ownk s1 n z'.symm
        subst e0; subst e1
        rw [hs j hj] at c
        rw [hs k hk] at d
        exact r.dis j k m n p h0 h1 c d
end
def SpoilsD (K : Fg) (C : Ev → Prop) (is : List Nat) (t : TS) : Prop := ∀ (σ : Sg) (Hs H S : Hp) (G : Gx) (ρ : Ev) (En : Ends), NoLst S → RelE K S G Hs H σ ρ → C ρ →
  (∀ H' σ', Stays Hs H H' → σ'.length = σ.length → (∀ j, j ∉ is → σ'[j]? = σ[j]?) → En.nx σ' H') → t En σ H
/-! ### a region in which the frame is forgotten at each statement -/
def OutF (K : Fg) (S : Hp) (G : Gx) (D : Ends) : Out → Prop
  | .nx ρ => ∀ Hs' H' σ', RelE K S G Hs' H' σ' ρ → D.nx σ' H'
  | .bk ρ => ∀ Hs' H' σ', RelE K S G Hs' H' σ' ρ → D.bk σ' H'
  | .ct ρ => ∀ Hs' H' σ', RelE K S G Hs' H' σ' ρ → D.ct σ' H'
  | .rt r => ∀ Hs' H' v, Ext S G.h Hs' H' → RpO K G.h Hs' H' r v → D.rt v H'
  | _ => False
theorem OutF.ok {K : Fg} {mg : Str → Option Value} {W : WX} {S Hs : Hp} {G : Gx} {D : Ends} {o : Out} (h : OutF K S G D o) : OutOk K mg W S G Hs D o := by
  cases o with
  | nx ρ => exact fun Hs' H' σ' _ => h Hs' H' σ'
  | bk ρ => exact fun Hs' H' σ' _ => h Hs' H' σ'
  | ct ρ => exact fun Hs' H' σ' _ => h Hs' H' σ'
  | rt r => exact h
  | rtB r ρ => exact h.elim
  | ex x ρ => exact h.elim
  | bad => exact h.elim
def tSF (K : Fg) (F : Ev → Out) : TS := fun D σ H => ∃ S G Hs ρ, NoLst S ∧ RelE K S G Hs H σ ρ ∧ OutF K S G D (F ρ)
def VSF (X : Cx) (st : Stmt) (F : Ev → Out) : Prop := PS X st (tSF X.K F)
def VSsF (X : Cx) (sts : List Stmt) (F : Ev → Out) : Prop := PSs X sts (tSF X.K F)
section
variable {X : Cx} {W : WX} {st st2 : Stmt} {sts rest : List Stmt} {F F' : Ev → Out} {C : Ev → Prop} {is : List Nat} {t t2 : TS}
theorem vsf_of (h : VS X W st F) : VSF X st F := PS.imp h fun D σ H ⟨S, G, Hs, ρ, _, r, q⟩ => ⟨S, G, Hs, ρ, r, q.ok⟩
theorem vssf_cons (h1 : VSF X st F) (h2 : VSsF X rest F') : VSsF X (st :: rest) (sSeq F F') := PSs.imp (pss_cons h1 h2) fun D σ H ⟨S, G, Hs, ρ, n, r, h⟩ => by
  refine ⟨S, G, Hs, ρ, n, r, ?_⟩
  unfold sSeq seqO at h
  cases q : F ρ with
  | nx ρ' => rw [q] at h; exact fun Hs' H' σ' r' => ⟨S, G, Hs', ρ', n, r', h⟩
  | bk ρ' => rw [q] at h; exact h
  | ct ρ' => rw [q] at h; exact h
  | rt r' => rw [q] at h; exact h
  | rtB r' ρ' => rw [q] at h; exact h
  | ex x ρ' => rw [q] at h; exact h
  | bad => rw [q] at h; exact h
open Classical in
noncomputable def sSpF (C : Ev → Prop) (is : List Nat) : Ev → Out := fun ρ => if C ρ then .nx (keepE (wipeE ρ is)) else .bad
theorem sSpF_eq {ρ : Ev} (h : C ρ) : sSpF C is ρ = .nx (keepE (wipeE ρ is)) := by unfold sSpF; rw [if_pos h]
theorem sim_spF (sim : SpoilsD X.K C is t) : ∀ D σ H, tSF X.K (sSpF C is) D σ H → t D σ H := fun En σ H ⟨S, G, Hs, ρ, nl, r, h⟩ => by
  unfold sSpF at h
  split at h
  · rename_i hc
    exact sim σ Hs H S G ρ _ nl r hc fun H' σ' l sl ss => h _ _ _ (RelE.lowD nl r l sl ss)
  · exact h.elim
theorem vssf_sp2 (h1 : PS X st t) (h2 : PS X st2 t2) (sim : SpoilsD X.K C is (fun En => t { En with nx := t2 En })) : VSsF X [st, st2] (sSpF C is) := PSs.imp (pss_cons h1 (pss_one h2)) fun D σ H h => sim_spF sim D σ H h
/-- in front of what ends -/
def sReg (F F' : Ev → Out) : Ev → Out := fun ρ => match F ρ with
  | .nx ρ' => (match F' ρ' with
    | .rt r => .rt r
    | _ => .bad)
  | .rt r => .rt r
  | _ => .bad
theorem vsc_reg (h1 : VSF X st F) (h2 : VSsC X W rest F') : VSsC X W (st :: rest) (sReg F F') := PSs.imp (pss_cons h1 h2) fun D σ H ⟨S, G, Hs, ρ, n, r, h⟩ => by
  refine ⟨S, G, Hs, ρ, n, r, ?_⟩
  unfold sReg at h
  cases q : F ρ with
  | nx ρ' =>
    rw [q] at h
    refine fun Hs' H' σ' r' => ⟨S, G, Hs', ρ', n, r', ?_⟩
    cases q2 : F' ρ' with
    | rt r2 => simp only [q2] at h; exact h
    | nx _ => simp only [q2] at h; exact h.elim
    | rtB _ _ => simp only [q2] at h; exact h.elim
    | bk _ => simp only [q2] at h; exact h.elim
    | ct _ => simp only [q2] at h; exact h.elim
    | ex _ _ => simp only [q2] at h; exact h.elim
    | bad => simp only [q2] at h; exact h.elim
  | rt r2 => rw [q] at h; exact h
  | rtB _ _ => rw [q] at h; exact h.elim
  | bk _ => rw [q] at h; exact h.elim
  | ct _ => rw [q] at h; exact h.elim
  | ex _ _ => rw [q] at h; exact h.elim
  | bad => rw [q] at h; exact h.elim
end
/-! ### for k in range(..), in a region -/
def tItR (K : Fg) (mg : Str → Option Value) (W : WX) (f : Ev → R (List D)) : TI := fun σ H Rr => ∃ S G Hs ρ, RelE K S G Hs H σ ρ ∧ Post K mg W Hs H σ (f ρ) (fun l Hs' H' => ∀ J, (∀ Hs, ItD K J Hs l) → Rr J H')
def VIR (X : Cx) (W : WX) (tg iter : Expr) (f : Ev → R (List D)) : Prop := PI X tg iter (tItR X.K X.mg W f)
section
variable {X : Cx} {W : WX} {tg iter a : Expr} {body : List Stmt} {pos p : Pos} {fi fl : Ev → R (List D)} {ts : List Nat} {g : D → Ev → Option Ev} {F : Ev → Out}
theorem vir_range1 (hg : Gl X "range") (hm : X.mg "range" = none) (ha : VAp X W [a] fl) (hs : starEach [a] X.env = [(false, eval a X.env)] := by rfl) : VIR X W tg (.Call (.Name "range" p) [a] [] pos) (e1 range1D fl) := PI.imp (pi_range1 hg hm ha hs) fun σ H Rr ⟨S, G, Hs, ρ, r, p⟩ => by
  refine ⟨S, G, Hs, ρ, r, (Post.bind p).imp fun ds Hs1 H1 e q vs hv => ?_⟩
  cases z : range1D ds with
  | none => rw [z] at q; exact q.elim
  | some l =>
    rw [z] at q
    have q' := q.now e.sub
    unfold range1D at z
    split at z
    · split at z
      · rename_i hz
        cases z
        unfold in62 at hz
        have hz' := of_decide_eq_true hz
        obtain ⟨v, rfl, h⟩ := hv.one
        exact ⟨_, by rw [h.int], hz'.1, hz'.2, q' _ fun _ => it_rng⟩
      · cases z
    · cases z
theorem lift_postF {α : Type} {K : Fg} {mg : Str → Option Value} {S Hs H : Hp} {G : Gx} {σ : Sg} {ρ : Ev} {D : Ends} {r : R α} {k : α → Out} (h : OutF K S G D (liftE r ρ k)) :
    Post K mg W Hs H σ r (fun a Hs' H' => OutF K S G D (k a)) := by
  cases r with
  | ok a => exact fun Hs' H' e => h
  | ex x => exact h.elim
  | bad => exact h.elim
theorem vsf_for (hp : PassesOwn (model X.prog X.w) X.A X.env X.xe) (hc : X.calm = true) (hi : VIR X W tg iter fi) (hg : VG X tg ts g) (hb : VSsF X body F)
    (hs : ∀ x, foldedSetIterable iter X.env x = pure x := by intro _; rfl) : VSF X (.For tg iter body [] pos) (sFor fi g F) := by
  refine PS.imp (ps_for hp hc hi hg hb hs) fun En σ H ⟨S, G, Hs, ρ, nl, r, h⟩ => ?_
  refine ⟨S, G, Hs, ρ, r, (lift_postF h).imp fun l Hs1 H1 e q J hJ => ?_⟩
  refine ⟨fun i m σ' H' => m = l.length - i ∧ i ≤ l.length ∧ ∃ Hs2 ρ2, RelE X.K S G Hs2 H' σ' ρ2 ∧ OutF X.K S G En (forO (gTo g F) (l.drop i) ρ2),
    ⟨l.length, by simp, Nat.zero_le _, Hs1, ρ, r.step e, q⟩, ?_⟩
  rintro i m σ' H' ⟨rfl, hi, Hs2, ρ2, r2, q2⟩
  obtain ⟨j1, j2⟩ := hJ Hs2 i Hs2 H' (.refl _) r2.sub
  by_cases hl : i < l.length
  · obtain ⟨j1, j3⟩ := j1 l[i] (List.getElem?_eq_getElem hl)
    rw [List.drop_eq_getElem_cons hl] at q2
    refine .inr ⟨j1, fun σ3 H3 => ∃ Hs3 ρ3, RelE X.K S G Hs3 H3 σ3 ρ3 ∧ OutF X.K S G En (forO (gTo g F) (l.drop (i + 1)) ρ3), fun σ3 H3 ⟨Hs3, ρ3, a2, a3⟩ => ⟨_, (by omega : l.length - (i + 1) < l.length - i), rfl, hl, Hs3, ρ3, a2, a3⟩, fun x H3 y => ?_⟩
    obtain ⟨Hs3, e3, d3⟩ := j3 x H3 y
    unfold forO gTo at q2
    cases z : g l[i] ρ2 with
    | none => rw [z] at q2; exact q2.elim
    | some ρ3 =>
      rw [z] at q2
      refine ⟨S, G, Hs3, ρ2, l[i], ρ3, r2.step e3, d3, z, fun σ4 _ _ r4 => ⟨S, G, Hs3, ρ3, nl, r4, ?_⟩⟩
      cases z2 : F ρ3 with
      | nx ρ' => simp only [z2] at q2; exact fun Hs' H' σ' b => ⟨Hs', ρ', b, q2⟩
      | ct ρ' => simp only [z2] at q2; exact fun Hs' H' σ' b => ⟨Hs', ρ', b, q2⟩
      | bk ρ' => simp only [z2] at q2; exact fun Hs' H' σ' b => q2 Hs' H' σ' b
      | rt r => simp only [z2] at q2; exact q2
      | rtB r ρ' => simp only [z2] at q2; exact q2.elim
      | ex x ρ' => simp only [z2] at q2; exact q2.elim
      | bad => simp only [z2] at q2; exact q2.elim
  · have e0 : i = l.length := by omega
    subst e0
    rw [List.drop_length] at q2
    exact .inl ⟨j2 (Nat.le_refl _), q2 Hs2 H' σ' r2⟩
end
/-! ### x[0].append(z); x.append([z']) -/
theorem atI0 {α : Type} (x : α) (l : List α) : atI (x :: l) 0 = some x := by
  unfold atI ixN
  rw [if_pos (by simp), if_pos (by simp)]
  rfl
def CCh (i : Nat) (ρ : Ev) : Prop := ∃ a l, ρ[i]? = some (.sh (tg (a :: l))) ∧ PolyN a ∧ l.length ≤ 100
abbrev tAppC (K : Fg) (i : Nat) (y z : Int) : TS := fun En => tApp K (tOp (rIxL K) (tVar i) (tC (.int 0))) (tC (.int y)) { En with nx := tApp K (tVar i) (tLst (tCons (tC (.int z)) tNil)) En }
theorem appC_sim {K : Fg} {i : Nat} {y z : Int} : SpoilsD K (CCh i) [] (tAppC K i y z) := by
  intro σ Hs H S G ρ En nl r hc q
  obtain ⟨a, l, hl, la, ll⟩ := hc
  obtain ⟨v, hv, hrp⟩ := r.get hl
  obtain ⟨p, xs, rfl, hp, rl⟩ := tg_rp hrp
  cases rl with
  | cons r1 rl =>
    rename_i v1 vs
    obtain ⟨p1, rfl, ys, hp1, n2, hall⟩ := rp_po r1 la
    have hH := r.sub _ _ hp
    have hH1 := r.sub _ _ hp1
    have n1 := rl.length
    have big : 1000000 ≤ sizeLine := by decide
    refine ⟨_, hv, p, _, 0, .ref p1, rfl, rfl, .inl (.inl hH), atI0 _ _, .inl ⟨rfl, ys, .inl (.inl hH1)⟩, p1, ys, .int y, rfl, rfl, hH1, by omega, ?_⟩
    show tApp K (tVar i) (tLst (tCons (tC (.int z)) tNil)) En σ _
    have pne : p ≠ p1 := fun z => by
      subst z
      rw [hp] at hp1
      cases hp1
      obtain ⟨i, hi⟩ := hall _ (List.mem_cons_self ..)
      cases hi
    have hH' : upd H p1 (.lst (ys ++ [.int y])) p = some (.lst (.ref p1 :: vs)) := by rw [upd_ne pne]; exact hH
    refine ⟨_, hv, .inl ⟨rfl, _, .inl (.inl hH')⟩, ?_⟩
    refine ⟨show 1 ≤ sizeLine from by decide, fun pn hpn => ?_⟩
    have pn1 : pn ≠ p1 := fun z => by subst z; rw [upd_same] at hpn; cases hpn
    have pnp : pn ≠ p := fun z => by subst z; rw [hH'] at hpn; cases hpn
    refine ⟨p, _, .ref pn, rfl, rfl, by rw [upd_ne (Ne.symm pnp)]; exact hH', by simp; omega, q _ σ (fun b u hb hk => ?_) rfl fun _ _ => rfl⟩
    have b1 : b ≠ p1 := fun z => by subst z; exact hk _ hp1
    have b2 : b ≠ p := fun z => by subst z; exact hk _ hp
    have b3 : b ≠ pn := fun z => by
      subst z
      rw [upd_ne b1] at hpn
      rw [hb] at hpn; cases hpn
    rw [upd_ne b2, upd_ne b3, upd_ne b1]
    exact hb
end VL

set_option Elab.async false
set_option linter.all false
set_option maxRecDepth 100000
set_option autoImplicit false
set_option maxHeartbeats 4000000
namespace W
open PySem PySem.Spec PyProof.Rows L2 VL
noncomputable def b_chain_of__N_1 : Ev → Out := sSeq (sAsg (e3 sliceD (eUn (eOwn 1)) (e1 intOf (e1 negD (cst (.int 2)))) (pNo)) (gTupD 2 (gsCons (gSet 2) (gsCons (gSet 3) (gsNil))))) (sSeq (sSet 4 (eCall m_false_rest (eCons (eUn (eVar 2)) (eCons (eUn (eVar 3)) (cst []))))) (sSeq (sIf (eNot (e1 truD (eUn (eOwn 4)))) (sRetV 1) (sNil)) (sSeq (sSet 5 (eOrV (e2 gtD (e2 ixD (eUn (eOwn 3)) (e1 negD (cst (.int 1)))) (cst (.int 0))) (e2 eqD (e2 modD (e2 subD (e1 lenD (eCons (eUn (eOwn 2)) (cst []))) (e1 lenD (eCons (eUn (eOwn 3)) (cst [])))) (cst (.int 2))) (cst (.int 1))))) (sApp 1 (eLstN (eCallO m_bare (eCons (eUn (eVar 4)) (eCons (eIf (e1 truD (eUn (eOwn 5))) (e1 negD (cst (.int 1))) (cst (.int 1))) (cst [])))))))))
noncomputable def c_chain_of__N : Ev → Out := sSeq (sSetO 1 (e1 lim (eCons (eLstN (eCallO m_bare (eCons (eUn (eVar 0)) (eCons (cst (.int 1)) (cst []))))) (eCons (eLstN (eCallO m_bare (eCons (eCall m_derivative (eCons (eUn (eVar 0)) (cst []))) (eCons (cst (.int 1)) (cst []))))) (cst []))))) (sWhile (e1 truD (cst (.bool true))) b_chain_of__N_1)
noncomputable def m_chain_of__N : List D → R SD := runD 1 6 c_chain_of__N
noncomputable def b_law_1 : Ev → Out := sSeq (sSet 6 (eCall m__law_x (eCons (e3 sliceD (eOwn 1) (e1 intOf (e2 addD (cst (.int 10)) (e2 mulD (cst (.int 3)) (eOwn 5)))) (e1 intOf (e2 addD (cst (.int 13)) (e2 mulD (cst (.int 3)) (eOwn 5))))) (eCons (eVar 3) (cst []))))) (sSeq (sSet 7 (eCall m_sign_at (eCons (eVar 2) (eCons (eVar 6) (cst []))))) (sIf (eOr (eNot (e1 truD (eCall m__law_is_whole (eCons (eVar 7) (cst []))))) (e1 bOf (e2 neD (eOwn 7) (eCall m__law_sign_at (eCons (eVar 2) (eCons (eVar 6) (cst []))))))) (sRet (cst (.bool false))) (sNil)))
noncomputable def b_law_2 : Ev → Out := sSeq (sSet 7 (eLstN (eCallO m_chain_of__N (eCons (eUn (eVar 2)) (cst []))))) (sSeq (sIf (eOr (eNot (e1 truD (e1 (isiD "list") (eUn (eOwn 7))))) (e1 bOf (e2 neD (eUn (eOwn 7)) (eUn (eOwn 8))))) (sRet (cst (.bool false))) (sNil)) (sSpF (CCh 7) []))
noncomputable def b_law_3 : Ev → Out := sReg (sFor (e1 range1D (eCons (cst (.int 2)) (cst []))) (gSet 9) b_law_2) (sRet (eAndV (e2 eqD (eCall m_sign_at (eCons (eLst (e1 lim (cst []))) (eCons (e1 tupD (eCons (cst (.int 1)) (eCons (cst (.int 2)) (cst [])))) (cst [])))) (cst (.int 0))) (e2 eqD (eUn (eOwn 2)) (eUn (eOwn 4)))))
noncomputable def b_law_4 : Ev → Out := sColor (b_law_3)
noncomputable def c_law : Ev → Out := sSeq (sSet 1 (eCall m__law_draws (eCons (eVar 0) (eCons (cst (.int 40)) (cst []))))) (sSeq (sAsg (eCall m__law_polynomial (eCons (eVar 1) (eCons (cst (.int 6)) (cst [])))) (gTupD 2 (gsCons (gSet 2) (gsCons (gSet 3) (gsNil))))) (sSeq (sSet 4 (eLst (e1 listO (eCons (eOwn 2) (cst []))))) (sSeq (sFor (e1 range1D (eCons (cst (.int 4)) (cst []))) (gSet 5) b_law_1) (sSeq (sSet 8 (eCall m__law_chain (eCons (eVar 2) (cst [])))) (b_law_4)))))
noncomputable def m_law : List D → R SD := runD 1 10 c_law
/-! ### the program's chain, known to be new -/
def pN (a : List Int) : D := tg (a.map .int)
theorem unL_ints (a : List Int) : unL (a.map .int) = a.map .int := unL_nd _ (ndall fun d hd => by
  obtain ⟨x, _, rfl⟩ := List.mem_map.mp hd
  rfl)
@[simp] theorem un_pN (a : List Int) : un (pN a) = pD a := by
  unfold pN
  rw [un_tg, unL_ints]
  rfl
theorem unL_map {α : Type} {f g : α → D} (h : ∀ a, un (f a) = g a) : ∀ l : List α, unL (l.map f) = l.map g
  | [] => by simp [unL]
  | a :: l => by
    rw [List.map_cons, List.map_cons, unL, h a, unL_map h l]
theorem un_lst (l : List D) : un (.list l) = .list (unL l) := by simp only [un]
theorem unL_pN (l : List (List Int)) : unL (l.map pN) = l.map pD := unL_map un_pN l
section
variable {A B a b : List Int} {z : Nat}
theorem chainN_step (co : CQ z 5 27 1900 A B) (hAB : A.length + B.length ≤ 27) (h : CI A B a b) (pre : List (List Int)) (hp : pre.length ≤ 1000) (w0 y2 y3 y4 y5 : SD) :
    (frP a b = [] → b_chain_of__N_1 [w0, .ow ((pre ++ [a, b]).map pN), y2, y3, y4, y5] = .rt (.ow ((pre ++ [a, b]).map pN))) ∧
    (frP a b ≠ [] → ∃ z4 z5, b_chain_of__N_1 [w0, .ow ((pre ++ [a, b]).map pN), y2, y3, y4, y5] = .nx [w0, .ow ((pre ++ [a, b, nxP a b]).map pN), .sh (pD a), .sh (pD b), z4, z5]) := by
  have lb := List.length_pos_iff.mpr h.nb
  have la := h.la
  have hl := h.hl
  have fr := false_rest_c h.sa h.sb h.ta h.nb (by omega) (by omega) (by omega)
  obtain ⟨L, hL⟩ : ∃ L, L = (pre ++ [a, b]).map pN := ⟨_, rfl⟩
  obtain ⟨M, hM⟩ : ∃ M, M = (pre ++ [a, b]).map pD := ⟨_, rfl⟩
  have uL : un (.list L) = .list M := by rw [hL, hM, un_lst, unL_pN]
  have ct : cutL M (some (-2)) none = [pD a, pD b] := by
    rw [hM, List.map_append]
    exact cut2 _ _ _
  have il := ix_last (l := b) (n := b.length - 1) (by omega)
  have md : modD (.int ((a.length : Int) - (b.length : Int))) (.int 2) = some (.int (((a.length - b.length) % 2 : Nat) : Int)) := by
    have := r_mod (x := (a.length : Int) - (b.length : Int)) (y := 2) (by decide)
    rw [this]
    have : ((a.length : Int) - (b.length : Int)).fmod 2 = (((a.length - b.length) % 2 : Nat) : Int) := by
      rw [show (a.length : Int) - (b.length : Int) = ((a.length - b.length : Nat) : Int) by omega]
      exact fmod_nat _ 2
    rw [this]
  have hLs : L.length < sizeLine := by
    have e : L.length = pre.length + 2 := by rw [hL]; simp
    have : (100000 : Nat) ≤ sizeLine := by decide
    omega
  have hpN : ∀ x : List Int, tg (x.map .int) = pN x := fun _ => rfl
  rw [← hL]
  constructor
  · intro z
    rw [z] at fr
    simp [b_chain_of__N_1, uL, ct, fr]
  · intro nr
    obtain ⟨_, s4⟩ := CI.next co hAB h nr
    have te : (frP a b).isEmpty = false := by cases hh : frP a b <;> simp_all
    have tr := fr_tr (b := b) h.ta
    have lf := fr_len (b := b) h.ta h.nb (by omega)
    have e3 : (pre ++ [a, b, nxP a b]).map pN = L ++ [pN (nxP a b)] := by rw [hL]; simp
    rw [e3]
    by_cases t : trn a b = true
    · have bo := bare_ok (s := -1) (.inr rfl) tr nr s4 (by omega)
      have en : nxP a b = brP (-1) (frP a b) := by unfold nxP; rw [if_pos t]
      rw [en]
      unfold trn at t
      rw [Bool.or_eq_true, decide_eq_true_eq, decide_eq_true_eq] at t
      generalize frP a b = R at *
      by_cases g : 0 < cf b (b.length - 1)
      · exact ⟨.sh (pD R), .sh (.bool true), by simp [b_chain_of__N_1, uL, ct, fr, te, nr, il, g, bo, hLs, hpN]⟩
      · have t2 := t.resolve_left g
        have t2' : (((a.length - b.length) % 2 : Nat) : Int) = 1 := by omega
        rw [t2'] at md
        exact ⟨.sh (pD R), .sh (.bool true), by simp [b_chain_of__N_1, uL, ct, fr, te, nr, il, g, md, bo, hLs, hpN]⟩
    · have bo := bare_ok (s := 1) (.inl rfl) tr nr s4 (by omega)
      have en : nxP a b = brP 1 (frP a b) := by unfold nxP; rw [if_neg t]
      rw [en]
      unfold trn at t
      rw [Bool.or_eq_true, decide_eq_true_eq, decide_eq_true_eq] at t
      generalize frP a b = R at *
      have g : ¬ 0 < cf b (b.length - 1) := fun h => t (.inl h)
      have t2 : ¬ (a.length - b.length) % 2 = 1 := fun h => t (.inr h)
      have t2' : (((a.length - b.length) % 2 : Nat) : Int) = 0 := by omega
      rw [t2'] at md
      exact ⟨.sh (pD R), .sh (.bool false), by simp [b_chain_of__N_1, uL, ct, fr, te, nr, il, g, md, bo, hLs, hpN]⟩
theorem chainN_loop (co : CQ z 5 27 1900 A B) (hAB : A.length + B.length ≤ 27) (w0 : SD) : ∀ (n : Nat) (a b : List Int) (pre : List (List Int)) (y2 y3 y4 y5 : SD), CI A B a b → b.length ≤ n → pre.length + n ≤ 1000 →
    whileO (e1 truD (cst (.bool true))) b_chain_of__N_1 (n + 1) [w0, .ow ((pre ++ [a, b]).map pN), y2, y3, y4, y5] = .rt (.ow ((pre ++ chS n a b).map pN))
  | 0, a, b, pre, _, _, _, _, h, hn, _ => by have := List.length_pos_iff.mpr h.nb; omega
  | n + 1, a, b, pre, y2, y3, y4, y5, h, hn, hp => by
    obtain ⟨s1, s2⟩ := chainN_step co hAB h pre (by omega) w0 y2 y3 y4 y5
    rw [whileO]
    by_cases r0 : frP a b = []
    · have s1 := s1 r0
      have e : chS (n + 1) a b = [a, b] := by unfold chS; rw [if_pos r0]
      rw [e]
      generalize (pre ++ [a, b]).map pN = L at *
      simp [s1]
    · obtain ⟨z4, z5, s2⟩ := s2 r0
      have e : chS (n + 1) a b = a :: chS n b (nxP a b) := by rw [chS, if_neg r0]
      obtain ⟨c, _⟩ := CI.next co hAB h r0
      have lb := c.hl
      have ih := chainN_loop co hAB w0 n b (nxP a b) (pre ++ [a]) (.sh (pD a)) (.sh (pD b)) z4 z5 c (by omega) (by simp; omega)
      have e1' : pre ++ [a] ++ [b, nxP a b] = pre ++ [a, b, nxP a b] := by simp
      have e2' : pre ++ [a] ++ chS n b (nxP a b) = pre ++ a :: chS n b (nxP a b) := by simp
      rw [e1', e2'] at ih
      rw [e]
      generalize (pre ++ [a, b]).map pN = L at *
      generalize (pre ++ [a, b, nxP a b]).map pN = L' at *
      simp [s2, ih]
end
section
variable {fs : List (List Int)} {b : Int}
theorem chainN_ok (hf : ∀ f ∈ fs, f ∈ FL) (nd : fs.Nodup) (nf : fs ≠ []) (hl : fs.length ≤ 6) (hb : b ≠ 0) (sb : Sz 3 b) : m_chain_of__N [pD (kP b fs)] = .ok (.ow ((chP (kP b fs)).map pN)) := by
  obtain ⟨co, hab, ci⟩ := cst_ok hf nd nf hl hb sb
  obtain ⟨s1, l1, s2⟩ := kP_szs hf hl sb
  have t0 := kP_tr (b := b) hf (by omega) hb
  have l2 := kP_two (b := b) hf nf
  have n0 : kP b fs ≠ [] := by rw [← List.length_pos_iff]; omega
  have t1 := tr_der t0
  have ld := der_len (kP b fs)
  have n1 : derP (kP b fs) ≠ [] := by rw [← List.length_pos_iff]; omega
  have h1 : (1 : Int) = 1 ∨ (1 : Int) = -1 := .inl rfl
  have b0 := bare_ok h1 t0 n0 (s1.plain.mono (by decide)) (by omega)
  have b1 := bare_ok h1 t1 n1 (s2.plain.mono (by decide)) (by omega)
  have dv := derivative_ok s1 (by decide) (by omega)
  have bl := br_len 1 (derP (kP b fs))
  have lp := chainN_loop co hab (.sh (pD (kP b fs))) (kP b fs).length _ _ [] .no .no .no .no ci (by omega) (by simp; omega)
  have e := sWhile_eq lp (by simp)
  rw [List.nil_append, List.nil_append] at e
  unfold chP
  have hpN : ∀ x : List Int, tg (x.map .int) = pN x := fun _ => rfl
  generalize chS (kP b fs).length (brP 1 (kP b fs)) (brP 1 (derP (kP b fs))) = L at *
  simp only [List.map_cons, List.map_nil] at e
  simp [m_chain_of__N, c_chain_of__N, b0, b1, dv, e, hpN]
end
structure Fct (fs : List (List Int)) (b : Int) : Prop where
  hf : ∀ f ∈ fs, f ∈ FL
  nd : fs.Nodup
  nf : fs ≠ []
  hl : fs.length ≤ 6
  hb : b ≠ 0
  sb : Sz 3 b
theorem three (ys : List Int) (h : ys.length = 3) : ∃ a b c, ys = [a, b, c] := by
  match ys, h with
  | [a, b, c], _ => exact ⟨a, b, c, rfl⟩
section
variable {fs : List (List Int)} {b : Int}
theorem turn16 (hf : Fct fs b) {xs : List Int} (hx : IsDraws 40 xs) {i : Nat} (hi : i < 4) (w0 w4 y6 y7 y8 y9 : SD) :
    ∃ z6 z7, b_law_1 [w0, .sh (pD xs), .sh (pD (kP b fs)), .sh (.list (fs.map pD)), w4, .sh (.int (i : Int)), y6, y7, y8, y9] = .nx [w0, .sh (pD xs), .sh (pD (kP b fs)), .sh (.list (fs.map pD)), w4, .sh (.int (i : Int)), z6, z7, y8, y9] := by
  obtain ⟨ys, c0, h0⟩ := cut_p hx (a := 10 + 3 * (i : Int)) (b := 13 + 3 * (i : Int)) 3 (by omega) (by omega) (by omega)
  obtain ⟨p1, p2, p3, rfl⟩ := three ys h0.len
  obtain ⟨x, ex, kx⟩ := law_x_ok (a := p1) (b := p2) (c := p3) hf.hf hf.nf hf.hl
  have mu : mulD (.int 3) (.int (i : Int)) = some (.int (3 * (i : Int))) := r_mulS (by omega) (by omega) (by omega) (by omega)
  obtain ⟨s1, l1, _⟩ := kP_szs hf.hf hf.hl hf.sb
  have ml : (60 + 1) * (kP b fs).length ≤ 61 * 19 := Nat.mul_le_mul_left _ l1
  have g1 := sign_at2 s1 kx (by decide) (by omega)
  have g2 := sign17_ok s1 kx (by decide) (by omega) (by omega)
  have wh : ∀ v : Int, m__law_is_whole [.int v] = .ok (.sh (.bool true)) := is_wholek_ok
  generalize kP b fs = p at *
  exact ⟨_, _, by simp [b_law_1, mu, c0, ex, g1, g2, wh, -Out.nx.injEq] <;> rfl⟩
theorem chain_head (hf : Fct fs b) : ∃ c l, chP (kP b fs) = c :: l ∧ c.length ≤ 19 ∧ l.length ≤ 21 := by
  obtain ⟨c1, c2⟩ := chP_ok hf.hf hf.nd hf.nf hf.hl hf.hb hf.sb
  obtain ⟨l, hl⟩ := chS_head (kP b fs).length (brP 1 (kP b fs)) (brP 1 (derP (kP b fs)))
  have e : chP (kP b fs) = brP 1 (kP b fs) :: brP 1 (derP (kP b fs)) :: l := hl
  rw [e] at c1 c2 ⊢
  refine ⟨_, _, rfl, (c1 _ (by simp)).2.1, ?_⟩
  simp only [List.length_cons] at c2 ⊢
  omega
theorem ndch (C : List (List Int)) : (PyData.list (C.map pD)).hasDict = false := ndlist fun d hd => by
  obtain ⟨a, _, rfl⟩ := List.mem_map.mp hd
  exact ndp a
theorem spoil16 (hf : Fct fs b) (d : D) (w0 w1 w3 w5 w6 w7 w9 : SD) :
    ∃ z0 z1 z3 z5 z6 z7 z9, gTo (gSet 9) b_law_2 d [w0, w1, .sh (old (pD (kP b fs))), w3, .sh (old (pD (kP b fs))), w5, w6, w7, .sh (old (.list ((chP (kP b fs)).map pD))), w9] = .nx [z0, z1, .sh (old (pD (kP b fs))), z3, .sh (old (pD (kP b fs))), z5, z6, z7, .sh (old (.list ((chP (kP b fs)).map pD))), z9] := by
  have ck := chainN_ok hf.hf hf.nd hf.nf hf.hl hf.hb hf.sb
  obtain ⟨c, l, hc, lc, ll⟩ := chain_head hf
  have nd := ndch (chP (kP b fs))
  have uo := un_old _ nd
  have ke := keepS_old nd
  have kp := keepS_old (ndp (kP b fs))
  have ok : okD 64 (.list ((chP (kP b fs)).map pD)) = true := by
    simp only [okD]
    exact okL_iff.mpr fun d hd => by
      obtain ⟨a, _, rfl⟩ := List.mem_map.mp hd
      simp
  have ns := r_ne_self ok
  have ut : un (tg ((chP (kP b fs)).map pN)) = .list ((chP (kP b fs)).map pD) := by rw [un_tg, unL_pN]
  have is : ∀ l : List D, isiD "list" (.list l) = some (.bool true) := fun l => by simp
  have tc : tg ((chP (kP b fs)).map pN) = tg (pN c :: l.map pN) := by rw [hc]; rfl
  have cc : ∀ o0 o1 o3 o5 o6 o8 o9 : SD, CCh 7 [o0, o1, .sh (old (pD (kP b fs))), o3, .sh (old (pD (kP b fs))), o5, o6, .sh (tg ((chP (kP b fs)).map pN)), o8, o9] := fun o0 o1 o3 o5 o6 o8 o9 => by
    rw [tc]
    exact ⟨pN c, l.map pN, rfl, polyN (by omega), by rw [List.length_map]; omega⟩
  generalize kP b fs = p at *
  generalize chP p = C at *
  have sp : ∀ o0 o1 o3 o5 o6 o9 : SD, sSpF (CCh 7) [] [o0, o1, .sh (old (pD p)), o3, .sh (old (pD p)), o5, o6, .sh (tg (C.map pN)), .sh (old (.list (C.map pD))), o9] = .nx [keepS o0, keepS o1, .sh (old (pD p)), keepS o3, .sh (old (pD p)), keepS o5, keepS o6, keepS (.sh (tg (C.map pN))), .sh (old (.list (C.map pD))), keepS o9] := fun o0 o1 o3 o5 o6 o9 => by
    rw [sSpF_eq (cc _ _ _ _ _ _ _), wipe_nil]
    simp only [keepE, List.map_cons, List.map_nil, ke, kp]
  exact ⟨_, _, _, _, _, _, _, by simp [b_law_2, ck, ut, is, uo, ns, sp, -Out.nx.injEq] <;> rfl⟩
theorem tail16 (hf : Fct fs b) (w0 w1 w3 w5 w6 w7 w9 : SD) :
    b_law_3 [w0, w1, .sh (old (pD (kP b fs))), w3, .sh (old (pD (kP b fs))), w5, w6, w7, .sh (old (.list ((chP (kP b fs)).map pD))), w9] = .rt (.sh (.bool true)) := by
  have hr2 : range1D [.int 2] = some (rngL 0 1 2) := range1_ok (x := 2) (by decide) (by decide)
  obtain ⟨ρ', e5, y0, y1, y3, y5, y6, y7, y9, rfl⟩ := forO_inv (F := gTo (gSet 9) b_law_2) (l := rngL 0 1 2)
    (fun i ρ => ∃ y0 y1 y3 y5 y6 y7 y9, ρ = [y0, y1, .sh (old (pD (kP b fs))), y3, .sh (old (pD (kP b fs))), y5, y6, y7, .sh (old (.list ((chP (kP b fs)).map pD))), y9])
    (ρ := [w0, w1, .sh (old (pD (kP b fs))), w3, .sh (old (pD (kP b fs))), w5, w6, w7, .sh (old (.list ((chP (kP b fs)).map pD))), w9])
    ⟨_, _, _, _, _, _, _, rfl⟩
    (fun i d ρ hd hi => by
      obtain ⟨y0, y1, y3, y5, y6, y7, y9, rfl⟩ := hi
      obtain ⟨z0, z1, z3, z5, z6, z7, z9, e⟩ := spoil16 hf d y0 y1 y3 y5 y6 y7 y9
      exact ⟨_, .inl e, _, _, _, _, _, _, _, rfl⟩)
  have z0 : SzP 1 [] := fun x hx => nomatch hx
  have k1 : Rk 10 (((1 : Int) : Rat) / ((2 : Int) : Rat)) := rk_div (by decide) (Sz.lit (by decide)) (Sz.lit (by decide))
  have s0 := sign_at2 (a := []) z0 k1 (by decide) (by simp)
  have d1 : rD (((1 : Int) : Rat) / ((2 : Int) : Rat)) = PyData.tuple [.int 1, .int 2] := by
    have a1 : (((1 : Int) : Rat) / ((2 : Int) : Rat)).num = 1 := by decide +kernel
    have a2 : (((1 : Int) : Rat) / ((2 : Int) : Rat)).den = 2 := by decide +kernel
    rw [rD_def, a1, a2]; rfl
  have v0 : sgQ (evP [] (((1 : Int) : Rat) / ((2 : Int) : Rat))) = 0 := by
    have : evP [] (((1 : Int) : Rat) / ((2 : Int) : Rat)) = 0 := rfl
    rw [this]; decide +kernel
  rw [d1, v0] at s0
  have s0' : m_sign_at [.list [], .tuple [.int 1, .int 2]] = .ok (.sh (.int 0)) := s0
  have pe := p_eq (a := kP b fs) (b := kP b fs)
  rw [decide_eq_true rfl] at pe
  unfold b_law_3 sReg
  have fo : sFor (e1 range1D (eCons (cst (.int 2)) (cst []))) (gSet 9) b_law_2 [w0, w1, .sh (old (pD (kP b fs))), w3, .sh (old (pD (kP b fs))), w5, w6, w7, .sh (old (.list ((chP (kP b fs)).map pD))), w9] = .nx [y0, y1, .sh (old (pD (kP b fs))), y3, .sh (old (pD (kP b fs))), y5, y6, y7, .sh (old (.list ((chP (kP b fs)).map pD))), y9] := by
    simp [hr2, e5]
  rw [fo]
  clear fo e5
  generalize kP b fs = p at *
  simp [s0', pe]
end
theorem law_true (ns : List Int) (hn : ns.length ≤ 63) (hb : ∀ z ∈ ns, Builtin.Int.intBits z ≤ 1048576) : m_law [.list (ns.map .int)] = .ok (.sh (.bool true)) := by
  obtain ⟨xs, e, hx⟩ := draws_p ns hn hb 40 40 rfl (by decide)
  obtain ⟨b, fs, e1', hb', hf, nf, hl, nd⟩ := polynomial_ok hx (z := 6) (most := 6) rfl (by decide) (by decide) (by decide) (by decide)
  have F : Fct fs b := ⟨hf, nd, nf, hl, by rcases hb' with rfl | rfl | rfl | rfl <;> decide, by rcases hb' with rfl | rfl | rfl | rfl <;> exact Sz.lit (by decide)⟩
  have cO := chain17_ok F.hf F.nd F.nf F.hl F.hb F.sb
  have lp := (kP_szs (b := b) hf hl F.sb).2.1
  have lo : listO [pD (kP b fs)] = some ((kP b fs).map .int) := by unfold pD; exact r_listO
  have hls : (kP b fs).length ≤ sizeLine := slB (by omega)
  have hr4 : range1D [.int 4] = some (rngL 0 1 4) := range1_ok (x := 4) (by decide) (by decide)
  obtain ⟨ρ', e5, y5, y6, y7, rfl⟩ := forO_inv (F := gTo (gSet 5) b_law_1) (l := rngL 0 1 4)
    (fun i ρ => ∃ y5 y6 y7, ρ = [.sh (pD ns), .sh (pD xs), .sh (pD (kP b fs)), .sh (.list (fs.map pD)), .sh (pD (kP b fs)), y5, y6, y7, .no, .no])
    (ρ := [.sh (pD ns), .sh (pD xs), .sh (pD (kP b fs)), .sh (.list (fs.map pD)), .sh (pD (kP b fs)), .no, .no, .no, .no, .no])
    ⟨_, _, _, rfl⟩
    (fun i d ρ hd hi => by
      obtain ⟨hj, rfl⟩ := rng0_get hd
      obtain ⟨y5, y6, y7, rfl⟩ := hi
      obtain ⟨z6, z7, e⟩ := turn16 F hx hj (.sh (pD ns)) (.sh (pD (kP b fs))) y6 y7 .no .no
      exact ⟨_, .inl e, _, _, _, rfl⟩)
  have t : ∀ w0 w1 w3 w5 w6 w7 w9, b_law_4 [w0, w1, .sh (pD (kP b fs)), w3, .sh (pD (kP b fs)), w5, w6, w7, .sh (.list ((chP (kP b fs)).map pD)), w9] = .rt (.sh (.bool true)) := fun w0 w1 w3 w5 w6 w7 w9 => by
    have m := tail16 F (colS w0) (colS w1) (colS w3) (colS w5) (colS w6) (colS w7) (colS w9)
    have c1 := colS_nd (ndp (kP b fs))
    have c2 := colS_nd (ndch (chP (kP b fs)))
    have ce : colE [w0, w1, .sh (pD (kP b fs)), w3, .sh (pD (kP b fs)), w5, w6, w7, .sh (.list ((chP (kP b fs)).map pD)), w9] = [colS w0, colS w1, .sh (old (pD (kP b fs))), colS w3, .sh (old (pD (kP b fs))), colS w5, colS w6, colS w7, .sh (old (.list ((chP (kP b fs)).map pD))), colS w9] := by
      simp only [colE, List.map_cons, List.map_nil, c1, c2]
    unfold b_law_4 sColor
    rw [ce, m]
    rfl
  show m_law [pD ns] = _
  generalize chP (kP b fs) = C at *
  generalize kP b fs = p at *
  simp [m_law, c_law, e, e1', lo, hls, hr4, e5, cO, t]
end W

namespace W
open PySem PySem.Spec PyProof.Rows L2 VL
def topS (i : Nat) : Stmt := PySem.Challenge.pw_wheretrue_k16_signs_and_chains.main.body.getD i (.Pass ⟨0, 0, 0, 0⟩)
/-! _law_draws -/
abbrev ws__law_draws : Stmt := topS 23
abbrev wN__law_draws : List Str := ["_law_script", "_law_count_here", "_law_rests", "_law_cell", "_law_draws_here", "_law_k", "_law_value", "_law_at_here", "_law_mixed"]
theorem wsc__law_draws : FnScope wN__law_draws ["_law_script", "_law_count_here"] (defScope ws__law_draws) := ⟨rfl, rfl, rfl, by decide +kernel, rfl, by decide +kernel, by decide +kernel⟩
theorem wd__law_draws {P : Program} {w : World} {K : Fg} {mg : Str → Option Value} {base : Heap} (Fn : Df K mg "_law_draws" ws__law_draws ["_law_script", "_law_count_here"]) (z_range : mg "range" = none) (z_len : mg "len" = none) (z_int : mg "int" = none) : Cl P w K mg base 1 "_law_draws" ["_law_script", "_law_count_here"] m__law_draws :=
  cl_ok Fn wsc__law_draws fun f cdv A outer s H E I => by
    unfold c__law_draws b__law_draws_1
    exact (vss_cons (vs_compO (own := [("_law_cell", 3)]) (ts := [3]) (i := 2) rfl wsc__law_draws.nd rfl rfl (sw_true rfl rfl rfl (by decide +kernel)) (vi_seq (ve_var 0 (pv 0))) (blkOk_by (N := wN__law_draws) (sc := defScope ws__law_draws) (by decide +kernel)) (fun _ _ _ _ _ => vg_name (pg_name (i := 3) wsc__law_draws.nd rfl (by first | exact Or.inl rfl | exact Or.inr rfl))) (fun _ _ _ _ _ => vts_nil) (fun _ _ _ _ _ => ve_var 3 (pv 3))) (vss_cons (vs_setO (i := 4) wsc__law_draws.nd rfl (by first | exact Or.inl rfl | exact Or.inr rfl) (vo_lst (va_nil))) (vss_cons (vs_for I.hp rfl (vi_range1 rfl z_range (vap_cons (vp_var 1 (pv 1)) (vap_nil))) (vg_name (pg_name (i := 5) wsc__law_draws.nd rfl (by first | exact Or.inl rfl | exact Or.inr rfl))) (vss_cons (vs_set (i := 6) wsc__law_draws.nd rfl (by first | exact Or.inl rfl | exact Or.inr rfl) (ve_int)) (vss_cons (vs_if (t_cmp d_gt (VE.vp (v_blt c_len rfl z_len b_len (vap_cons (vp_var 2 (pv 2)) (vap_nil)))) (VE.vp (ve_int))) (vss_cons (vs_set (i := 7) wsc__law_draws.nd rfl (by first | exact Or.inl rfl | exact Or.inr rfl) (v_op d_mod (VE.vp (v_typ c_int rfl z_int b_int (vap_cons (vp_var 5 (pv 5)) (vap_nil)))) (VE.vp (v_blt c_len rfl z_len b_len (vap_cons (vp_var 2 (pv 2)) (vap_nil)))))) (vss_one (vs_if (t_cmp d_ge (VE.vp (v_ix d_ix (vp_var 2 (pv 2)) (vp_var 7 (pv 7)))) (VE.vp (v_op d_pow (VE.vp (ve_int)) (VE.vp (ve_int))))) (vss_cons (vs_set (i := 6) wsc__law_draws.nd rfl (by first | exact Or.inl rfl | exact Or.inr rfl) (v_op d_mod (VE.vp (v_typ c_int rfl z_int b_int (vap_cons (VE.vp (v_ix d_ix (vp_var 2 (pv 2)) (vp_var 7 (pv 7)))) (vap_nil)))) (VE.vp (ve_int)))) (vss_one (vs_store 2 (pv 2) (ve_var 7 (pv 7)) (v_op d_fdiv (VE.vp (v_ix d_ix (vp_var 2 (pv 2)) (vp_var 7 (pv 7)))) (VE.vp (ve_int)))))) (vss_cons (vs_set (i := 8) wsc__law_draws.nd rfl (by first | exact Or.inl rfl | exact Or.inr rfl) (v_op d_mod (VE.vp (v_typ c_int rfl z_int b_int (vap_cons (VE.vp (v_op d_add (VE.vp (v_op d_add (VE.vp (v_op d_mul (VE.vp (v_ix d_ix (vp_var 2 (pv 2)) (vp_var 7 (pv 7)))) (VE.vp (ve_int)))) (VE.vp (v_op d_mul (vp_var 5 (pv 5)) (VE.vp (ve_int)))))) (VE.vp (ve_int)))) (vap_nil)))) (VE.vp (ve_int)))) (vss_cons (vs_set (i := 8) wsc__law_draws.nd rfl (by first | exact Or.inl rfl | exact Or.inr rfl) (v_op d_mod (VE.vp (v_typ c_int rfl z_int b_int (vap_cons (VE.vp (v_op d_add (VE.vp (v_op d_mul (vp_var 8 (pv 8)) (VE.vp (ve_int)))) (vp_var 7 (pv 7)))) (vap_nil)))) (VE.vp (ve_int)))) (vss_one (vs_set (i := 6) wsc__law_draws.nd rfl (by first | exact Or.inl rfl | exact Or.inr rfl) (v_op d_mod (VE.vp (v_typ c_int rfl z_int b_int (vap_cons (VE.vp (v_op d_fdiv (vp_var 8 (pv 8)) (VE.vp (ve_int)))) (vap_nil)))) (VE.vp (ve_int)))))))))) (vss_nil)) (vss_one (vs_app 4 (pv 4) (ve_var 6 (pv 6))))))) (vss_one (vs_retV 4 (pv 4))))))
/-! _law_factors -/
abbrev ws__law_factors : Stmt := topS 39
abbrev wN__law_factors : List Str := ["_law_found", "_law_k"]
theorem wsc__law_factors : FnScope wN__law_factors [] (defScope ws__law_factors) := ⟨rfl, rfl, rfl, by decide +kernel, rfl, by decide +kernel, by decide +kernel⟩
theorem wd__law_factors {P : Program} {w : World} {K : Fg} {mg : Str → Option Value} {base : Heap} (Fn : Df K mg "_law_factors" ws__law_factors []) (z_range : mg "range" = none) : Cl P w K mg base 1 "_law_factors" [] m__law_factors :=
  cl_ok Fn wsc__law_factors fun f cdv A outer s H E I => by
    unfold c__law_factors
    exact (vss_cons (vs_set (i := 0) wsc__law_factors.nd rfl (by first | exact Or.inl rfl | exact Or.inr rfl) (v_op d_add (VE.vp (VO.ve (vo_comp (own := [("_law_k", 1)]) (ts := [1]) rfl wsc__law_factors.nd (vi_range2 rfl z_range (vap_cons (VE.vp (v_un d_neg (VE.vp (ve_int)))) (vap_cons (VE.vp (ve_int)) (vap_nil)))) (blkOk_by (N := wN__law_factors) (sc := defScope ws__law_factors) (by decide +kernel)) (fun _ _ _ _ _ => vg_name (pg_name (i := 1) wsc__law_factors.nd rfl (by first | exact Or.inl rfl | exact Or.inr rfl))) (fun _ _ _ _ _ => vts_nil) (fun _ _ _ _ _ => VO.ve (vo_lst (va_cons (ve_var 1 (pv 1)) (va_cons (ve_int) (va_nil)))))))) (VE.vp (VO.ve (vo_lst (va_cons (VO.ve (vo_lst (va_cons (ve_int) (va_cons (ve_int) (va_nil))))) (va_cons (VO.ve (vo_lst (va_cons (v_un d_neg (VE.vp (ve_int))) (va_cons (ve_int) (va_nil))))) (va_cons (VO.ve (vo_lst (va_cons (ve_int) (va_cons (ve_int) (va_nil))))) (va_cons (VO.ve (vo_lst (va_cons (v_un d_neg (VE.vp (ve_int))) (va_cons (ve_int) (va_nil))))) (va_cons (VO.ve (vo_lst (va_cons (ve_int) (va_cons (ve_int) (va_nil))))) (va_cons (VO.ve (vo_lst (va_cons (v_un d_neg (VE.vp (ve_int))) (va_cons (ve_int) (va_nil))))) (va_nil)))))))))))) (vss_one (vs_retO (v_opO d_addO (vp_var 0 (pv 0)) (VE.vp (VO.ve (vo_lst (va_cons (VO.ve (vo_lst (va_cons (v_un d_neg (VE.vp (ve_int))) (va_cons (ve_int) (va_cons (ve_int) (va_nil)))))) (va_cons (VO.ve (vo_lst (va_cons (v_un d_neg (VE.vp (ve_int))) (va_cons (ve_int) (va_cons (ve_int) (va_nil)))))) (va_cons (VO.ve (vo_lst (va_cons (v_un d_neg (VE.vp (ve_int))) (va_cons (ve_int) (va_cons (ve_int) (va_nil)))))) (va_cons (VO.ve (vo_lst (va_cons (ve_int) (va_cons (ve_int) (va_cons (ve_int) (va_nil)))))) (va_cons (VO.ve (vo_lst (va_cons (ve_int) (va_cons (ve_int) (va_cons (ve_int) (va_nil)))))) (va_cons (VO.ve (vo_lst (va_cons (v_un d_neg (VE.vp (ve_int))) (va_cons (ve_int) (va_cons (ve_int) (va_nil)))))) (va_cons (VO.ve (vo_lst (va_cons (v_un d_neg (VE.vp (ve_int))) (va_cons (ve_int) (va_cons (ve_int) (va_cons (ve_int) (va_nil))))))) (va_nil)))))))))))))))
/-! _law_drawn -/
abbrev ws__law_drawn : Stmt := topS 43
abbrev wN__law_drawn : List Str := ["_law_draws_here", "_law_most", "_law_menu", "_law_found", "_law_k", "_law_factor"]
theorem wsc__law_drawn : FnScope wN__law_drawn ["_law_draws_here", "_law_most"] (defScope ws__law_drawn) := ⟨rfl, rfl, rfl, by decide +kernel, rfl, by decide +kernel, by decide +kernel⟩
theorem wd__law_drawn {P : Program} {w : World} {K : Fg} {mg : Str → Option Value} {base : Heap} (Fn : Df K mg "_law_drawn" ws__law_drawn ["_law_draws_here", "_law_most"]) (C__law_factors : Cl P w K mg base 1 "_law_factors" [] m__law_factors) (z_range : mg "range" = none) (z_int : mg "int" = none) (z_len : mg "len" = none) : Cl P w K mg base 2 "_law_drawn" ["_law_draws_here", "_law_most"] m__law_drawn_k19 :=
  cl_ok Fn wsc__law_drawn fun f cdv A outer s H E I => by
    unfold c__law_drawn_k19 b__law_drawn_k19_1
    exact (vss_cons (vs_set (i := 2) wsc__law_drawn.nd rfl (by first | exact Or.inl rfl | exact Or.inr rfl) (v_calC0 C__law_factors I.hr I.gd I.tk)) (vss_cons (vs_setO (i := 3) wsc__law_drawn.nd rfl (by first | exact Or.inl rfl | exact Or.inr rfl) (vo_lst (va_nil))) (vss_cons (vs_for I.hp rfl (vi_range1 rfl z_range (vap_cons (VE.vp (v_op d_add (VE.vp (ve_int)) (VE.vp (v_op d_mod (VE.vp (v_typ c_int rfl z_int b_int (vap_cons (VE.vp (v_ix d_ix (vp_var 0 (pv 0)) (VE.vp (ve_int)))) (vap_nil)))) (vp_var 1 (pv 1)))))) (vap_nil))) (vg_name (pg_name (i := 4) wsc__law_drawn.nd rfl (by first | exact Or.inl rfl | exact Or.inr rfl))) (vss_cons (vs_set (i := 5) wsc__law_drawn.nd rfl (by first | exact Or.inl rfl | exact Or.inr rfl) (v_ix d_ix (vp_var 2 (pv 2)) (VE.vp (v_op d_mod (VE.vp (v_typ c_int rfl z_int b_int (vap_cons (VE.vp (v_ix d_ix (vp_var 0 (pv 0)) (VE.vp (v_op d_add (VE.vp (ve_int)) (vp_var 4 (pv 4)))))) (vap_nil)))) (VE.vp (v_blt c_len rfl z_len b_len (vap_cons (vp_var 2 (pv 2)) (vap_nil)))))))) (vss_one (vs_if (t_cmp (d_notin (u65 I.hr)) (vp_var 5 (pv 5)) (vp_var 3 (pv 3))) (vss_one (vs_app 3 (pv 3) (ve_var 5 (pv 5)))) (vss_nil))))) (vss_one (vs_retV 3 (pv 3))))))
/-! _law_trim -/
abbrev ws__law_trim : Stmt := topS 33
abbrev wN__law_trim : List Str := ["_law_a", "_law_found", "_law_turn"]
theorem wsc__law_trim : FnScope wN__law_trim ["_law_a"] (defScope ws__law_trim) := ⟨rfl, rfl, rfl, by decide +kernel, rfl, by decide +kernel, by decide +kernel⟩
theorem wd__law_trim {P : Program} {w : World} {K : Fg} {mg : Str → Option Value} {base : Heap} (Fn : Df K mg "_law_trim" ws__law_trim ["_law_a"]) (z_list : mg "list" = none) (z_range : mg "range" = none) (z_len : mg "len" = none) : Cl P w K mg base 1 "_law_trim" ["_law_a"] m__law_trim_k19 :=
  cl_ok Fn wsc__law_trim fun f cdv A outer s H E I => by
    unfold c__law_trim_k19 b__law_trim_k19_1
    exact (vss_cons (vs_setO (i := 1) wsc__law_trim.nd rfl (by first | exact Or.inl rfl | exact Or.inr rfl) (v_typO c_listO rfl z_list b_list (vap_cons (vp_var 0 (pv 0)) (vap_nil)))) (vss_cons (vs_for I.hp rfl (vi_range1 rfl z_range (vap_cons (VE.vp (v_blt c_len rfl z_len b_len (vap_cons (vp_var 0 (pv 0)) (vap_nil)))) (vap_nil))) (vg_name (pg_name (i := 2) wsc__law_trim.nd rfl (by first | exact Or.inl rfl | exact Or.inr rfl))) (vss_one (vs_if (VW.vt (vw_and (t_cmp d_gt (VE.vp (v_blt c_len rfl z_len b_len (vap_cons (vp_var 1 (pv 1)) (vap_nil)))) (VE.vp (ve_int))) (vw_and1 (t_cmp (d_eq I.hr.units) (VE.vp (v_ix d_ix (vp_var 1 (pv 1)) (VE.vp (v_un d_neg (VE.vp (ve_int)))))) (VE.vp (ve_int)))))) (vss_one (vs_popX 1 (pv 1))) (vss_nil)))) (vss_one (vs_retV 1 (pv 1)))))
/-! _law_mul -/
abbrev ws__law_mul : Stmt := topS 35
abbrev wN__law_mul : List Str := ["_law_a", "_law_b", "_law_found", "_law_i", "_law_j"]
theorem wsc__law_mul : FnScope wN__law_mul ["_law_a", "_law_b"] (defScope ws__law_mul) := ⟨rfl, rfl, rfl, by decide +kernel, rfl, by decide +kernel, by decide +kernel⟩
theorem wd__law_mul {P : Program} {w : World} {K : Fg} {mg : Str → Option Value} {base : Heap} (Fn : Df K mg "_law_mul" ws__law_mul ["_law_a", "_law_b"]) (C__law_trim : Cl P w K mg base 1 "_law_trim" ["_law_a"] m__law_trim_k19) (z_len : mg "len" = none) (z_range : mg "range" = none) : Cl P w K mg base 2 "_law_mul" ["_law_a", "_law_b"] m__law_mul_k19 :=
  cl_ok Fn wsc__law_mul fun f cdv A outer s H E I => by
    unfold c__law_mul_k19 b__law_mul_k19_2 b__law_mul_k19_1
    exact (vss_cons (vs_setO (i := 2) wsc__law_mul.nd rfl (by first | exact Or.inl rfl | exact Or.inr rfl) (v_opO d_mulO (VE.vp (VO.ve (vo_lst (va_cons (ve_int) (va_nil))))) (VE.vp (v_op d_add (VE.vp (v_blt c_len rfl z_len b_len (vap_cons (vp_var 0 (pv 0)) (vap_nil)))) (VE.vp (v_blt c_len rfl z_len b_len (vap_cons (vp_var 1 (pv 1)) (vap_nil)))))))) (vss_cons (vs_for I.hp rfl (vi_range1 rfl z_range (vap_cons (VE.vp (v_blt c_len rfl z_len b_len (vap_cons (vp_var 0 (pv 0)) (vap_nil)))) (vap_nil))) (vg_name (pg_name (i := 3) wsc__law_mul.nd rfl (by first | exact Or.inl rfl | exact Or.inr rfl))) (vss_one (vs_for I.hp rfl (vi_range1 rfl z_range (vap_cons (VE.vp (v_blt c_len rfl z_len b_len (vap_cons (vp_var 1 (pv 1)) (vap_nil)))) (vap_nil))) (vg_name (pg_name (i := 4) wsc__law_mul.nd rfl (by first | exact Or.inl rfl | exact Or.inr rfl))) (vss_one (vs_store 2 (pv 2) (v_op d_add (vp_var 3 (pv 3)) (vp_var 4 (pv 4))) (v_op d_add (VE.vp (v_ix d_ix (vp_var 2 (pv 2)) (VE.vp (v_op d_add (vp_var 3 (pv 3)) (vp_var 4 (pv 4)))))) (VE.vp (v_op d_mul (VE.vp (v_ix d_ix (vp_var 0 (pv 0)) (vp_var 3 (pv 3)))) (VE.vp (v_ix d_ix (vp_var 1 (pv 1)) (vp_var 4 (pv 4)))))))))))) (vss_one (vs_fz 2 (vs_retO (v_calCO C__law_trim I.hr I.gd I.tk (va_cons (ve_var 2 (pv 2)) (va_nil))))))))
/-! _law_product -/
abbrev ws__law_product : Stmt := topS 44
abbrev wN__law_product : List Str := ["_law_factors_here", "_law_found", "_law_factor"]
theorem wsc__law_product : FnScope wN__law_product ["_law_factors_here"] (defScope ws__law_product) := ⟨rfl, rfl, rfl, by decide +kernel, rfl, by decide +kernel, by decide +kernel⟩
theorem wd__law_product {P : Program} {w : World} {K : Fg} {mg : Str → Option Value} {base : Heap} (Fn : Df K mg "_law_product" ws__law_product ["_law_factors_here"]) (C__law_mul : Cl P w K mg base 2 "_law_mul" ["_law_a", "_law_b"] m__law_mul_k19) : Cl P w K mg base 3 "_law_product" ["_law_factors_here"] m__law_product :=
  cl_ok Fn wsc__law_product fun f cdv A outer s H E I => by
    unfold c__law_product b__law_product_1
    exact (vss_cons (vs_set (i := 1) wsc__law_product.nd rfl (by first | exact Or.inl rfl | exact Or.inr rfl) (VO.ve (vo_lst (va_cons (ve_int) (va_nil))))) (vss_cons (vs_for I.hp rfl (vi_seq (ve_var 0 (pv 0))) (vg_name (pg_name (i := 2) wsc__law_product.nd rfl (by first | exact Or.inl rfl | exact Or.inr rfl))) (vss_one (vs_set (i := 1) wsc__law_product.nd rfl (by first | exact Or.inl rfl | exact Or.inr rfl) (v_calC C__law_mul I.hr I.gd I.tk (va_cons (ve_var 1 (pv 1)) (va_cons (ve_var 2 (pv 2)) (va_nil))))))) (vss_one (vs_ret (ve_var 1 (pv 1))))))
/-! _law_polynomial -/
abbrev ws__law_polynomial : Stmt := topS 45
abbrev wN__law_polynomial : List Str := ["_law_draws_here", "_law_most", "_law_factors_here", "_law_by", "_law_one"]
theorem wsc__law_polynomial : FnScope wN__law_polynomial ["_law_draws_here", "_law_most"] (defScope ws__law_polynomial) := ⟨rfl, rfl, rfl, by decide +kernel, rfl, by decide +kernel, by decide +kernel⟩
theorem wd__law_polynomial {P : Program} {w : World} {K : Fg} {mg : Str → Option Value} {base : Heap} (Fn : Df K mg "_law_polynomial" ws__law_polynomial ["_law_draws_here", "_law_most"]) (C__law_drawn : Cl P w K mg base 2 "_law_drawn" ["_law_draws_here", "_law_most"] m__law_drawn_k19) (C__law_product : Cl P w K mg base 3 "_law_product" ["_law_factors_here"] m__law_product) (z_int : mg "int" = none) : Cl P w K mg base 4 "_law_polynomial" ["_law_draws_here", "_law_most"] m__law_polynomial :=
  cl_ok Fn wsc__law_polynomial fun f cdv A outer s H E I => by
    unfold c__law_polynomial
    exact (vss_cons (vs_set (i := 2) wsc__law_polynomial.nd rfl (by first | exact Or.inl rfl | exact Or.inr rfl) (v_calC C__law_drawn I.hr I.gd I.tk (va_cons (ve_var 0 (pv 0)) (va_cons (ve_var 1 (pv 1)) (va_nil))))) (vss_cons (vs_set (i := 3) wsc__law_polynomial.nd rfl (by first | exact Or.inl rfl | exact Or.inr rfl) (v_ix d_ix (VE.vp (VO.ve (vo_lst (va_cons (ve_int) (va_cons (ve_int) (va_cons (v_un d_neg (VE.vp (ve_int))) (va_cons (ve_int) (va_cons (v_un d_neg (VE.vp (ve_int))) (va_nil))))))))) (VE.vp (v_op d_mod (VE.vp (v_typ c_int rfl z_int b_int (vap_cons (VE.vp (v_ix d_ix (vp_var 0 (pv 0)) (VE.vp (ve_int)))) (vap_nil)))) (VE.vp (ve_int)))))) (vss_one (vs_ret (ve_tup (va_cons (VO.ve (vo_comp (own := [("_law_one", 4)]) (ts := [4]) rfl wsc__law_polynomial.nd (vi_seq (v_calC C__law_product I.hr I.gd I.tk (va_cons (ve_var 2 (pv 2)) (va_nil)))) (blkOk_by (N := wN__law_polynomial) (sc := defScope ws__law_polynomial) (by decide +kernel)) (fun _ _ _ _ _ => vg_name (pg_name (i := 4) wsc__law_polynomial.nd rfl (by first | exact Or.inl rfl | exact Or.inr rfl))) (fun _ _ _ _ _ => vts_nil) (fun _ _ _ _ _ => v_op d_mul (vp_var 3 (pv 3)) (vp_var 4 (pv 4))))) (va_cons (ve_var 2 (pv 2)) (va_nil))))))))
/-! _law_gcd -/
abbrev ws__law_gcd : Stmt := topS 24
abbrev wN__law_gcd : List Str := ["_law_a", "_law_b", "_law_turn"]
theorem wsc__law_gcd : FnScope wN__law_gcd ["_law_a", "_law_b"] (defScope ws__law_gcd) := ⟨rfl, rfl, rfl, by decide +kernel, rfl, by decide +kernel, by decide +kernel⟩
theorem wd__law_gcd {P : Program} {w : World} {K : Fg} {mg : Str → Option Value} {base : Heap} (Fn : Df K mg "_law_gcd" ws__law_gcd ["_law_a", "_law_b"]) (z_abs : mg "abs" = none) (z_range : mg "range" = none) (z_int : mg "int" = none) : Cl P w K mg base 1 "_law_gcd" ["_law_a", "_law_b"] m__law_gcd_k18 :=
  cl_ok Fn wsc__law_gcd fun f cdv A outer s H E I => by
    unfold c__law_gcd_k18 b__law_gcd_k18_1
    exact (vss_cons (vs_par (i := 0) (j := 1) rfl wsc__law_gcd.nd rfl rfl (by decide) rfl rfl (va_cons (v_blt c_abs rfl z_abs b_abs (vap_cons (vp_var 0 (pv 0)) (vap_nil))) (va_cons (v_blt c_abs rfl z_abs b_abs (vap_cons (vp_var 1 (pv 1)) (vap_nil))) (va_nil))) (by rfl)) (vss_cons (vs_for I.hp rfl (vi_range1 rfl z_range (vap_cons (VE.vp (ve_int)) (vap_nil))) (vg_name (pg_name (i := 2) wsc__law_gcd.nd rfl (by first | exact Or.inl rfl | exact Or.inr rfl))) (vss_cons (vs_if (t_cmp (d_eq I.hr.units) (vp_var 1 (pv 1)) (VE.vp (ve_int))) (vss_one (vs_break)) (vss_nil)) (vss_one (vs_par (i := 0) (j := 1) rfl wsc__law_gcd.nd rfl rfl (by decide) rfl rfl (va_cons (ve_var 1 (pv 1)) (va_cons (v_op d_mod (VE.vp (v_typ c_int rfl z_int b_int (vap_cons (vp_var 0 (pv 0)) (vap_nil)))) (vp_var 1 (pv 1))) (va_nil))) (by rfl))))) (vss_one (vs_ret (ve_var 0 (pv 0))))))
/-! _law_bare -/
abbrev ws__law_bare : Stmt := topS 48
abbrev wN__law_bare : List Str := ["_law_a", "_law_factor", "_law_common", "_law_one"]
theorem wsc__law_bare : FnScope wN__law_bare ["_law_a", "_law_factor"] (defScope ws__law_bare) := ⟨rfl, rfl, rfl, by decide +kernel, rfl, by decide +kernel, by decide +kernel⟩
theorem wd__law_bare {P : Program} {w : World} {K : Fg} {mg : Str → Option Value} {base : Heap} (Fn : Df K mg "_law_bare" ws__law_bare ["_law_a", "_law_factor"]) (C__law_gcd : Cl P w K mg base 1 "_law_gcd" ["_law_a", "_law_b"] m__law_gcd_k18) : Cl P w K mg base 2 "_law_bare" ["_law_a", "_law_factor"] m__law_bare_k17 :=
  cl_ok Fn wsc__law_bare fun f cdv A outer s H E I => by
    unfold c__law_bare_k17 b__law_bare_k17_1
    exact (vss_cons (vs_set (i := 2) wsc__law_bare.nd rfl (by first | exact Or.inl rfl | exact Or.inr rfl) (ve_int)) (vss_cons (vs_for I.hp rfl (vi_seq (ve_var 0 (pv 0))) (vg_name (pg_name (i := 3) wsc__law_bare.nd rfl (by first | exact Or.inl rfl | exact Or.inr rfl))) (vss_one (vs_set (i := 2) wsc__law_bare.nd rfl (by first | exact Or.inl rfl | exact Or.inr rfl) (v_calC C__law_gcd I.hr I.gd I.tk (va_cons (ve_var 2 (pv 2)) (va_cons (ve_var 3 (pv 3)) (va_nil))))))) (vss_one (vs_retO (vo_comp (own := [("_law_one", 3)]) (ts := [3]) rfl wsc__law_bare.nd (vi_seq (ve_var 0 (pv 0))) (blkOk_by (N := wN__law_bare) (sc := defScope ws__law_bare) (by decide +kernel)) (fun _ _ _ _ _ => vg_name (pg_name (i := 3) wsc__law_bare.nd rfl (by first | exact Or.inl rfl | exact Or.inr rfl))) (fun _ _ _ _ _ => vts_nil) (fun _ _ _ _ _ => v_op d_mul (vp_var 1 (pv 1)) (VE.vp (v_op d_fdiv (vp_var 3 (pv 3)) (vp_var 2 (pv 2))))))))))
/-! _law_add -/
abbrev ws__law_add : Stmt := topS 34
abbrev wN__law_add : List Str := ["_law_a", "_law_b", "_law_many", "_law_k"]
theorem wsc__law_add : FnScope wN__law_add ["_law_a", "_law_b"] (defScope ws__law_add) := ⟨rfl, rfl, rfl, by decide +kernel, rfl, by decide +kernel, by decide +kernel⟩
theorem wd__law_add {P : Program} {w : World} {K : Fg} {mg : Str → Option Value} {base : Heap} (Fn : Df K mg "_law_add" ws__law_add ["_law_a", "_law_b"]) (C__law_trim : Cl P w K mg base 1 "_law_trim" ["_law_a"] m__law_trim_k19) (z_max : mg "max" = none) (z_len : mg "len" = none) (z_range : mg "range" = none) : Cl P w K mg base 2 "_law_add" ["_law_a", "_law_b"] m__law_add_k17 :=
  cl_ok Fn wsc__law_add fun f cdv A outer s H E I => by
    unfold c__law_add_k17
    exact (vss_cons (vs_set (i := 2) wsc__law_add.nd rfl (by first | exact Or.inl rfl | exact Or.inr rfl) (v_blt (c_max rfl) rfl z_max b_max (vap_cons (VE.vp (v_blt c_len rfl z_len b_len (vap_cons (vp_var 0 (pv 0)) (vap_nil)))) (vap_cons (VE.vp (v_blt c_len rfl z_len b_len (vap_cons (vp_var 1 (pv 1)) (vap_nil)))) (vap_nil))))) (vss_one (vs_retO (v_calCO C__law_trim I.hr I.gd I.tk (va_cons (VO.ve (vo_comp (own := [("_law_k", 3)]) (ts := [3]) rfl wsc__law_add.nd (vi_range1 rfl z_range (vap_cons (vp_var 2 (pv 2)) (vap_nil))) (blkOk_by (N := wN__law_add) (sc := defScope ws__law_add) (by decide +kernel)) (fun _ _ _ _ _ => vg_name (pg_name (i := 3) wsc__law_add.nd rfl (by first | exact Or.inl rfl | exact Or.inr rfl))) (fun _ _ _ _ _ => vts_nil) (fun _ _ _ _ _ => v_op d_add (VE.vp (v_ix d_ix (VE.vp (v_op d_add (vp_var 0 (pv 0)) (VE.vp (v_op d_mul (VE.vp (VO.ve (vo_lst (va_cons (ve_int) (va_nil))))) (vp_var 2 (pv 2)))))) (vp_var 3 (pv 3)))) (VE.vp (v_ix d_ix (VE.vp (v_op d_add (vp_var 1 (pv 1)) (VE.vp (v_op d_mul (VE.vp (VO.ve (vo_lst (va_cons (ve_int) (va_nil))))) (vp_var 2 (pv 2)))))) (vp_var 3 (pv 3))))))) (va_nil))))))
/-! _law_rest -/
abbrev ws__law_rest : Stmt := topS 49
abbrev wN__law_rest : List Str := ["_law_a", "_law_b", "_law_rest_here", "_law_turn", "_law_top", "_law_shift", "_law_less_here", "_law_one"]
theorem wsc__law_rest : FnScope wN__law_rest ["_law_a", "_law_b"] (defScope ws__law_rest) := ⟨rfl, rfl, rfl, by decide +kernel, rfl, by decide +kernel, by decide +kernel⟩
theorem wd__law_rest {P : Program} {w : World} {K : Fg} {mg : Str → Option Value} {base : Heap} (Fn : Df K mg "_law_rest" ws__law_rest ["_law_a", "_law_b"]) (C__law_add : Cl P w K mg base 2 "_law_add" ["_law_a", "_law_b"] m__law_add_k17) (z_list : mg "list" = none) (z_range : mg "range" = none) (z_len : mg "len" = none) : Cl P w K mg base 3 "_law_rest" ["_law_a", "_law_b"] m__law_rest_k17 :=
  cl_ok Fn wsc__law_rest fun f cdv A outer s H E I => by
    unfold c__law_rest_k17 b__law_rest_k17_1
    exact (vss_cons (vs_set (i := 2) wsc__law_rest.nd rfl (by first | exact Or.inl rfl | exact Or.inr rfl) (VO.ve (v_typO c_listO rfl z_list b_list (vap_cons (vp_var 0 (pv 0)) (vap_nil))))) (vss_cons (vs_for I.hp rfl (vi_range1 rfl z_range (vap_cons (VE.vp (v_op d_add (VE.vp (v_op d_sub (VE.vp (v_blt c_len rfl z_len b_len (vap_cons (vp_var 0 (pv 0)) (vap_nil)))) (VE.vp (v_blt c_len rfl z_len b_len (vap_cons (vp_var 1 (pv 1)) (vap_nil)))))) (VE.vp (ve_int)))) (vap_nil))) (vg_name (pg_name (i := 3) wsc__law_rest.nd rfl (by first | exact Or.inl rfl | exact Or.inr rfl))) (vss_cons (vs_set (i := 4) wsc__law_rest.nd rfl (by first | exact Or.inl rfl | exact Or.inr rfl) (ve_int)) (vss_cons (vs_if (t_cmp (d_eq I.hr.units) (VE.vp (v_blt c_len rfl z_len b_len (vap_cons (vp_var 2 (pv 2)) (vap_nil)))) (VE.vp (v_op d_sub (VE.vp (v_blt c_len rfl z_len b_len (vap_cons (vp_var 0 (pv 0)) (vap_nil)))) (vp_var 3 (pv 3))))) (vss_one (vs_set (i := 4) wsc__law_rest.nd rfl (by first | exact Or.inl rfl | exact Or.inr rfl) (v_ix d_ix (vp_var 2 (pv 2)) (VE.vp (v_un d_neg (VE.vp (ve_int))))))) (vss_nil)) (vss_cons (vs_set (i := 5) wsc__law_rest.nd rfl (by first | exact Or.inl rfl | exact Or.inr rfl) (v_op d_sub (VE.vp (v_op d_sub (VE.vp (v_blt c_len rfl z_len b_len (vap_cons (vp_var 0 (pv 0)) (vap_nil)))) (VE.vp (v_blt c_len rfl z_len b_len (vap_cons (vp_var 1 (pv 1)) (vap_nil)))))) (vp_var 3 (pv 3)))) (vss_cons (vs_set (i := 6) wsc__law_rest.nd rfl (by first | exact Or.inl rfl | exact Or.inr rfl) (v_op d_add (VE.vp (v_op d_mul (VE.vp (VO.ve (vo_lst (va_cons (ve_int) (va_nil))))) (vp_var 5 (pv 5)))) (VE.vp (VO.ve (vo_comp (own := [("_law_one", 7)]) (ts := [7]) rfl wsc__law_rest.nd (vi_seq (ve_var 1 (pv 1))) (blkOk_by (N := wN__law_rest) (sc := defScope ws__law_rest) (by decide +kernel)) (fun _ _ _ _ _ => vg_name (pg_name (i := 7) wsc__law_rest.nd rfl (by first | exact Or.inl rfl | exact Or.inr rfl))) (fun _ _ _ _ _ => vts_nil) (fun _ _ _ _ _ => v_op d_mul (vp_var 4 (pv 4)) (vp_var 7 (pv 7)))))))) (vss_one (vs_set (i := 2) wsc__law_rest.nd rfl (by first | exact Or.inl rfl | exact Or.inr rfl) (v_calC C__law_add I.hr I.gd I.tk (va_cons (VO.ve (vo_comp (own := [("_law_one", 7)]) (ts := [7]) rfl wsc__law_rest.nd (vi_seq (ve_var 2 (pv 2))) (blkOk_by (N := wN__law_rest) (sc := defScope ws__law_rest) (by decide +kernel)) (fun _ _ _ _ _ => vg_name (pg_name (i := 7) wsc__law_rest.nd rfl (by first | exact Or.inl rfl | exact Or.inr rfl))) (fun _ _ _ _ _ => vts_nil) (fun _ _ _ _ _ => v_op d_mul (VE.vp (v_ix d_ix (vp_var 1 (pv 1)) (VE.vp (v_un d_neg (VE.vp (ve_int)))))) (vp_var 7 (pv 7))))) (va_cons (VO.ve (vo_comp (own := [("_law_one", 7)]) (ts := [7]) rfl wsc__law_rest.nd (vi_seq (ve_var 6 (pv 6))) (blkOk_by (N := wN__law_rest) (sc := defScope ws__law_rest) (by decide +kernel)) (fun _ _ _ _ _ => vg_name (pg_name (i := 7) wsc__law_rest.nd rfl (by first | exact Or.inl rfl | exact Or.inr rfl))) (fun _ _ _ _ _ => vts_nil) (fun _ _ _ _ _ => v_un d_neg (vp_var 7 (pv 7))))) (va_nil))))))))))) (vss_one (vs_ret (ve_var 2 (pv 2))))))
/-! _law_chain -/
abbrev ws__law_chain : Stmt := topS 50
abbrev wN__law_chain : List Str := ["_law_p", "_law_chain_here", "_law_k", "_law_turn", "_law_a", "_law_b", "_law_rest_here", "_law_turned"]
theorem wsc__law_chain : FnScope wN__law_chain ["_law_p"] (defScope ws__law_chain) := ⟨rfl, rfl, rfl, by decide +kernel, rfl, by decide +kernel, by decide +kernel⟩
theorem wd__law_chain {P : Program} {w : World} {K : Fg} {mg : Str → Option Value} {base : Heap} (Fn : Df K mg "_law_chain" ws__law_chain ["_law_p"]) (C__law_bare : Cl P w K mg base 2 "_law_bare" ["_law_a", "_law_factor"] m__law_bare_k17) (C__law_rest : Cl P w K mg base 3 "_law_rest" ["_law_a", "_law_b"] m__law_rest_k17) (z_range : mg "range" = none) (z_len : mg "len" = none) (z_int : mg "int" = none) : Cl P w K mg base 4 "_law_chain" ["_law_p"] m__law_chain :=
  cl_ok Fn wsc__law_chain fun f cdv A outer s H E I => by
    unfold c__law_chain b__law_chain_1
    exact (vss_cons (vs_setO (i := 1) wsc__law_chain.nd rfl (by first | exact Or.inl rfl | exact Or.inr rfl) (vo_lst (va_cons (v_calC C__law_bare I.hr I.gd I.tk (va_cons (ve_var 0 (pv 0)) (va_cons (ve_int) (va_nil)))) (va_cons (v_calC C__law_bare I.hr I.gd I.tk (va_cons (VO.ve (vo_comp (own := [("_law_k", 2)]) (ts := [2]) rfl wsc__law_chain.nd (vi_range2 rfl z_range (vap_cons (VE.vp (ve_int)) (vap_cons (VE.vp (v_blt c_len rfl z_len b_len (vap_cons (vp_var 0 (pv 0)) (vap_nil)))) (vap_nil)))) (blkOk_by (N := wN__law_chain) (sc := defScope ws__law_chain) (by decide +kernel)) (fun _ _ _ _ _ => vg_name (pg_name (i := 2) wsc__law_chain.nd rfl (by first | exact Or.inl rfl | exact Or.inr rfl))) (fun _ _ _ _ _ => vts_nil) (fun _ _ _ _ _ => v_op d_mul (VE.vp (v_ix d_ix (vp_var 0 (pv 0)) (vp_var 2 (pv 2)))) (vp_var 2 (pv 2))))) (va_cons (ve_int) (va_nil)))) (va_nil))))) (vss_cons (vs_for I.hp rfl (vi_range1 rfl z_range (vap_cons (VE.vp (v_blt c_len rfl z_len b_len (vap_cons (vp_var 0 (pv 0)) (vap_nil)))) (vap_nil))) (vg_name (pg_name (i := 3) wsc__law_chain.nd rfl (by first | exact Or.inl rfl | exact Or.inr rfl))) (vss_cons (vs_par (i := 4) (j := 5) rfl wsc__law_chain.nd rfl rfl (by decide) rfl rfl (va_cons (v_ix d_ix (vp_var 1 (pv 1)) (VE.vp (v_un d_neg (VE.vp (ve_int))))) (va_cons (v_ix d_ix (vp_var 1 (pv 1)) (VE.vp (v_un d_neg (VE.vp (ve_int))))) (va_nil))) (by rfl)) (vss_cons (vs_set (i := 6) wsc__law_chain.nd rfl (by first | exact Or.inl rfl | exact Or.inr rfl) (v_calC C__law_rest I.hr I.gd I.tk (va_cons (ve_var 4 (pv 4)) (va_cons (ve_var 5 (pv 5)) (va_nil))))) (vss_cons (vs_if (t_cmp (d_eq I.hr.units) (VE.vp (v_blt c_len rfl z_len b_len (vap_cons (vp_var 6 (pv 6)) (vap_nil)))) (VE.vp (ve_int))) (vss_one (vs_break)) (vss_nil)) (vss_cons (vs_set (i := 7) wsc__law_chain.nd rfl (by first | exact Or.inl rfl | exact Or.inr rfl) (v_or (v_cmp d_gt (VE.vp (v_ix d_ix (vp_var 5 (pv 5)) (VE.vp (v_un d_neg (VE.vp (ve_int)))))) (VE.vp (ve_int))) (v_or1 (v_cmp (d_eq I.hr.units) (VE.vp (v_op d_mod (VE.vp (v_typ c_int rfl z_int b_int (vap_cons (VE.vp (v_op d_sub (VE.vp (v_blt c_len rfl z_len b_len (vap_cons (vp_var 4 (pv 4)) (vap_nil)))) (VE.vp (v_blt c_len rfl z_len b_len (vap_cons (vp_var 5 (pv 5)) (vap_nil)))))) (vap_nil)))) (VE.vp (ve_int)))) (VE.vp (ve_int)))))) (vss_one (vs_app 1 (pv 1) (v_calC C__law_bare I.hr I.gd I.tk (va_cons (ve_var 6 (pv 6)) (va_cons (v_ix d_ix (VE.vp (VO.ve (vo_lst (va_cons (ve_int) (va_cons (v_un d_neg (VE.vp (ve_int))) (va_nil)))))) (VE.vp (v_typ c_int rfl z_int b_int (vap_cons (vp_var 7 (pv 7)) (vap_nil))))) (va_nil))))))))))) (vss_one (vs_retV 1 (pv 1)))))
/-! _law_number -/
abbrev ws__law_number : Stmt := topS 25
abbrev wN__law_number : List Str := ["_law_n", "_law_d", "_law_common"]
theorem wsc__law_number : FnScope wN__law_number ["_law_n", "_law_d"] (defScope ws__law_number) := ⟨rfl, rfl, rfl, by decide +kernel, rfl, by decide +kernel, by decide +kernel⟩
theorem wd__law_number {P : Program} {w : World} {K : Fg} {mg : Str → Option Value} {base : Heap} (Fn : Df K mg "_law_number" ws__law_number ["_law_n", "_law_d"]) (C__law_gcd : Cl P w K mg base 1 "_law_gcd" ["_law_a", "_law_b"] m__law_gcd_k18) : Cl P w K mg base 2 "_law_number" ["_law_n", "_law_d"] m__law_number_k18 :=
  cl_ok Fn wsc__law_number fun f cdv A outer s H E I => by
    unfold c__law_number_k18
    exact (vss_cons (vs_if (t_cmp d_lt (vp_var 1 (pv 1)) (VE.vp (ve_int))) (vss_one (vs_par (i := 0) (j := 1) rfl wsc__law_number.nd rfl rfl (by decide) rfl rfl (va_cons (v_un d_neg (vp_var 0 (pv 0))) (va_cons (v_un d_neg (vp_var 1 (pv 1))) (va_nil))) (by rfl))) (vss_nil)) (vss_cons (vs_set (i := 2) wsc__law_number.nd rfl (by first | exact Or.inl rfl | exact Or.inr rfl) (v_calC C__law_gcd I.hr I.gd I.tk (va_cons (ve_var 0 (pv 0)) (va_cons (ve_var 1 (pv 1)) (va_nil))))) (vss_one (vs_ret (ve_tup (va_cons (v_op d_fdiv (vp_var 0 (pv 0)) (vp_var 2 (pv 2))) (va_cons (v_op d_fdiv (vp_var 1 (pv 1)) (vp_var 2 (pv 2))) (va_nil))))))))
/-! _law_plus -/
abbrev ws__law_plus : Stmt := topS 26
abbrev wN__law_plus : List Str := ["_law_a", "_law_b"]
theorem wsc__law_plus : FnScope wN__law_plus ["_law_a", "_law_b"] (defScope ws__law_plus) := ⟨rfl, rfl, rfl, by decide +kernel, rfl, by decide +kernel, by decide +kernel⟩
theorem wd__law_plus {P : Program} {w : World} {K : Fg} {mg : Str → Option Value} {base : Heap} (Fn : Df K mg "_law_plus" ws__law_plus ["_law_a", "_law_b"]) (C__law_number : Cl P w K mg base 2 "_law_number" ["_law_n", "_law_d"] m__law_number_k18) : Cl P w K mg base 3 "_law_plus" ["_law_a", "_law_b"] m__law_plus_k18 :=
  cl_ok Fn wsc__law_plus fun f cdv A outer s H E I => by
    unfold c__law_plus_k18
    exact (vss_one (vs_ret (v_calC C__law_number I.hr I.gd I.tk (va_cons (v_op d_add (VE.vp (v_op d_mul (VE.vp (v_ix d_ix (vp_var 0 (pv 0)) (VE.vp (ve_int)))) (VE.vp (v_ix d_ix (vp_var 1 (pv 1)) (VE.vp (ve_int)))))) (VE.vp (v_op d_mul (VE.vp (v_ix d_ix (vp_var 1 (pv 1)) (VE.vp (ve_int)))) (VE.vp (v_ix d_ix (vp_var 0 (pv 0)) (VE.vp (ve_int))))))) (va_cons (v_op d_mul (VE.vp (v_ix d_ix (vp_var 0 (pv 0)) (VE.vp (ve_int)))) (VE.vp (v_ix d_ix (vp_var 1 (pv 1)) (VE.vp (ve_int))))) (va_nil))))))
/-! _law_x -/
abbrev ws__law_x : Stmt := topS 46
abbrev wN__law_x : List Str := ["_law_draws_here", "_law_factors_here", "_law_drawn_here", "_law_factor"]
theorem wsc__law_x : FnScope wN__law_x ["_law_draws_here", "_law_factors_here"] (defScope ws__law_x) := ⟨rfl, rfl, rfl, by decide +kernel, rfl, by decide +kernel, by decide +kernel⟩
theorem wd__law_x {P : Program} {w : World} {K : Fg} {mg : Str → Option Value} {base : Heap} (Fn : Df K mg "_law_x" ws__law_x ["_law_draws_here", "_law_factors_here"]) (C__law_number : Cl P w K mg base 2 "_law_number" ["_law_n", "_law_d"] m__law_number_k18) (C__law_plus : Cl P w K mg base 3 "_law_plus" ["_law_a", "_law_b"] m__law_plus_k18) (z_int : mg "int" = none) (z_len : mg "len" = none) : Cl P w K mg base 4 "_law_x" ["_law_draws_here", "_law_factors_here"] m__law_x :=
  cl_ok Fn wsc__law_x fun f cdv A outer s H E I => by
    unfold c__law_x
    exact (vss_cons (vs_set (i := 2) wsc__law_x.nd rfl (by first | exact Or.inl rfl | exact Or.inr rfl) (v_calC C__law_number I.hr I.gd I.tk (va_cons (v_op d_mul (VE.vp (v_op d_sub (VE.vp (v_op d_mod (VE.vp (v_typ c_int rfl z_int b_int (vap_cons (VE.vp (v_ix d_ix (vp_var 0 (pv 0)) (VE.vp (ve_int)))) (vap_nil)))) (VE.vp (ve_int)))) (VE.vp (ve_int)))) (VE.vp (v_ix d_ix (VE.vp (VO.ve (vo_lst (va_cons (ve_int) (va_cons (ve_int) (va_cons (ve_int) (va_cons (ve_int) (va_nil)))))))) (VE.vp (v_op d_mod (VE.vp (v_typ c_int rfl z_int b_int (vap_cons (VE.vp (v_ix d_ix (vp_var 0 (pv 0)) (VE.vp (ve_int)))) (vap_nil)))) (VE.vp (ve_int))))))) (va_cons (v_op d_add (VE.vp (ve_int)) (VE.vp (v_op d_mod (VE.vp (v_typ c_int rfl z_int b_int (vap_cons (VE.vp (v_ix d_ix (vp_var 0 (pv 0)) (VE.vp (ve_int)))) (vap_nil)))) (VE.vp (ve_int))))) (va_nil))))) (vss_cons (vs_if (VW.vt (vw_or (t_cmp (d_eq I.hr.units) (VE.vp (v_op d_mod (VE.vp (v_typ c_int rfl z_int b_int (vap_cons (VE.vp (v_ix d_ix (vp_var 0 (pv 0)) (VE.vp (ve_int)))) (vap_nil)))) (VE.vp (ve_int)))) (VE.vp (ve_int))) (vw_or1 (t_cmp (d_eq I.hr.units) (VE.vp (v_blt c_len rfl z_len b_len (vap_cons (vp_var 1 (pv 1)) (vap_nil)))) (VE.vp (ve_int)))))) (vss_one (vs_ret (ve_var 2 (pv 2)))) (vss_nil)) (vss_cons (vs_set (i := 3) wsc__law_x.nd rfl (by first | exact Or.inl rfl | exact Or.inr rfl) (v_ix d_ix (vp_var 1 (pv 1)) (VE.vp (v_op d_mod (VE.vp (v_typ c_int rfl z_int b_int (vap_cons (VE.vp (v_ix d_ix (vp_var 0 (pv 0)) (VE.vp (ve_int)))) (vap_nil)))) (VE.vp (v_blt c_len rfl z_len b_len (vap_cons (vp_var 1 (pv 1)) (vap_nil)))))))) (vss_cons (vs_if (t_cmp (d_ne I.hr.units) (VE.vp (v_blt c_len rfl z_len b_len (vap_cons (vp_var 3 (pv 3)) (vap_nil)))) (VE.vp (ve_int))) (vss_one (vs_ret (ve_var 2 (pv 2)))) (vss_nil)) (vss_one (vs_ret (v_calC C__law_plus I.hr I.gd I.tk (va_cons (v_calC C__law_number I.hr I.gd I.tk (va_cons (v_un d_neg (VE.vp (v_ix d_ix (vp_var 3 (pv 3)) (VE.vp (ve_int))))) (va_cons (v_ix d_ix (vp_var 3 (pv 3)) (VE.vp (ve_int))) (va_nil)))) (va_cons (v_ix d_ix (VE.vp (VO.ve (vo_lst (va_cons (ve_tup (va_cons (ve_int) (va_cons (ve_int) (va_nil)))) (va_cons (ve_tup (va_cons (ve_int) (va_cons (ve_int) (va_nil)))) (va_cons (ve_tup (va_cons (ve_int) (va_cons (ve_int) (va_nil)))) (va_cons (ve_tup (va_cons (v_un d_neg (VE.vp (ve_int))) (va_cons (ve_int) (va_nil)))) (va_nil)))))))) (VE.vp (v_op d_mod (VE.vp (v_typ c_int rfl z_int b_int (vap_cons (VE.vp (v_ix d_ix (vp_var 0 (pv 0)) (VE.vp (ve_int)))) (vap_nil)))) (VE.vp (ve_int))))) (va_nil))))))))))
/-! sign_of -/
abbrev ws_sign_of : Stmt := topS 18
abbrev wN_sign_of : List Str := ["whole"]
theorem wsc_sign_of : FnScope wN_sign_of ["whole"] (defScope ws_sign_of) := ⟨rfl, rfl, rfl, by decide +kernel, rfl, by decide +kernel, by decide +kernel⟩
theorem wd_sign_of {P : Program} {w : World} {K : Fg} {mg : Str → Option Value} {base : Heap} (Fn : Df K mg "sign_of" ws_sign_of ["whole"]) (z_int : mg "int" = none) : Cl P w K mg base 1 "sign_of" ["whole"] m_sign_of :=
  cl_ok Fn wsc_sign_of fun f cdv A outer s H E I => by
    unfold c_sign_of
    exact (vss_one (vs_ret (v_op d_sub (VE.vp (v_typ c_int rfl z_int b_int (vap_cons (VE.vp (v_cmp d_gt (vp_var 0 (pv 0)) (VE.vp (ve_int)))) (vap_nil)))) (VE.vp (v_typ c_int rfl z_int b_int (vap_cons (VE.vp (v_cmp d_lt (vp_var 0 (pv 0)) (VE.vp (ve_int)))) (vap_nil)))))))
/-! number -/
abbrev ws_number : Stmt := topS 3
abbrev wN_number : List Str := ["n", "d", "common"]
theorem wsc_number : FnScope wN_number ["n", "d"] (defScope ws_number) := ⟨rfl, rfl, rfl, by decide +kernel, rfl, by decide +kernel, by decide +kernel⟩
theorem wd_number {P : Program} {w : World} {K : Fg} {mg : Str → Option Value} {base : Heap} (Fn : Df K mg "number" ws_number ["n", "d"]) (G_gcd : mg "gcd" = some (.builtin "math.gcd")) : Cl P w K mg base 1 "number" ["n", "d"] m_number :=
  cl_ok Fn wsc_number fun f cdv A outer s H E I => by
    unfold c_number
    exact (vss_cons (vs_if (t_cmp d_lt (vp_var 1 (pv 1)) (VE.vp (ve_int))) (vss_one (vs_par (i := 0) (j := 1) rfl wsc_number.nd rfl rfl (by decide) rfl rfl (va_cons (v_un d_neg (vp_var 0 (pv 0))) (va_cons (v_un d_neg (vp_var 1 (pv 1))) (va_nil))) (by rfl))) (vss_nil)) (vss_cons (vs_set (i := 2) wsc_number.nd rfl (by first | exact Or.inl rfl | exact Or.inr rfl) (v_fun c_gcd rfl G_gcd (vap_cons (vp_var 0 (pv 0)) (vap_cons (vp_var 1 (pv 1)) (vap_nil))))) (vss_one (vs_ret (ve_tup (va_cons (v_op d_fdiv (vp_var 0 (pv 0)) (vp_var 2 (pv 2))) (va_cons (v_op d_fdiv (vp_var 1 (pv 1)) (vp_var 2 (pv 2))) (va_nil))))))))
/-! plus -/
abbrev ws_plus : Stmt := topS 4
abbrev wN_plus : List Str := ["a", "b"]
theorem wsc_plus : FnScope wN_plus ["a", "b"] (defScope ws_plus) := ⟨rfl, rfl, rfl, by decide +kernel, rfl, by decide +kernel, by decide +kernel⟩
theorem wd_plus {P : Program} {w : World} {K : Fg} {mg : Str → Option Value} {base : Heap} (Fn : Df K mg "plus" ws_plus ["a", "b"]) (C_number : Cl P w K mg base 1 "number" ["n", "d"] m_number) : Cl P w K mg base 2 "plus" ["a", "b"] m_plus :=
  cl_ok Fn wsc_plus fun f cdv A outer s H E I => by
    unfold c_plus
    exact (vss_one (vs_ret (v_calC C_number I.hr I.gd I.tk (va_cons (v_op d_add (VE.vp (v_op d_mul (VE.vp (v_ix d_ix (vp_var 0 (pv 0)) (VE.vp (ve_int)))) (VE.vp (v_ix d_ix (vp_var 1 (pv 1)) (VE.vp (ve_int)))))) (VE.vp (v_op d_mul (VE.vp (v_ix d_ix (vp_var 1 (pv 1)) (VE.vp (ve_int)))) (VE.vp (v_ix d_ix (vp_var 0 (pv 0)) (VE.vp (ve_int))))))) (va_cons (v_op d_mul (VE.vp (v_ix d_ix (vp_var 0 (pv 0)) (VE.vp (ve_int)))) (VE.vp (v_ix d_ix (vp_var 1 (pv 1)) (VE.vp (ve_int))))) (va_nil))))))
/-! times -/
abbrev ws_times : Stmt := topS 5
abbrev wN_times : List Str := ["a", "b"]
theorem wsc_times : FnScope wN_times ["a", "b"] (defScope ws_times) := ⟨rfl, rfl, rfl, by decide +kernel, rfl, by decide +kernel, by decide +kernel⟩
theorem wd_times {P : Program} {w : World} {K : Fg} {mg : Str → Option Value} {base : Heap} (Fn : Df K mg "times" ws_times ["a", "b"]) (C_number : Cl P w K mg base 1 "number" ["n", "d"] m_number) : Cl P w K mg base 2 "times" ["a", "b"] m_times :=
  cl_ok Fn wsc_times fun f cdv A outer s H E I => by
    unfold c_times
    exact (vss_one (vs_ret (v_calC C_number I.hr I.gd I.tk (va_cons (v_op d_mul (VE.vp (v_ix d_ix (vp_var 0 (pv 0)) (VE.vp (ve_int)))) (VE.vp (v_ix d_ix (vp_var 1 (pv 1)) (VE.vp (ve_int))))) (va_cons (v_op d_mul (VE.vp (v_ix d_ix (vp_var 0 (pv 0)) (VE.vp (ve_int)))) (VE.vp (v_ix d_ix (vp_var 1 (pv 1)) (VE.vp (ve_int))))) (va_nil))))))
/-! value_at -/
abbrev ws_value_at : Stmt := topS 13
abbrev wN_value_at : List Str := ["a", "x", "found", "coefficient"]
theorem wsc_value_at : FnScope wN_value_at ["a", "x"] (defScope ws_value_at) := ⟨rfl, rfl, rfl, by decide +kernel, rfl, by decide +kernel, by decide +kernel⟩
theorem wd_value_at {P : Program} {w : World} {K : Fg} {mg : Str → Option Value} {base : Heap} (Fn : Df K mg "value_at" ws_value_at ["a", "x"]) (C_plus : Cl P w K mg base 2 "plus" ["a", "b"] m_plus) (C_times : Cl P w K mg base 2 "times" ["a", "b"] m_times) (G_NOUGHT : VL.Gc K mg "NOUGHT" (.tuple [(.int 0), (.int 1)])) : Cl P w K mg base 3 "value_at" ["a", "x"] m_value_at :=
  cl_ok Fn wsc_value_at fun f cdv A outer s H E I => by
    unfold c_value_at b_value_at_1
    exact (vss_cons (vs_set (i := 2) wsc_value_at.nd rfl (by first | exact Or.inl rfl | exact Or.inr rfl) (v_gl G_NOUGHT)) (vss_cons (vs_for I.hp rfl (vi_seq (VO.ve (v_revO (vp_var 0 (pv 0))))) (vg_name (pg_name (i := 3) wsc_value_at.nd rfl (by first | exact Or.inl rfl | exact Or.inr rfl))) (vss_one (vs_set (i := 2) wsc_value_at.nd rfl (by first | exact Or.inl rfl | exact Or.inr rfl) (v_calC C_plus I.hr I.gd I.tk (va_cons (v_calC C_times I.hr I.gd I.tk (va_cons (ve_var 2 (pv 2)) (va_cons (ve_var 1 (pv 1)) (va_nil)))) (va_cons (ve_tup (va_cons (ve_var 3 (pv 3)) (va_cons (ve_int) (va_nil)))) (va_nil))))))) (vss_one (vs_ret (ve_var 2 (pv 2))))))
/-! sign_at -/
abbrev ws_sign_at : Stmt := topS 19
abbrev wN_sign_at : List Str := ["a", "x"]
theorem wsc_sign_at : FnScope wN_sign_at ["a", "x"] (defScope ws_sign_at) := ⟨rfl, rfl, rfl, by decide +kernel, rfl, by decide +kernel, by decide +kernel⟩
theorem wd_sign_at {P : Program} {w : World} {K : Fg} {mg : Str → Option Value} {base : Heap} (Fn : Df K mg "sign_at" ws_sign_at ["a", "x"]) (C_sign_of : Cl P w K mg base 1 "sign_of" ["whole"] m_sign_of) (C_value_at : Cl P w K mg base 3 "value_at" ["a", "x"] m_value_at) : Cl P w K mg base 4 "sign_at" ["a", "x"] m_sign_at :=
  cl_ok Fn wsc_sign_at fun f cdv A outer s H E I => by
    unfold c_sign_at
    exact (vss_one (vs_ret (v_calC C_sign_of I.hr I.gd I.tk (va_cons (v_ix d_ix (VE.vp (v_calC C_value_at I.hr I.gd I.tk (va_cons (ve_var 0 (pv 0)) (va_cons (ve_var 1 (pv 1)) (va_nil))))) (VE.vp (ve_int))) (va_nil)))))
/-! content -/
abbrev ws_content : Stmt := topS 14
abbrev wN_content : List Str := ["a", "found", "coefficient"]
theorem wsc_content : FnScope wN_content ["a"] (defScope ws_content) := ⟨rfl, rfl, rfl, by decide +kernel, rfl, by decide +kernel, by decide +kernel⟩
theorem wd_content {P : Program} {w : World} {K : Fg} {mg : Str → Option Value} {base : Heap} (Fn : Df K mg "content" ws_content ["a"]) (G_gcd : mg "gcd" = some (.builtin "math.gcd")) : Cl P w K mg base 1 "content" ["a"] m_content :=
  cl_ok Fn wsc_content fun f cdv A outer s H E I => by
    unfold c_content b_content_1
    exact (vss_cons (vs_set (i := 1) wsc_content.nd rfl (by first | exact Or.inl rfl | exact Or.inr rfl) (ve_int)) (vss_cons (vs_for I.hp rfl (vi_seq (ve_var 0 (pv 0))) (vg_name (pg_name (i := 2) wsc_content.nd rfl (by first | exact Or.inl rfl | exact Or.inr rfl))) (vss_one (vs_set (i := 1) wsc_content.nd rfl (by first | exact Or.inl rfl | exact Or.inr rfl) (v_fun c_gcd rfl G_gcd (vap_cons (vp_var 1 (pv 1)) (vap_cons (vp_var 2 (pv 2)) (vap_nil))))))) (vss_one (vs_ret (ve_var 1 (pv 1))))))
/-! bare -/
abbrev ws_bare : Stmt := topS 20
abbrev wN_bare : List Str := ["a", "factor", "coefficient"]
theorem wsc_bare : FnScope wN_bare ["a", "factor"] (defScope ws_bare) := ⟨rfl, rfl, rfl, by decide +kernel, rfl, by decide +kernel, by decide +kernel⟩
theorem wd_bare {P : Program} {w : World} {K : Fg} {mg : Str → Option Value} {base : Heap} (Fn : Df K mg "bare" ws_bare ["a", "factor"]) (C_content : Cl P w K mg base 1 "content" ["a"] m_content) : Cl P w K mg base 2 "bare" ["a", "factor"] m_bare :=
  cl_ok Fn wsc_bare fun f cdv A outer s H E I => by
    unfold c_bare
    exact (vss_one (vs_retO (vo_comp (own := [("coefficient", 2)]) (ts := [2]) rfl wsc_bare.nd (vi_seq (ve_var 0 (pv 0))) (blkOk_by (N := wN_bare) (sc := defScope ws_bare) (by decide +kernel)) (fun _ _ _ _ _ => vg_name (pg_name (i := 2) wsc_bare.nd rfl (by first | exact Or.inl rfl | exact Or.inr rfl))) (fun _ _ _ _ _ => vts_nil) (fun _ _ _ _ _ => v_op d_mul (vp_var 1 (pv 1)) (VE.vp (v_op d_fdiv (vp_var 2 (pv 2)) (VE.vp (v_calC C_content I.hr I.gd takes0 (va_cons (ve_var 0 (pv 0)) (va_nil))))))))))
/-! coefficient_of -/
abbrev ws_coefficient_of : Stmt := topS 8
abbrev wN_coefficient_of : List Str := ["a", "power"]
theorem wsc_coefficient_of : FnScope wN_coefficient_of ["a", "power"] (defScope ws_coefficient_of) := ⟨rfl, rfl, rfl, by decide +kernel, rfl, by decide +kernel, by decide +kernel⟩
theorem wd_coefficient_of {P : Program} {w : World} {K : Fg} {mg : Str → Option Value} {base : Heap} (Fn : Df K mg "coefficient_of" ws_coefficient_of ["a", "power"]) (z_len : mg "len" = none) : Cl P w K mg base 1 "coefficient_of" ["a", "power"] m_coefficient_of :=
  cl_ok Fn wsc_coefficient_of fun f cdv A outer s H E I => by
    unfold c_coefficient_of
    exact (vss_one (vs_ret (ve_ifExp (t_cmp d_lt (vp_var 1 (pv 1)) (VE.vp (v_blt c_len rfl z_len b_len (vap_cons (vp_var 0 (pv 0)) (vap_nil))))) (v_ix d_ix (vp_var 0 (pv 0)) (vp_var 1 (pv 1))) (ve_int))))
/-! trimmed -/
abbrev ws_trimmed : Stmt := topS 7
abbrev wN_trimmed : List Str := ["coefficients", "many"]
theorem wsc_trimmed : FnScope wN_trimmed ["coefficients"] (defScope ws_trimmed) := ⟨rfl, rfl, rfl, by decide +kernel, rfl, by decide +kernel, by decide +kernel⟩
theorem wd_trimmed {P : Program} {w : World} {K : Fg} {mg : Str → Option Value} {base : Heap} (Fn : Df K mg "trimmed" ws_trimmed ["coefficients"]) (z_len : mg "len" = none) : Cl P w K mg base 1 "trimmed" ["coefficients"] m_trimmed :=
  cl_ok Fn wsc_trimmed fun f cdv A outer s H E I => by
    unfold c_trimmed b_trimmed_1
    exact (vss_cons (vs_set (i := 1) wsc_trimmed.nd rfl (by first | exact Or.inl rfl | exact Or.inr rfl) (v_blt c_len rfl z_len b_len (vap_cons (vp_var 0 (pv 0)) (vap_nil)))) (vss_cons (vs_while I.hp (VW.vt (vw_and (t_cmp d_gt (vp_var 1 (pv 1)) (VE.vp (ve_int))) (vw_and1 (t_cmp (d_eq I.hr.units) (VE.vp (v_ix d_ix (vp_var 0 (pv 0)) (VE.vp (v_op d_sub (vp_var 1 (pv 1)) (VE.vp (ve_int)))))) (VE.vp (ve_int)))))) (vss_one (vs_aug (i := 1) wsc_trimmed.nd rfl (by first | exact Or.inl rfl | exact Or.inr rfl) (VE.vp (ve_int)) dip_sub))) (vss_one (vs_ret (v_slice (vp_var 0 (pv 0)) (vpo_none) (vpo_some (ve_var 1 (pv 1))))))))
/-! add -/
abbrev ws_add : Stmt := topS 9
abbrev wN_add : List Str := ["a", "b", "many", "k"]
theorem wsc_add : FnScope wN_add ["a", "b"] (defScope ws_add) := ⟨rfl, rfl, rfl, by decide +kernel, rfl, by decide +kernel, by decide +kernel⟩
theorem wd_add {P : Program} {w : World} {K : Fg} {mg : Str → Option Value} {base : Heap} (Fn : Df K mg "add" ws_add ["a", "b"]) (C_trimmed : Cl P w K mg base 1 "trimmed" ["coefficients"] m_trimmed) (C_coefficient_of : Cl P w K mg base 1 "coefficient_of" ["a", "power"] m_coefficient_of) (z_max : mg "max" = none) (z_len : mg "len" = none) (z_range : mg "range" = none) : Cl P w K mg base 2 "add" ["a", "b"] m_add :=
  cl_ok Fn wsc_add fun f cdv A outer s H E I => by
    unfold c_add
    exact (vss_cons (vs_set (i := 2) wsc_add.nd rfl (by first | exact Or.inl rfl | exact Or.inr rfl) (v_blt (c_max rfl) rfl z_max b_max (vap_cons (VE.vp (v_blt c_len rfl z_len b_len (vap_cons (vp_var 0 (pv 0)) (vap_nil)))) (vap_cons (VE.vp (v_blt c_len rfl z_len b_len (vap_cons (vp_var 1 (pv 1)) (vap_nil)))) (vap_nil))))) (vss_one (vs_ret (v_calC C_trimmed I.hr I.gd I.tk (va_cons (VO.ve (vo_comp (own := [("k", 3)]) (ts := [3]) rfl wsc_add.nd (vi_range1 rfl z_range (vap_cons (vp_var 2 (pv 2)) (vap_nil))) (blkOk_by (N := wN_add) (sc := defScope ws_add) (by decide +kernel)) (fun _ _ _ _ _ => vg_name (pg_name (i := 3) wsc_add.nd rfl (by first | exact Or.inl rfl | exact Or.inr rfl))) (fun _ _ _ _ _ => vts_nil) (fun _ _ _ _ _ => v_op d_add (VE.vp (v_calC C_coefficient_of I.hr I.gd takes0 (va_cons (ve_var 0 (pv 0)) (va_cons (ve_var 3 (pv 3)) (va_nil))))) (VE.vp (v_calC C_coefficient_of I.hr I.gd takes0 (va_cons (ve_var 1 (pv 1)) (va_cons (ve_var 3 (pv 3)) (va_nil)))))))) (va_nil))))))
/-! scale -/
abbrev ws_scale : Stmt := topS 10
abbrev wN_scale : List Str := ["a", "factor", "coefficient"]
theorem wsc_scale : FnScope wN_scale ["a", "factor"] (defScope ws_scale) := ⟨rfl, rfl, rfl, by decide +kernel, rfl, by decide +kernel, by decide +kernel⟩
theorem wd_scale {P : Program} {w : World} {K : Fg} {mg : Str → Option Value} {base : Heap} (Fn : Df K mg "scale" ws_scale ["a", "factor"]) (C_trimmed : Cl P w K mg base 1 "trimmed" ["coefficients"] m_trimmed) : Cl P w K mg base 2 "scale" ["a", "factor"] m_scale :=
  cl_ok Fn wsc_scale fun f cdv A outer s H E I => by
    unfold c_scale
    exact (vss_one (vs_ret (v_calC C_trimmed I.hr I.gd I.tk (va_cons (VO.ve (vo_comp (own := [("coefficient", 2)]) (ts := [2]) rfl wsc_scale.nd (vi_seq (ve_var 0 (pv 0))) (blkOk_by (N := wN_scale) (sc := defScope ws_scale) (by decide +kernel)) (fun _ _ _ _ _ => vg_name (pg_name (i := 2) wsc_scale.nd rfl (by first | exact Or.inl rfl | exact Or.inr rfl))) (fun _ _ _ _ _ => vts_nil) (fun _ _ _ _ _ => v_op d_mul (vp_var 2 (pv 2)) (vp_var 1 (pv 1))))) (va_nil)))))
/-! subtract -/
abbrev ws_subtract : Stmt := topS 11
abbrev wN_subtract : List Str := ["a", "b"]
theorem wsc_subtract : FnScope wN_subtract ["a", "b"] (defScope ws_subtract) := ⟨rfl, rfl, rfl, by decide +kernel, rfl, by decide +kernel, by decide +kernel⟩
theorem wd_subtract {P : Program} {w : World} {K : Fg} {mg : Str → Option Value} {base : Heap} (Fn : Df K mg "subtract" ws_subtract ["a", "b"]) (C_add : Cl P w K mg base 2 "add" ["a", "b"] m_add) (C_scale : Cl P w K mg base 2 "scale" ["a", "factor"] m_scale) : Cl P w K mg base 3 "subtract" ["a", "b"] m_subtract :=
  cl_ok Fn wsc_subtract fun f cdv A outer s H E I => by
    unfold c_subtract
    exact (vss_one (vs_ret (v_calC C_add I.hr I.gd I.tk (va_cons (ve_var 0 (pv 0)) (va_cons (v_calC C_scale I.hr I.gd I.tk (va_cons (ve_var 1 (pv 1)) (va_cons (v_un d_neg (VE.vp (ve_int))) (va_nil)))) (va_nil))))))
/-! shifted -/
abbrev ws_shifted : Stmt := topS 15
abbrev wN_shifted : List Str := ["a", "by"]
theorem wsc_shifted : FnScope wN_shifted ["a", "by"] (defScope ws_shifted) := ⟨rfl, rfl, rfl, by decide +kernel, rfl, by decide +kernel, by decide +kernel⟩
theorem wd_shifted {P : Program} {w : World} {K : Fg} {mg : Str → Option Value} {base : Heap} (Fn : Df K mg "shifted" ws_shifted ["a", "by"]) : Cl P w K mg base 1 "shifted" ["a", "by"] m_shifted :=
  cl_ok Fn wsc_shifted fun f cdv A outer s H E I => by
    unfold c_shifted
    exact (vss_one (vs_ret (ve_ifExp (t_tru (vp_var 0 (pv 0))) (v_op d_add (VE.vp (v_op d_mul (VE.vp (VO.ve (vo_lst (va_cons (ve_int) (va_nil))))) (vp_var 1 (pv 1)))) (vp_var 0 (pv 0))) (VO.ve (vo_lst (va_nil))))))
/-! false_rest -/
abbrev ws_false_rest : Stmt := topS 16
abbrev wN_false_rest : List Str := ["a", "b", "rest", "lead", "step", "by", "top"]
theorem wsc_false_rest : FnScope wN_false_rest ["a", "b"] (defScope ws_false_rest) := ⟨rfl, rfl, rfl, by decide +kernel, rfl, by decide +kernel, by decide +kernel⟩
theorem wd_false_rest {P : Program} {w : World} {K : Fg} {mg : Str → Option Value} {base : Heap} (Fn : Df K mg "false_rest" ws_false_rest ["a", "b"]) (C_coefficient_of : Cl P w K mg base 1 "coefficient_of" ["a", "power"] m_coefficient_of) (C_subtract : Cl P w K mg base 3 "subtract" ["a", "b"] m_subtract) (C_shifted : Cl P w K mg base 1 "shifted" ["a", "by"] m_shifted) (C_scale : Cl P w K mg base 2 "scale" ["a", "factor"] m_scale) (z_len : mg "len" = none) (z_list : mg "list" = none) (z_range : mg "range" = none) : Cl P w K mg base 4 "false_rest" ["a", "b"] m_false_rest :=
  cl_ok Fn wsc_false_rest fun f cdv A outer s H E I => by
    unfold c_false_rest b_false_rest_1
    exact (vss_cons (vs_if (t_cmp d_lt (VE.vp (v_blt c_len rfl z_len b_len (vap_cons (vp_var 0 (pv 0)) (vap_nil)))) (VE.vp (v_blt c_len rfl z_len b_len (vap_cons (vp_var 1 (pv 1)) (vap_nil))))) (vss_one (vs_retO (v_typO c_listO rfl z_list b_list (vap_cons (vp_var 0 (pv 0)) (vap_nil))))) (vss_nil)) (vss_cons (vs_set (i := 2) wsc_false_rest.nd rfl (by first | exact Or.inl rfl | exact Or.inr rfl) (VO.ve (v_typO c_listO rfl z_list b_list (vap_cons (vp_var 0 (pv 0)) (vap_nil))))) (vss_cons (vs_set (i := 3) wsc_false_rest.nd rfl (by first | exact Or.inl rfl | exact Or.inr rfl) (v_ix d_ix (vp_var 1 (pv 1)) (VE.vp (v_un d_neg (VE.vp (ve_int)))))) (vss_cons (vs_for I.hp rfl (vi_range1 rfl z_range (vap_cons (VE.vp (v_op d_add (VE.vp (v_op d_sub (VE.vp (v_blt c_len rfl z_len b_len (vap_cons (vp_var 0 (pv 0)) (vap_nil)))) (VE.vp (v_blt c_len rfl z_len b_len (vap_cons (vp_var 1 (pv 1)) (vap_nil)))))) (VE.vp (ve_int)))) (vap_nil))) (vg_name (pg_name (i := 4) wsc_false_rest.nd rfl (by first | exact Or.inl rfl | exact Or.inr rfl))) (vss_cons (vs_set (i := 5) wsc_false_rest.nd rfl (by first | exact Or.inl rfl | exact Or.inr rfl) (v_op d_sub (VE.vp (v_op d_sub (VE.vp (v_blt c_len rfl z_len b_len (vap_cons (vp_var 0 (pv 0)) (vap_nil)))) (VE.vp (v_blt c_len rfl z_len b_len (vap_cons (vp_var 1 (pv 1)) (vap_nil)))))) (vp_var 4 (pv 4)))) (vss_cons (vs_set (i := 6) wsc_false_rest.nd rfl (by first | exact Or.inl rfl | exact Or.inr rfl) (v_calC C_coefficient_of I.hr I.gd I.tk (va_cons (ve_var 2 (pv 2)) (va_cons (v_op d_sub (VE.vp (v_op d_add (vp_var 5 (pv 5)) (VE.vp (v_blt c_len rfl z_len b_len (vap_cons (vp_var 1 (pv 1)) (vap_nil)))))) (VE.vp (ve_int))) (va_nil))))) (vss_one (vs_set (i := 2) wsc_false_rest.nd rfl (by first | exact Or.inl rfl | exact Or.inr rfl) (v_calC C_subtract I.hr I.gd I.tk (va_cons (v_calC C_scale I.hr I.gd I.tk (va_cons (ve_var 2 (pv 2)) (va_cons (ve_var 3 (pv 3)) (va_nil)))) (va_cons (v_calC C_shifted I.hr I.gd I.tk (va_cons (v_calC C_scale I.hr I.gd I.tk (va_cons (ve_var 1 (pv 1)) (va_cons (ve_var 6 (pv 6)) (va_nil)))) (va_cons (ve_var 5 (pv 5)) (va_nil)))) (va_nil))))))))) (vss_one (vs_ret (ve_var 2 (pv 2))))))))
/-! derivative -/
abbrev ws_derivative : Stmt := topS 12
abbrev wN_derivative : List Str := ["a", "power"]
theorem wsc_derivative : FnScope wN_derivative ["a"] (defScope ws_derivative) := ⟨rfl, rfl, rfl, by decide +kernel, rfl, by decide +kernel, by decide +kernel⟩
theorem wd_derivative {P : Program} {w : World} {K : Fg} {mg : Str → Option Value} {base : Heap} (Fn : Df K mg "derivative" ws_derivative ["a"]) (z_range : mg "range" = none) (z_len : mg "len" = none) : Cl P w K mg base 1 "derivative" ["a"] m_derivative :=
  cl_ok Fn wsc_derivative fun f cdv A outer s H E I => by
    unfold c_derivative
    exact (vss_one (vs_retO (vo_comp (own := [("power", 1)]) (ts := [1]) rfl wsc_derivative.nd (vi_range2 rfl z_range (vap_cons (VE.vp (ve_int)) (vap_cons (VE.vp (v_blt c_len rfl z_len b_len (vap_cons (vp_var 0 (pv 0)) (vap_nil)))) (vap_nil)))) (blkOk_by (N := wN_derivative) (sc := defScope ws_derivative) (by decide +kernel)) (fun _ _ _ _ _ => vg_name (pg_name (i := 1) wsc_derivative.nd rfl (by first | exact Or.inl rfl | exact Or.inr rfl))) (fun _ _ _ _ _ => vts_nil) (fun _ _ _ _ _ => v_op d_mul (VE.vp (v_ix d_ix (vp_var 0 (pv 0)) (vp_var 1 (pv 1)))) (vp_var 1 (pv 1))))))
/-! chain_of__N -/
abbrev ws_chain_of__N : Stmt := topS 21
abbrev wN_chain_of__N : List Str := ["p", "chain", "a", "b", "rest", "turned"]
theorem wsc_chain_of__N : FnScope wN_chain_of__N ["p"] (defScope ws_chain_of__N) := ⟨rfl, rfl, rfl, by decide +kernel, rfl, by decide +kernel, by decide +kernel⟩
theorem wd_chain_of__N {P : Program} {w : World} {K : Fg} {mg : Str → Option Value} {base : Heap} (Fn : Df K mg "chain_of" ws_chain_of__N ["p"]) (C_bare : Cl P w K mg base 2 "bare" ["a", "factor"] m_bare) (C_derivative : Cl P w K mg base 1 "derivative" ["a"] m_derivative) (C_false_rest : Cl P w K mg base 4 "false_rest" ["a", "b"] m_false_rest) (z_len : mg "len" = none) : Cl P w K mg base 5 "chain_of" ["p"] m_chain_of__N :=
  cl_ok Fn wsc_chain_of__N fun f cdv A outer s H E I => by
    unfold c_chain_of__N b_chain_of__N_1
    exact (vss_cons (vs_setO (i := 1) wsc_chain_of__N.nd rfl (by first | exact Or.inl rfl | exact Or.inr rfl) (vo_lst (va_cons (VO.vn (v_calCO C_bare I.hr I.gd I.tk (va_cons (VE.un (ve_var 0 (pv 0))) (va_cons (ve_int) (va_nil))))) (va_cons (VO.vn (v_calCO C_bare I.hr I.gd I.tk (va_cons (v_calC C_derivative I.hr I.gd I.tk (va_cons (VE.un (ve_var 0 (pv 0))) (va_nil))) (va_cons (ve_int) (va_nil))))) (va_nil))))) (vss_one (vs_while I.hp (t_tru (VE.vp (ve_bl))) (vss_cons (vs_asg (v_slice (VP.un (vp_var 1 (pv 1))) (vpo_some (v_un d_neg (VE.vp (ve_int)))) (vpo_none)) (vg_tup rfl (vgs_cons (vg_name (pg_name (i := 2) wsc_chain_of__N.nd rfl (by first | exact Or.inl rfl | exact Or.inr rfl))) (vgs_cons (vg_name (pg_name (i := 3) wsc_chain_of__N.nd rfl (by first | exact Or.inl rfl | exact Or.inr rfl))) (vgs_nil))))) (vss_cons (vs_set (i := 4) wsc_chain_of__N.nd rfl (by first | exact Or.inl rfl | exact Or.inr rfl) (v_calC C_false_rest I.hr I.gd I.tk (va_cons (VE.un (ve_var 2 (pv 2))) (va_cons (VE.un (ve_var 3 (pv 3))) (va_nil))))) (vss_cons (vs_if (vt_not (t_tru (VP.un (vp_var 4 (pv 4))))) (vss_one (vs_retV 1 (pv 1))) (vss_nil)) (vss_cons (vs_set (i := 5) wsc_chain_of__N.nd rfl (by first | exact Or.inl rfl | exact Or.inr rfl) (v_or (v_cmp d_gt (VE.vp (v_ix d_ix (VP.un (vp_var 3 (pv 3))) (VE.vp (v_un d_neg (VE.vp (ve_int)))))) (VE.vp (ve_int))) (v_or1 (v_cmp (d_eq I.hr.units) (VE.vp (v_op d_mod (VE.vp (v_op d_sub (VE.vp (v_blt c_len rfl z_len b_len (vap_cons (VP.un (vp_var 2 (pv 2))) (vap_nil)))) (VE.vp (v_blt c_len rfl z_len b_len (vap_cons (VP.un (vp_var 3 (pv 3))) (vap_nil)))))) (VE.vp (ve_int)))) (VE.vp (ve_int)))))) (vss_one (vs_app 1 (pv 1) (VO.vn (v_calCO C_bare I.hr I.gd I.tk (va_cons (VE.un (ve_var 4 (pv 4))) (va_cons (ve_ifExp (t_tru (VP.un (vp_var 5 (pv 5)))) (v_un d_neg (VE.vp (ve_int))) (ve_int)) (va_nil))))))))))))))
/-! _law_is_whole -/
abbrev ws__law_is_whole : Stmt := topS 47
abbrev wN__law_is_whole : List Str := ["_law_value"]
theorem wsc__law_is_whole : FnScope wN__law_is_whole ["_law_value"] (defScope ws__law_is_whole) := ⟨rfl, rfl, rfl, by decide +kernel, rfl, by decide +kernel, by decide +kernel⟩
theorem wd__law_is_whole {P : Program} {w : World} {K : Fg} {mg : Str → Option Value} {base : Heap} (Fn : Df K mg "_law_is_whole" ws__law_is_whole ["_law_value"]) (z_isinstance : mg "isinstance" = none) (z_bool : mg "bool" = none) (z_int : mg "int" = none) : Cl P w K mg base 1 "_law_is_whole" ["_law_value"] m__law_is_whole :=
  cl_ok Fn wsc__law_is_whole fun f cdv A outer s H E I => by
    unfold c__law_is_whole
    exact (vss_one (vs_ret (v_and (v_isi rfl z_isinstance b_isinstance (vp_var 0 (pv 0)) (pe_bltn rfl z_int b_int rfl)) (v_and1 (v_not (VE.vp (v_isi rfl z_isinstance b_isinstance (vp_var 0 (pv 0)) (pe_bltn rfl z_bool b_bool rfl))))))))
/-! _law_sign -/
abbrev ws__law_sign : Stmt := topS 37
abbrev wN__law_sign : List Str := ["_law_n"]
theorem wsc__law_sign : FnScope wN__law_sign ["_law_n"] (defScope ws__law_sign) := ⟨rfl, rfl, rfl, by decide +kernel, rfl, by decide +kernel, by decide +kernel⟩
theorem wd__law_sign {P : Program} {w : World} {K : Fg} {mg : Str → Option Value} {base : Heap} (Fn : Df K mg "_law_sign" ws__law_sign ["_law_n"]) (z_int : mg "int" = none) : Cl P w K mg base 1 "_law_sign" ["_law_n"] m_sign_of :=
  cl_ok Fn wsc__law_sign fun f cdv A outer s H E I => by
    unfold c_sign_of
    exact (vss_one (vs_ret (v_op d_sub (VE.vp (v_typ c_int rfl z_int b_int (vap_cons (VE.vp (v_cmp d_gt (vp_var 0 (pv 0)) (VE.vp (ve_int)))) (vap_nil)))) (VE.vp (v_typ c_int rfl z_int b_int (vap_cons (VE.vp (v_cmp d_lt (vp_var 0 (pv 0)) (VE.vp (ve_int)))) (vap_nil)))))))
/-! _law_times -/
abbrev ws__law_times : Stmt := topS 27
abbrev wN__law_times : List Str := ["_law_a", "_law_b"]
theorem wsc__law_times : FnScope wN__law_times ["_law_a", "_law_b"] (defScope ws__law_times) := ⟨rfl, rfl, rfl, by decide +kernel, rfl, by decide +kernel, by decide +kernel⟩
theorem wd__law_times {P : Program} {w : World} {K : Fg} {mg : Str → Option Value} {base : Heap} (Fn : Df K mg "_law_times" ws__law_times ["_law_a", "_law_b"]) (C__law_number : Cl P w K mg base 2 "_law_number" ["_law_n", "_law_d"] m__law_number_k18) : Cl P w K mg base 3 "_law_times" ["_law_a", "_law_b"] m__law_times_k17 :=
  cl_ok Fn wsc__law_times fun f cdv A outer s H E I => by
    unfold c__law_times_k17
    exact (vss_one (vs_ret (v_calC C__law_number I.hr I.gd I.tk (va_cons (v_op d_mul (VE.vp (v_ix d_ix (vp_var 0 (pv 0)) (VE.vp (ve_int)))) (VE.vp (v_ix d_ix (vp_var 1 (pv 1)) (VE.vp (ve_int))))) (va_cons (v_op d_mul (VE.vp (v_ix d_ix (vp_var 0 (pv 0)) (VE.vp (ve_int)))) (VE.vp (v_ix d_ix (vp_var 1 (pv 1)) (VE.vp (ve_int))))) (va_nil))))))
/-! _law_at -/
abbrev ws__law_at : Stmt := topS 36
abbrev wN__law_at : List Str := ["_law_a", "_law_x_here", "_law_found", "_law_k"]
theorem wsc__law_at : FnScope wN__law_at ["_law_a", "_law_x_here"] (defScope ws__law_at) := ⟨rfl, rfl, rfl, by decide +kernel, rfl, by decide +kernel, by decide +kernel⟩
theorem wd__law_at {P : Program} {w : World} {K : Fg} {mg : Str → Option Value} {base : Heap} (Fn : Df K mg "_law_at" ws__law_at ["_law_a", "_law_x_here"]) (C__law_plus : Cl P w K mg base 3 "_law_plus" ["_law_a", "_law_b"] m__law_plus_k18) (C__law_times : Cl P w K mg base 3 "_law_times" ["_law_a", "_law_b"] m__law_times_k17) (z_range : mg "range" = none) (z_len : mg "len" = none) : Cl P w K mg base 4 "_law_at" ["_law_a", "_law_x_here"] m__law_at_k17 :=
  cl_ok Fn wsc__law_at fun f cdv A outer s H E I => by
    unfold c__law_at_k17 b__law_at_k17_1
    exact (vss_cons (vs_set (i := 2) wsc__law_at.nd rfl (by first | exact Or.inl rfl | exact Or.inr rfl) (ve_tup (va_cons (ve_int) (va_cons (ve_int) (va_nil))))) (vss_cons (vs_for I.hp rfl (vi_range1 rfl z_range (vap_cons (VE.vp (v_blt c_len rfl z_len b_len (vap_cons (vp_var 0 (pv 0)) (vap_nil)))) (vap_nil))) (vg_name (pg_name (i := 3) wsc__law_at.nd rfl (by first | exact Or.inl rfl | exact Or.inr rfl))) (vss_one (vs_set (i := 2) wsc__law_at.nd rfl (by first | exact Or.inl rfl | exact Or.inr rfl) (v_calC C__law_plus I.hr I.gd I.tk (va_cons (v_calC C__law_times I.hr I.gd I.tk (va_cons (ve_var 2 (pv 2)) (va_cons (ve_var 1 (pv 1)) (va_nil)))) (va_cons (ve_tup (va_cons (v_ix d_ix (vp_var 0 (pv 0)) (VE.vp (v_op d_sub (VE.vp (v_op d_sub (VE.vp (v_blt c_len rfl z_len b_len (vap_cons (vp_var 0 (pv 0)) (vap_nil)))) (VE.vp (ve_int)))) (vp_var 3 (pv 3))))) (va_cons (ve_int) (va_nil)))) (va_nil))))))) (vss_one (vs_ret (ve_var 2 (pv 2))))))
/-! _law_sign_at -/
abbrev ws__law_sign_at : Stmt := topS 38
abbrev wN__law_sign_at : List Str := ["_law_a", "_law_x_here"]
theorem wsc__law_sign_at : FnScope wN__law_sign_at ["_law_a", "_law_x_here"] (defScope ws__law_sign_at) := ⟨rfl, rfl, rfl, by decide +kernel, rfl, by decide +kernel, by decide +kernel⟩
theorem wd__law_sign_at {P : Program} {w : World} {K : Fg} {mg : Str → Option Value} {base : Heap} (Fn : Df K mg "_law_sign_at" ws__law_sign_at ["_law_a", "_law_x_here"]) (C__law_sign : Cl P w K mg base 1 "_law_sign" ["_law_n"] m_sign_of) (C__law_at : Cl P w K mg base 4 "_law_at" ["_law_a", "_law_x_here"] m__law_at_k17) : Cl P w K mg base 5 "_law_sign_at" ["_law_a", "_law_x_here"] m__law_sign_at :=
  cl_ok Fn wsc__law_sign_at fun f cdv A outer s H E I => by
    unfold c__law_sign_at
    exact (vss_one (vs_ret (v_calC C__law_sign I.hr I.gd I.tk (va_cons (v_ix d_ix (VE.vp (v_calC C__law_at I.hr I.gd I.tk (va_cons (ve_var 0 (pv 0)) (va_cons (ve_var 1 (pv 1)) (va_nil))))) (VE.vp (ve_int))) (va_nil)))))
/-! law -/
abbrev ws_law : Stmt := topS 51
abbrev wN_law : List Str := ["_law_script", "_law_draws_here", "_law_p", "_law_factors_here", "_law_kept", "_law_k", "_law_x_here", "_law_actual", "_law_due", "_law_turn"]
theorem wsc_law : FnScope wN_law ["_law_script"] (defScope ws_law) := ⟨rfl, rfl, rfl, by decide +kernel, rfl, by decide +kernel, by decide +kernel⟩
theorem wd_law {P : Program} {w : World} {K : Fg} {mg : Str → Option Value} {base : Heap} {f : Addr} {fd : FuncData} (Fn : Fun K "law" "law" ws_law f fd) (C__law_draws : Cl P w K mg base 1 "_law_draws" ["_law_script", "_law_count_here"] m__law_draws) (C__law_polynomial : Cl P w K mg base 4 "_law_polynomial" ["_law_draws_here", "_law_most"] m__law_polynomial) (C__law_x : Cl P w K mg base 4 "_law_x" ["_law_draws_here", "_law_factors_here"] m__law_x) (C_sign_at : Cl P w K mg base 4 "sign_at" ["a", "x"] m_sign_at) (C__law_sign_at : Cl P w K mg base 5 "_law_sign_at" ["_law_a", "_law_x_here"] m__law_sign_at) (C__law_is_whole : Cl P w K mg base 1 "_law_is_whole" ["_law_value"] m__law_is_whole) (C__law_chain : Cl P w K mg base 4 "_law_chain" ["_law_p"] m__law_chain) (C_chain_of__N : Cl P w K mg base 5 "chain_of" ["p"] m_chain_of__N) (z_list : mg "list" = none) (z_range : mg "range" = none) (z_isinstance : mg "isinstance" = none) : DOk P w K mg base 6 f fd ["_law_script"] m_law :=
  def_ok Fn wsc_law fun cdv A outer s H E I => by
    unfold c_law b_law_4 b_law_3 b_law_2 b_law_1
    exact (vss_cons (vs_set (i := 1) wsc_law.nd rfl (by first | exact Or.inl rfl | exact Or.inr rfl) (v_calC C__law_draws I.hr I.gd I.tk (va_cons (ve_var 0 (pv 0)) (va_cons (ve_int) (va_nil))))) (vss_cons (vs_asg (v_calC C__law_polynomial I.hr I.gd I.tk (va_cons (ve_var 1 (pv 1)) (va_cons (ve_int) (va_nil)))) (vg_tup rfl (vgs_cons (vg_name (pg_name (i := 2) wsc_law.nd rfl (by first | exact Or.inl rfl | exact Or.inr rfl))) (vgs_cons (vg_name (pg_name (i := 3) wsc_law.nd rfl (by first | exact Or.inl rfl | exact Or.inr rfl))) (vgs_nil))))) (vss_cons (vs_set (i := 4) wsc_law.nd rfl (by first | exact Or.inl rfl | exact Or.inr rfl) (VO.ve (v_typO c_listO rfl z_list b_list (vap_cons (vp_var 2 (pv 2)) (vap_nil))))) (vss_cons (vs_for I.hp rfl (vi_range1 rfl z_range (vap_cons (VE.vp (ve_int)) (vap_nil))) (vg_name (pg_name (i := 5) wsc_law.nd rfl (by first | exact Or.inl rfl | exact Or.inr rfl))) (vss_cons (vs_set (i := 6) wsc_law.nd rfl (by first | exact Or.inl rfl | exact Or.inr rfl) (v_calC C__law_x I.hr I.gd I.tk (va_cons (v_slice (vp_var 1 (pv 1)) (vpo_some (v_op d_add (VE.vp (ve_int)) (VE.vp (v_op d_mul (VE.vp (ve_int)) (vp_var 5 (pv 5)))))) (vpo_some (v_op d_add (VE.vp (ve_int)) (VE.vp (v_op d_mul (VE.vp (ve_int)) (vp_var 5 (pv 5))))))) (va_cons (ve_var 3 (pv 3)) (va_nil))))) (vss_cons (vs_set (i := 7) wsc_law.nd rfl (by first | exact Or.inl rfl | exact Or.inr rfl) (v_calC C_sign_at I.hr I.gd I.tk (va_cons (ve_var 2 (pv 2)) (va_cons (ve_var 6 (pv 6)) (va_nil))))) (vss_one (vs_if (VW.vt (vw_or (vt_not (t_tru (VE.vp (v_calC C__law_is_whole I.hr I.gd I.tk (va_cons (ve_var 7 (pv 7)) (va_nil)))))) (vw_or1 (t_cmp (d_ne I.hr.units) (vp_var 7 (pv 7)) (VE.vp (v_calC C__law_sign_at I.hr I.gd I.tk (va_cons (ve_var 2 (pv 2)) (va_cons (ve_var 6 (pv 6)) (va_nil))))))))) (vss_one (vs_ret (ve_bl))) (vss_nil)))))) (vss_cons (vs_set (i := 8) wsc_law.nd rfl (by first | exact Or.inl rfl | exact Or.inr rfl) (v_calC C__law_chain I.hr I.gd I.tk (va_cons (ve_var 2 (pv 2)) (va_nil)))) (vss_color (vsc_reg (vsf_for (W := fun cls d _ H => E cls d H) I.hp rfl (vir_range1 (W := fun cls d _ H => E cls d H) rfl z_range (vap_cons (VE.vp (ve_int)) (vap_nil))) (vg_name (pg_name (i := 9) wsc_law.nd rfl (by first | exact Or.inl rfl | exact Or.inr rfl))) (vssf_cons (vsf_of (W := fun cls d _ H => E cls d H) (vs_set (i := 7) wsc_law.nd rfl (by first | exact Or.inl rfl | exact Or.inr rfl) (VO.vn (v_calCO C_chain_of__N I.hr I.gd I.tk (va_cons (VE.un (ve_var 2 (pv 2))) (va_nil)))))) (vssf_cons (vsf_of (W := fun cls d _ H => E cls d H) (vs_if (VW.vt (vw_or (vt_not (t_tru (VE.vp (v_isi rfl z_isinstance b_isinstance (VP.un (vp_var 7 (pv 7))) (pe_bltn rfl z_list b_list rfl))))) (vw_or1 (t_cmp (d_ne I.hr.units) (VP.un (vp_var 7 (pv 7))) (VP.un (vp_var 8 (pv 8))))))) (vss_one (vs_ret (ve_bl))) (vss_nil))) (vssf_sp2 (ps_expr (pe_bm PySem.F.plainAttrs_list PySem.F.slot_list_append PySem.F.type_list_append mt_append (pe_ix ix_list (pv 7) pe_int (fun _ _ => rfl)) (pa_cons pe_int pa_nil))) (ps_expr (pe_bm PySem.F.plainAttrs_list PySem.F.slot_list_append PySem.F.type_list_append mt_append (pv 7) (pa_cons (pe_lst (pa_cons pe_int pa_nil)) pa_nil))) appC_sim)))) (vsc_of (vss_one (vs_ret (v_and (v_cmp (d_eq I.hr.units) (VE.vp (v_calC C_sign_at I.hr I.gd I.tk (va_cons (VO.ve (vo_lst (va_nil))) (va_cons (ve_tup (va_cons (ve_int) (va_cons (ve_int) (va_nil)))) (va_nil))))) (VE.vp (ve_int))) (v_and1 (v_cmp (d_eq I.hr.units) (VP.un (vp_var 2 (pv 2))) (VP.un (vp_var 4 (pv 4))))))))))))))))
/-! the end -/
theorem all_mk {P : Program} {w : World} {K : Fg} {h : Heap} {mg : Str → Option Value} {fa : Addr} (X : K.In h) (G : h.Ns mainGlobals mg) (hfa : mg "law" = some (.ref fa))
    {f0 : Addr} {od0 an0 : Option Addr} {sl0 : Array (Option Value)} {oc0 kV0 dc0 pm0 cd0 ct0 : Value}
    (a0 : PySem.W.nsIn K mainGlobals "_law_draws" = some (some (.ref f0))) (l0 : K.lookup f0 = some ⟨oc0, od0, .func (PySem.W.fnOf "_law_draws" "_law_draws" (defArgs ws__law_draws) (defBody ws__law_draws) (defScope ws__law_draws) .none kV0 dc0 pm0 an0 cd0 ct0), sl0⟩) (c0 : PySem.W.codeIn K cd0 "_law_draws" = true) (k0 : PySem.W.keepIn K (.ref f0) = true)
    {f1 : Addr} {od1 an1 : Option Addr} {sl1 : Array (Option Value)} {oc1 kV1 dc1 pm1 cd1 ct1 : Value}
    (a1 : PySem.W.nsIn K mainGlobals "_law_factors" = some (some (.ref f1))) (l1 : K.lookup f1 = some ⟨oc1, od1, .func (PySem.W.fnOf "_law_factors" "_law_factors" (defArgs ws__law_factors) (defBody ws__law_factors) (defScope ws__law_factors) .none kV1 dc1 pm1 an1 cd1 ct1), sl1⟩) (c1 : PySem.W.codeIn K cd1 "_law_factors" = true) (k1 : PySem.W.keepIn K (.ref f1) = true)
    {f2 : Addr} {od2 an2 : Option Addr} {sl2 : Array (Option Value)} {oc2 kV2 dc2 pm2 cd2 ct2 : Value}
    (a2 : PySem.W.nsIn K mainGlobals "_law_drawn" = some (some (.ref f2))) (l2 : K.lookup f2 = some ⟨oc2, od2, .func (PySem.W.fnOf "_law_drawn" "_law_drawn" (defArgs ws__law_drawn) (defBody ws__law_drawn) (defScope ws__law_drawn) .none kV2 dc2 pm2 an2 cd2 ct2), sl2⟩) (c2 : PySem.W.codeIn K cd2 "_law_drawn" = true) (k2 : PySem.W.keepIn K (.ref f2) = true)
    {f3 : Addr} {od3 an3 : Option Addr} {sl3 : Array (Option Value)} {oc3 kV3 dc3 pm3 cd3 ct3 : Value}
    (a3 : PySem.W.nsIn K mainGlobals "_law_trim" = some (some (.ref f3))) (l3 : K.lookup f3 = some ⟨oc3, od3, .func (PySem.W.fnOf "_law_trim" "_law_trim" (defArgs ws__law_trim) (defBody ws__law_trim) (defScope ws__law_trim) .none kV3 dc3 pm3 an3 cd3 ct3), sl3⟩) (c3 : PySem.W.codeIn K cd3 "_law_trim" = true) (k3 : PySem.W.keepIn K (.ref f3) = true)
    {f4 : Addr} {od4 an4 : Option Addr} {sl4 : Array (Option Value)} {oc4 kV4 dc4 pm4 cd4 ct4 : Value}
    (a4 : PySem.W.nsIn K mainGlobals "_law_mul" = some (some (.ref f4))) (l4 : K.lookup f4 = some ⟨oc4, od4, .func (PySem.W.fnOf "_law_mul" "_law_mul" (defArgs ws__law_mul) (defBody ws__law_mul) (defScope ws__law_mul) .none kV4 dc4 pm4 an4 cd4 ct4), sl4⟩) (c4 : PySem.W.codeIn K cd4 "_law_mul" = true) (k4 : PySem.W.keepIn K (.ref f4) = true)
    {f5 : Addr} {od5 an5 : Option Addr} {sl5 : Array (Option Value)} {oc5 kV5 dc5 pm5 cd5 ct5 : Value}
    (a5 : PySem.W.nsIn K mainGlobals "_law_product" = some (some (.ref f5))) (l5 : K.lookup f5 = some ⟨oc5, od5, .func (PySem.W.fnOf "_law_product" "_law_product" (defArgs ws__law_product) (defBody ws__law_product) (defScope ws__law_product) .none kV5 dc5 pm5 an5 cd5 ct5), sl5⟩) (c5 : PySem.W.codeIn K cd5 "_law_product" = true) (k5 : PySem.W.keepIn K (.ref f5) = true)
    {f6 : Addr} {od6 an6 : Option Addr} {sl6 : Array (Option Value)} {oc6 kV6 dc6 pm6 cd6 ct6 : Value}
    (a6 : PySem.W.nsIn K mainGlobals "_law_polynomial" = some (some (.ref f6))) (l6 : K.lookup f6 = some ⟨oc6, od6, .func (PySem.W.fnOf "_law_polynomial" "_law_polynomial" (defArgs ws__law_polynomial) (defBody ws__law_polynomial) (defScope ws__law_polynomial) .none kV6 dc6 pm6 an6 cd6 ct6), sl6⟩) (c6 : PySem.W.codeIn K cd6 "_law_polynomial" = true) (k6 : PySem.W.keepIn K (.ref f6) = true)
    {f7 : Addr} {od7 an7 : Option Addr} {sl7 : Array (Option Value)} {oc7 kV7 dc7 pm7 cd7 ct7 : Value}
    (a7 : PySem.W.nsIn K mainGlobals "_law_gcd" = some (some (.ref f7))) (l7 : K.lookup f7 = some ⟨oc7, od7, .func (PySem.W.fnOf "_law_gcd" "_law_gcd" (defArgs ws__law_gcd) (defBody ws__law_gcd) (defScope ws__law_gcd) .none kV7 dc7 pm7 an7 cd7 ct7), sl7⟩) (c7 : PySem.W.codeIn K cd7 "_law_gcd" = true) (k7 : PySem.W.keepIn K (.ref f7) = true)
    {f8 : Addr} {od8 an8 : Option Addr} {sl8 : Array (Option Value)} {oc8 kV8 dc8 pm8 cd8 ct8 : Value}
    (a8 : PySem.W.nsIn K mainGlobals "_law_bare" = some (some (.ref f8))) (l8 : K.lookup f8 = some ⟨oc8, od8, .func (PySem.W.fnOf "_law_bare" "_law_bare" (defArgs ws__law_bare) (defBody ws__law_bare) (defScope ws__law_bare) .none kV8 dc8 pm8 an8 cd8 ct8), sl8⟩) (c8 : PySem.W.codeIn K cd8 "_law_bare" = true) (k8 : PySem.W.keepIn K (.ref f8) = true)
    {f9 : Addr} {od9 an9 : Option Addr} {sl9 : Array (Option Value)} {oc9 kV9 dc9 pm9 cd9 ct9 : Value}
    (a9 : PySem.W.nsIn K mainGlobals "_law_add" = some (some (.ref f9))) (l9 : K.lookup f9 = some ⟨oc9, od9, .func (PySem.W.fnOf "_law_add" "_law_add" (defArgs ws__law_add) (defBody ws__law_add) (defScope ws__law_add) .none kV9 dc9 pm9 an9 cd9 ct9), sl9⟩) (c9 : PySem.W.codeIn K cd9 "_law_add" = true) (k9 : PySem.W.keepIn K (.ref f9) = true)
    {f10 : Addr} {od10 an10 : Option Addr} {sl10 : Array (Option Value)} {oc10 kV10 dc10 pm10 cd10 ct10 : Value}
    (a10 : PySem.W.nsIn K mainGlobals "_law_rest" = some (some (.ref f10))) (l10 : K.lookup f10 = some ⟨oc10, od10, .func (PySem.W.fnOf "_law_rest" "_law_rest" (defArgs ws__law_rest) (defBody ws__law_rest) (defScope ws__law_rest) .none kV10 dc10 pm10 an10 cd10 ct10), sl10⟩) (c10 : PySem.W.codeIn K cd10 "_law_rest" = true) (k10 : PySem.W.keepIn K (.ref f10) = true)
    {f11 : Addr} {od11 an11 : Option Addr} {sl11 : Array (Option Value)} {oc11 kV11 dc11 pm11 cd11 ct11 : Value}
    (a11 : PySem.W.nsIn K mainGlobals "_law_chain" = some (some (.ref f11))) (l11 : K.lookup f11 = some ⟨oc11, od11, .func (PySem.W.fnOf "_law_chain" "_law_chain" (defArgs ws__law_chain) (defBody ws__law_chain) (defScope ws__law_chain) .none kV11 dc11 pm11 an11 cd11 ct11), sl11⟩) (c11 : PySem.W.codeIn K cd11 "_law_chain" = true) (k11 : PySem.W.keepIn K (.ref f11) = true)
    {f12 : Addr} {od12 an12 : Option Addr} {sl12 : Array (Option Value)} {oc12 kV12 dc12 pm12 cd12 ct12 : Value}
    (a12 : PySem.W.nsIn K mainGlobals "_law_number" = some (some (.ref f12))) (l12 : K.lookup f12 = some ⟨oc12, od12, .func (PySem.W.fnOf "_law_number" "_law_number" (defArgs ws__law_number) (defBody ws__law_number) (defScope ws__law_number) .none kV12 dc12 pm12 an12 cd12 ct12), sl12⟩) (c12 : PySem.W.codeIn K cd12 "_law_number" = true) (k12 : PySem.W.keepIn K (.ref f12) = true)
    {f13 : Addr} {od13 an13 : Option Addr} {sl13 : Array (Option Value)} {oc13 kV13 dc13 pm13 cd13 ct13 : Value}
    (a13 : PySem.W.nsIn K mainGlobals "_law_plus" = some (some (.ref f13))) (l13 : K.lookup f13 = some ⟨oc13, od13, .func (PySem.W.fnOf "_law_plus" "_law_plus" (defArgs ws__law_plus) (defBody ws__law_plus) (defScope ws__law_plus) .none kV13 dc13 pm13 an13 cd13 ct13), sl13⟩) (c13 : PySem.W.codeIn K cd13 "_law_plus" = true) (k13 : PySem.W.keepIn K (.ref f13) = true)
    {f14 : Addr} {od14 an14 : Option Addr} {sl14 : Array (Option Value)} {oc14 kV14 dc14 pm14 cd14 ct14 : Value}
    (a14 : PySem.W.nsIn K mainGlobals "_law_x" = some (some (.ref f14))) (l14 : K.lookup f14 = some ⟨oc14, od14, .func (PySem.W.fnOf "_law_x" "_law_x" (defArgs ws__law_x) (defBody ws__law_x) (defScope ws__law_x) .none kV14 dc14 pm14 an14 cd14 ct14), sl14⟩) (c14 : PySem.W.codeIn K cd14 "_law_x" = true) (k14 : PySem.W.keepIn K (.ref f14) = true)
    {f15 : Addr} {od15 an15 : Option Addr} {sl15 : Array (Option Value)} {oc15 kV15 dc15 pm15 cd15 ct15 : Value}
    (a15 : PySem.W.nsIn K mainGlobals "sign_of" = some (some (.ref f15))) (l15 : K.lookup f15 = some ⟨oc15, od15, .func (PySem.W.fnOf "sign_of" "sign_of" (defArgs ws_sign_of) (defBody ws_sign_of) (defScope ws_sign_of) .none kV15 dc15 pm15 an15 cd15 ct15), sl15⟩) (c15 : PySem.W.codeIn K cd15 "sign_of" = true) (k15 : PySem.W.keepIn K (.ref f15) = true)
    {f16 : Addr} {od16 an16 : Option Addr} {sl16 : Array (Option Value)} {oc16 kV16 dc16 pm16 cd16 ct16 : Value}
    (a16 : PySem.W.nsIn K mainGlobals "number" = some (some (.ref f16))) (l16 : K.lookup f16 = some ⟨oc16, od16, .func (PySem.W.fnOf "number" "number" (defArgs ws_number) (defBody ws_number) (defScope ws_number) .none kV16 dc16 pm16 an16 cd16 ct16), sl16⟩) (c16 : PySem.W.codeIn K cd16 "number" = true) (k16 : PySem.W.keepIn K (.ref f16) = true)
    {f17 : Addr} {od17 an17 : Option Addr} {sl17 : Array (Option Value)} {oc17 kV17 dc17 pm17 cd17 ct17 : Value}
    (a17 : PySem.W.nsIn K mainGlobals "plus" = some (some (.ref f17))) (l17 : K.lookup f17 = some ⟨oc17, od17, .func (PySem.W.fnOf "plus" "plus" (defArgs ws_plus) (defBody ws_plus) (defScope ws_plus) .none kV17 dc17 pm17 an17 cd17 ct17), sl17⟩) (c17 : PySem.W.codeIn K cd17 "plus" = true) (k17 : PySem.W.keepIn K (.ref f17) = true)
    {f18 : Addr} {od18 an18 : Option Addr} {sl18 : Array (Option Value)} {oc18 kV18 dc18 pm18 cd18 ct18 : Value}
    (a18 : PySem.W.nsIn K mainGlobals "times" = some (some (.ref f18))) (l18 : K.lookup f18 = some ⟨oc18, od18, .func (PySem.W.fnOf "times" "times" (defArgs ws_times) (defBody ws_times) (defScope ws_times) .none kV18 dc18 pm18 an18 cd18 ct18), sl18⟩) (c18 : PySem.W.codeIn K cd18 "times" = true) (k18 : PySem.W.keepIn K (.ref f18) = true)
    {f19 : Addr} {od19 an19 : Option Addr} {sl19 : Array (Option Value)} {oc19 kV19 dc19 pm19 cd19 ct19 : Value}
    (a19 : PySem.W.nsIn K mainGlobals "value_at" = some (some (.ref f19))) (l19 : K.lookup f19 = some ⟨oc19, od19, .func (PySem.W.fnOf "value_at" "value_at" (defArgs ws_value_at) (defBody ws_value_at) (defScope ws_value_at) .none kV19 dc19 pm19 an19 cd19 ct19), sl19⟩) (c19 : PySem.W.codeIn K cd19 "value_at" = true) (k19 : PySem.W.keepIn K (.ref f19) = true)
    {f20 : Addr} {od20 an20 : Option Addr} {sl20 : Array (Option Value)} {oc20 kV20 dc20 pm20 cd20 ct20 : Value}
    (a20 : PySem.W.nsIn K mainGlobals "sign_at" = some (some (.ref f20))) (l20 : K.lookup f20 = some ⟨oc20, od20, .func (PySem.W.fnOf "sign_at" "sign_at" (defArgs ws_sign_at) (defBody ws_sign_at) (defScope ws_sign_at) .none kV20 dc20 pm20 an20 cd20 ct20), sl20⟩) (c20 : PySem.W.codeIn K cd20 "sign_at" = true) (k20 : PySem.W.keepIn K (.ref f20) = true)
    {f21 : Addr} {od21 an21 : Option Addr} {sl21 : Array (Option Value)} {oc21 kV21 dc21 pm21 cd21 ct21 : Value}
    (a21 : PySem.W.nsIn K mainGlobals "content" = some (some (.ref f21))) (l21 : K.lookup f21 = some ⟨oc21, od21, .func (PySem.W.fnOf "content" "content" (defArgs ws_content) (defBody ws_content) (defScope ws_content) .none kV21 dc21 pm21 an21 cd21 ct21), sl21⟩) (c21 : PySem.W.codeIn K cd21 "content" = true) (k21 : PySem.W.keepIn K (.ref f21) = true)
    {f22 : Addr} {od22 an22 : Option Addr} {sl22 : Array (Option Value)} {oc22 kV22 dc22 pm22 cd22 ct22 : Value}
    (a22 : PySem.W.nsIn K mainGlobals "bare" = some (some (.ref f22))) (l22 : K.lookup f22 = some ⟨oc22, od22, .func (PySem.W.fnOf "bare" "bare" (defArgs ws_bare) (defBody ws_bare) (defScope ws_bare) .none kV22 dc22 pm22 an22 cd22 ct22), sl22⟩) (c22 : PySem.W.codeIn K cd22 "bare" = true) (k22 : PySem.W.keepIn K (.ref f22) = true)
    {f23 : Addr} {od23 an23 : Option Addr} {sl23 : Array (Option Value)} {oc23 kV23 dc23 pm23 cd23 ct23 : Value}
    (a23 : PySem.W.nsIn K mainGlobals "coefficient_of" = some (some (.ref f23))) (l23 : K.lookup f23 = some ⟨oc23, od23, .func (PySem.W.fnOf "coefficient_of" "coefficient_of" (defArgs ws_coefficient_of) (defBody ws_coefficient_of) (defScope ws_coefficient_of) .none kV23 dc23 pm23 an23 cd23 ct23), sl23⟩) (c23 : PySem.W.codeIn K cd23 "coefficient_of" = true) (k23 : PySem.W.keepIn K (.ref f23) = true)
    {f24 : Addr} {od24 an24 : Option Addr} {sl24 : Array (Option Value)} {oc24 kV24 dc24 pm24 cd24 ct24 : Value}
    (a24 : PySem.W.nsIn K mainGlobals "trimmed" = some (some (.ref f24))) (l24 : K.lookup f24 = some ⟨oc24, od24, .func (PySem.W.fnOf "trimmed" "trimmed" (defArgs ws_trimmed) (defBody ws_trimmed) (defScope ws_trimmed) .none kV24 dc24 pm24 an24 cd24 ct24), sl24⟩) (c24 : PySem.W.codeIn K cd24 "trimmed" = true) (k24 : PySem.W.keepIn K (.ref f24) = true)
    {f25 : Addr} {od25 an25 : Option Addr} {sl25 : Array (Option Value)} {oc25 kV25 dc25 pm25 cd25 ct25 : Value}
    (a25 : PySem.W.nsIn K mainGlobals "add" = some (some (.ref f25))) (l25 : K.lookup f25 = some ⟨oc25, od25, .func (PySem.W.fnOf "add" "add" (defArgs ws_add) (defBody ws_add) (defScope ws_add) .none kV25 dc25 pm25 an25 cd25 ct25), sl25⟩) (c25 : PySem.W.codeIn K cd25 "add" = true) (k25 : PySem.W.keepIn K (.ref f25) = true)
    {f26 : Addr} {od26 an26 : Option Addr} {sl26 : Array (Option Value)} {oc26 kV26 dc26 pm26 cd26 ct26 : Value}
    (a26 : PySem.W.nsIn K mainGlobals "scale" = some (some (.ref f26))) (l26 : K.lookup f26 = some ⟨oc26, od26, .func (PySem.W.fnOf "scale" "scale" (defArgs ws_scale) (defBody ws_scale) (defScope ws_scale) .none kV26 dc26 pm26 an26 cd26 ct26), sl26⟩) (c26 : PySem.W.codeIn K cd26 "scale" = true) (k26 : PySem.W.keepIn K (.ref f26) = true)
    {f27 : Addr} {od27 an27 : Option Addr} {sl27 : Array (Option Value)} {oc27 kV27 dc27 pm27 cd27 ct27 : Value}
    (a27 : PySem.W.nsIn K mainGlobals "subtract" = some (some (.ref f27))) (l27 : K.lookup f27 = some ⟨oc27, od27, .func (PySem.W.fnOf "subtract" "subtract" (defArgs ws_subtract) (defBody ws_subtract) (defScope ws_subtract) .none kV27 dc27 pm27 an27 cd27 ct27), sl27⟩) (c27 : PySem.W.codeIn K cd27 "subtract" = true) (k27 : PySem.W.keepIn K (.ref f27) = true)
    {f28 : Addr} {od28 an28 : Option Addr} {sl28 : Array (Option Value)} {oc28 kV28 dc28 pm28 cd28 ct28 : Value}
    (a28 : PySem.W.nsIn K mainGlobals "shifted" = some (some (.ref f28))) (l28 : K.lookup f28 = some ⟨oc28, od28, .func (PySem.W.fnOf "shifted" "shifted" (defArgs ws_shifted) (defBody ws_shifted) (defScope ws_shifted) .none kV28 dc28 pm28 an28 cd28 ct28), sl28⟩) (c28 : PySem.W.codeIn K cd28 "shifted" = true) (k28 : PySem.W.keepIn K (.ref f28) = true)
    {f29 : Addr} {od29 an29 : Option Addr} {sl29 : Array (Option Value)} {oc29 kV29 dc29 pm29 cd29 ct29 : Value}
    (a29 : PySem.W.nsIn K mainGlobals "false_rest" = some (some (.ref f29))) (l29 : K.lookup f29 = some ⟨oc29, od29, .func (PySem.W.fnOf "false_rest" "false_rest" (defArgs ws_false_rest) (defBody ws_false_rest) (defScope ws_false_rest) .none kV29 dc29 pm29 an29 cd29 ct29), sl29⟩) (c29 : PySem.W.codeIn K cd29 "false_rest" = true) (k29 : PySem.W.keepIn K (.ref f29) = true)
    {f30 : Addr} {od30 an30 : Option Addr} {sl30 : Array (Option Value)} {oc30 kV30 dc30 pm30 cd30 ct30 : Value}
    (a30 : PySem.W.nsIn K mainGlobals "derivative" = some (some (.ref f30))) (l30 : K.lookup f30 = some ⟨oc30, od30, .func (PySem.W.fnOf "derivative" "derivative" (defArgs ws_derivative) (defBody ws_derivative) (defScope ws_derivative) .none kV30 dc30 pm30 an30 cd30 ct30), sl30⟩) (c30 : PySem.W.codeIn K cd30 "derivative" = true) (k30 : PySem.W.keepIn K (.ref f30) = true)
    {f31 : Addr} {od31 an31 : Option Addr} {sl31 : Array (Option Value)} {oc31 kV31 dc31 pm31 cd31 ct31 : Value}
    (a31 : PySem.W.nsIn K mainGlobals "chain_of" = some (some (.ref f31))) (l31 : K.lookup f31 = some ⟨oc31, od31, .func (PySem.W.fnOf "chain_of" "chain_of" (defArgs ws_chain_of__N) (defBody ws_chain_of__N) (defScope ws_chain_of__N) .none kV31 dc31 pm31 an31 cd31 ct31), sl31⟩) (c31 : PySem.W.codeIn K cd31 "chain_of" = true) (k31 : PySem.W.keepIn K (.ref f31) = true)
    {f32 : Addr} {od32 an32 : Option Addr} {sl32 : Array (Option Value)} {oc32 kV32 dc32 pm32 cd32 ct32 : Value}
    (a32 : PySem.W.nsIn K mainGlobals "_law_is_whole" = some (some (.ref f32))) (l32 : K.lookup f32 = some ⟨oc32, od32, .func (PySem.W.fnOf "_law_is_whole" "_law_is_whole" (defArgs ws__law_is_whole) (defBody ws__law_is_whole) (defScope ws__law_is_whole) .none kV32 dc32 pm32 an32 cd32 ct32), sl32⟩) (c32 : PySem.W.codeIn K cd32 "_law_is_whole" = true) (k32 : PySem.W.keepIn K (.ref f32) = true)
    {f33 : Addr} {od33 an33 : Option Addr} {sl33 : Array (Option Value)} {oc33 kV33 dc33 pm33 cd33 ct33 : Value}
    (a33 : PySem.W.nsIn K mainGlobals "_law_sign" = some (some (.ref f33))) (l33 : K.lookup f33 = some ⟨oc33, od33, .func (PySem.W.fnOf "_law_sign" "_law_sign" (defArgs ws__law_sign) (defBody ws__law_sign) (defScope ws__law_sign) .none kV33 dc33 pm33 an33 cd33 ct33), sl33⟩) (c33 : PySem.W.codeIn K cd33 "_law_sign" = true) (k33 : PySem.W.keepIn K (.ref f33) = true)
    {f34 : Addr} {od34 an34 : Option Addr} {sl34 : Array (Option Value)} {oc34 kV34 dc34 pm34 cd34 ct34 : Value}
    (a34 : PySem.W.nsIn K mainGlobals "_law_times" = some (some (.ref f34))) (l34 : K.lookup f34 = some ⟨oc34, od34, .func (PySem.W.fnOf "_law_times" "_law_times" (defArgs ws__law_times) (defBody ws__law_times) (defScope ws__law_times) .none kV34 dc34 pm34 an34 cd34 ct34), sl34⟩) (c34 : PySem.W.codeIn K cd34 "_law_times" = true) (k34 : PySem.W.keepIn K (.ref f34) = true)
    {f35 : Addr} {od35 an35 : Option Addr} {sl35 : Array (Option Value)} {oc35 kV35 dc35 pm35 cd35 ct35 : Value}
    (a35 : PySem.W.nsIn K mainGlobals "_law_at" = some (some (.ref f35))) (l35 : K.lookup f35 = some ⟨oc35, od35, .func (PySem.W.fnOf "_law_at" "_law_at" (defArgs ws__law_at) (defBody ws__law_at) (defScope ws__law_at) .none kV35 dc35 pm35 an35 cd35 ct35), sl35⟩) (c35 : PySem.W.codeIn K cd35 "_law_at" = true) (k35 : PySem.W.keepIn K (.ref f35) = true)
    {f36 : Addr} {od36 an36 : Option Addr} {sl36 : Array (Option Value)} {oc36 kV36 dc36 pm36 cd36 ct36 : Value}
    (a36 : PySem.W.nsIn K mainGlobals "_law_sign_at" = some (some (.ref f36))) (l36 : K.lookup f36 = some ⟨oc36, od36, .func (PySem.W.fnOf "_law_sign_at" "_law_sign_at" (defArgs ws__law_sign_at) (defBody ws__law_sign_at) (defScope ws__law_sign_at) .none kV36 dc36 pm36 an36 cd36 ct36), sl36⟩) (c36 : PySem.W.codeIn K cd36 "_law_sign_at" = true) (k36 : PySem.W.keepIn K (.ref f36) = true)
    {f37 : Addr} {od37 an37 : Option Addr} {sl37 : Array (Option Value)} {oc37 kV37 dc37 pm37 cd37 ct37 : Value}
    (a37 : PySem.W.nsIn K mainGlobals "law" = some (some (.ref f37))) (l37 : K.lookup f37 = some ⟨oc37, od37, .func (PySem.W.fnOf "law" "law" (defArgs ws_law) (defBody ws_law) (defScope ws_law) .none kV37 dc37 pm37 an37 cd37 ct37), sl37⟩) (c37 : PySem.W.codeIn K cd37 "law" = true) (k37 : PySem.W.keepIn K (.ref f37) = true)
    (zz_range : PySem.W.nsIn K mainGlobals "range" = some none)
    (zz_len : PySem.W.nsIn K mainGlobals "len" = some none)
    (zz_int : PySem.W.nsIn K mainGlobals "int" = some none)
    (zz_list : PySem.W.nsIn K mainGlobals "list" = some none)
    (zz_abs : PySem.W.nsIn K mainGlobals "abs" = some none)
    (zz_max : PySem.W.nsIn K mainGlobals "max" = some none)
    (zz_isinstance : PySem.W.nsIn K mainGlobals "isinstance" = some none)
    (zz_bool : PySem.W.nsIn K mainGlobals "bool" = some none)
    (gg_gcd : PySem.W.nsIn K mainGlobals "gcd" = some (some (.builtin "math.gcd")))
    {a_NOUGHT : Addr} {o_NOUGHT : Obj} (gg_NOUGHT : PySem.W.nsIn K mainGlobals "NOUGHT" = some (some (.ref a_NOUGHT))) (gl_NOUGHT : K.lookup a_NOUGHT = some o_NOUGHT) (go_NOUGHT : TupO o_NOUGHT (.tuple [(.int 0), (.int 1)])) :
    ∃ fd : FuncData, (∀ (s : Shared) (u : Value), BindsTo s fd ⟨[u], []⟩ [("_law_script", u)]) ∧ ∀ base, DOk P w K mg base 6 fa fd ["_law_script"] m_law := by
  have F0 := fun_mk (st := ws__law_draws) l0 c0 k0
  have D__law_draws : Df K mg "_law_draws" ws__law_draws ["_law_script", "_law_count_here"] := ⟨_, _, F0, PySem.W.mg_of X G a0, F0.binds (ps := ["_law_script", "_law_count_here"]) fun _ _ _ _ _ _ us hl => match us, hl with | [_, _], _ => rfl⟩
  have F1 := fun_mk (st := ws__law_factors) l1 c1 k1
  have D__law_factors : Df K mg "_law_factors" ws__law_factors [] := ⟨_, _, F1, PySem.W.mg_of X G a1, F1.binds (ps := []) fun _ _ _ _ _ _ us hl => match us, hl with | [], _ => rfl⟩
  have F2 := fun_mk (st := ws__law_drawn) l2 c2 k2
  have D__law_drawn : Df K mg "_law_drawn" ws__law_drawn ["_law_draws_here", "_law_most"] := ⟨_, _, F2, PySem.W.mg_of X G a2, F2.binds (ps := ["_law_draws_here", "_law_most"]) fun _ _ _ _ _ _ us hl => match us, hl with | [_, _], _ => rfl⟩
  have F3 := fun_mk (st := ws__law_trim) l3 c3 k3
  have D__law_trim : Df K mg "_law_trim" ws__law_trim ["_law_a"] := ⟨_, _, F3, PySem.W.mg_of X G a3, F3.binds (ps := ["_law_a"]) fun _ _ _ _ _ _ us hl => match us, hl with | [_], _ => rfl⟩
  have F4 := fun_mk (st := ws__law_mul) l4 c4 k4
  have D__law_mul : Df K mg "_law_mul" ws__law_mul ["_law_a", "_law_b"] := ⟨_, _, F4, PySem.W.mg_of X G a4, F4.binds (ps := ["_law_a", "_law_b"]) fun _ _ _ _ _ _ us hl => match us, hl with | [_, _], _ => rfl⟩
  have F5 := fun_mk (st := ws__law_product) l5 c5 k5
  have D__law_product : Df K mg "_law_product" ws__law_product ["_law_factors_here"] := ⟨_, _, F5, PySem.W.mg_of X G a5, F5.binds (ps := ["_law_factors_here"]) fun _ _ _ _ _ _ us hl => match us, hl with | [_], _ => rfl⟩
  have F6 := fun_mk (st := ws__law_polynomial) l6 c6 k6
  have D__law_polynomial : Df K mg "_law_polynomial" ws__law_polynomial ["_law_draws_here", "_law_most"] := ⟨_, _, F6, PySem.W.mg_of X G a6, F6.binds (ps := ["_law_draws_here", "_law_most"]) fun _ _ _ _ _ _ us hl => match us, hl with | [_, _], _ => rfl⟩
  have F7 := fun_mk (st := ws__law_gcd) l7 c7 k7
  have D__law_gcd : Df K mg "_law_gcd" ws__law_gcd ["_law_a", "_law_b"] := ⟨_, _, F7, PySem.W.mg_of X G a7, F7.binds (ps := ["_law_a", "_law_b"]) fun _ _ _ _ _ _ us hl => match us, hl with | [_, _], _ => rfl⟩
  have F8 := fun_mk (st := ws__law_bare) l8 c8 k8
  have D__law_bare : Df K mg "_law_bare" ws__law_bare ["_law_a", "_law_factor"] := ⟨_, _, F8, PySem.W.mg_of X G a8, F8.binds (ps := ["_law_a", "_law_factor"]) fun _ _ _ _ _ _ us hl => match us, hl with | [_, _], _ => rfl⟩
  have F9 := fun_mk (st := ws__law_add) l9 c9 k9
  have D__law_add : Df K mg "_law_add" ws__law_add ["_law_a", "_law_b"] := ⟨_, _, F9, PySem.W.mg_of X G a9, F9.binds (ps := ["_law_a", "_law_b"]) fun _ _ _ _ _ _ us hl => match us, hl with | [_, _], _ => rfl⟩
  have F10 := fun_mk (st := ws__law_rest) l10 c10 k10
  have D__law_rest : Df K mg "_law_rest" ws__law_rest ["_law_a", "_law_b"] := ⟨_, _, F10, PySem.W.mg_of X G a10, F10.binds (ps := ["_law_a", "_law_b"]) fun _ _ _ _ _ _ us hl => match us, hl with | [_, _], _ => rfl⟩
  have F11 := fun_mk (st := ws__law_chain) l11 c11 k11
  have D__law_chain : Df K mg "_law_chain" ws__law_chain ["_law_p"] := ⟨_, _, F11, PySem.W.mg_of X G a11, F11.binds (ps := ["_law_p"]) fun _ _ _ _ _ _ us hl => match us, hl with | [_], _ => rfl⟩
  have F12 := fun_mk (st := ws__law_number) l12 c12 k12
  have D__law_number : Df K mg "_law_number" ws__law_number ["_law_n", "_law_d"] := ⟨_, _, F12, PySem.W.mg_of X G a12, F12.binds (ps := ["_law_n", "_law_d"]) fun _ _ _ _ _ _ us hl => match us, hl with | [_, _], _ => rfl⟩
  have F13 := fun_mk (st := ws__law_plus) l13 c13 k13
  have D__law_plus : Df K mg "_law_plus" ws__law_plus ["_law_a", "_law_b"] := ⟨_, _, F13, PySem.W.mg_of X G a13, F13.binds (ps := ["_law_a", "_law_b"]) fun _ _ _ _ _ _ us hl => match us, hl with | [_, _], _ => rfl⟩
  have F14 := fun_mk (st := ws__law_x) l14 c14 k14
  have D__law_x : Df K mg "_law_x" ws__law_x ["_law_draws_here", "_law_factors_here"] := ⟨_, _, F14, PySem.W.mg_of X G a14, F14.binds (ps := ["_law_draws_here", "_law_factors_here"]) fun _ _ _ _ _ _ us hl => match us, hl with | [_, _], _ => rfl⟩
  have F15 := fun_mk (st := ws_sign_of) l15 c15 k15
  have D_sign_of : Df K mg "sign_of" ws_sign_of ["whole"] := ⟨_, _, F15, PySem.W.mg_of X G a15, F15.binds (ps := ["whole"]) fun _ _ _ _ _ _ us hl => match us, hl with | [_], _ => rfl⟩
  have F16 := fun_mk (st := ws_number) l16 c16 k16
  have D_number : Df K mg "number" ws_number ["n", "d"] := ⟨_, _, F16, PySem.W.mg_of X G a16, F16.binds (ps := ["n", "d"]) fun _ _ _ _ _ _ us hl => match us, hl with | [_, _], _ => rfl⟩
  have F17 := fun_mk (st := ws_plus) l17 c17 k17
  have D_plus : Df K mg "plus" ws_plus ["a", "b"] := ⟨_, _, F17, PySem.W.mg_of X G a17, F17.binds (ps := ["a", "b"]) fun _ _ _ _ _ _ us hl => match us, hl with | [_, _], _ => rfl⟩
  have F18 := fun_mk (st := ws_times) l18 c18 k18
  have D_times : Df K mg "times" ws_times ["a", "b"] := ⟨_, _, F18, PySem.W.mg_of X G a18, F18.binds (ps := ["a", "b"]) fun _ _ _ _ _ _ us hl => match us, hl with | [_, _], _ => rfl⟩
  have F19 := fun_mk (st := ws_value_at) l19 c19 k19
  have D_value_at : Df K mg "value_at" ws_value_at ["a", "x"] := ⟨_, _, F19, PySem.W.mg_of X G a19, F19.binds (ps := ["a", "x"]) fun _ _ _ _ _ _ us hl => match us, hl with | [_, _], _ => rfl⟩
  have F20 := fun_mk (st := ws_sign_at) l20 c20 k20
  have D_sign_at : Df K mg "sign_at" ws_sign_at ["a", "x"] := ⟨_, _, F20, PySem.W.mg_of X G a20, F20.binds (ps := ["a", "x"]) fun _ _ _ _ _ _ us hl => match us, hl with | [_, _], _ => rfl⟩
  have F21 := fun_mk (st := ws_content) l21 c21 k21
  have D_content : Df K mg "content" ws_content ["a"] := ⟨_, _, F21, PySem.W.mg_of X G a21, F21.binds (ps := ["a"]) fun _ _ _ _ _ _ us hl => match us, hl with | [_], _ => rfl⟩
  have F22 := fun_mk (st := ws_bare) l22 c22 k22
  have D_bare : Df K mg "bare" ws_bare ["a", "factor"] := ⟨_, _, F22, PySem.W.mg_of X G a22, F22.binds (ps := ["a", "factor"]) fun _ _ _ _ _ _ us hl => match us, hl with | [_, _], _ => rfl⟩
  have F23 := fun_mk (st := ws_coefficient_of) l23 c23 k23
  have D_coefficient_of : Df K mg "coefficient_of" ws_coefficient_of ["a", "power"] := ⟨_, _, F23, PySem.W.mg_of X G a23, F23.binds (ps := ["a", "power"]) fun _ _ _ _ _ _ us hl => match us, hl with | [_, _], _ => rfl⟩
  have F24 := fun_mk (st := ws_trimmed) l24 c24 k24
  have D_trimmed : Df K mg "trimmed" ws_trimmed ["coefficients"] := ⟨_, _, F24, PySem.W.mg_of X G a24, F24.binds (ps := ["coefficients"]) fun _ _ _ _ _ _ us hl => match us, hl with | [_], _ => rfl⟩
  have F25 := fun_mk (st := ws_add) l25 c25 k25
  have D_add : Df K mg "add" ws_add ["a", "b"] := ⟨_, _, F25, PySem.W.mg_of X G a25, F25.binds (ps := ["a", "b"]) fun _ _ _ _ _ _ us hl => match us, hl with | [_, _], _ => rfl⟩
  have F26 := fun_mk (st := ws_scale) l26 c26 k26
  have D_scale : Df K mg "scale" ws_scale ["a", "factor"] := ⟨_, _, F26, PySem.W.mg_of X G a26, F26.binds (ps := ["a", "factor"]) fun _ _ _ _ _ _ us hl => match us, hl with | [_, _], _ => rfl⟩
  have F27 := fun_mk (st := ws_subtract) l27 c27 k27
  have D_subtract : Df K mg "subtract" ws_subtract ["a", "b"] := ⟨_, _, F27, PySem.W.mg_of X G a27, F27.binds (ps := ["a", "b"]) fun _ _ _ _ _ _ us hl => match us, hl with | [_, _], _ => rfl⟩
  have F28 := fun_mk (st := ws_shifted) l28 c28 k28
  have D_shifted : Df K mg "shifted" ws_shifted ["a", "by"] := ⟨_, _, F28, PySem.W.mg_of X G a28, F28.binds (ps := ["a", "by"]) fun _ _ _ _ _ _ us hl => match us, hl with | [_, _], _ => rfl⟩
  have F29 := fun_mk (st := ws_false_rest) l29 c29 k29
  have D_false_rest : Df K mg "false_rest" ws_false_rest ["a", "b"] := ⟨_, _, F29, PySem.W.mg_of X G a29, F29.binds (ps := ["a", "b"]) fun _ _ _ _ _ _ us hl => match us, hl with | [_, _], _ => rfl⟩
  have F30 := fun_mk (st := ws_derivative) l30 c30 k30
  have D_derivative : Df K mg "derivative" ws_derivative ["a"] := ⟨_, _, F30, PySem.W.mg_of X G a30, F30.binds (ps := ["a"]) fun _ _ _ _ _ _ us hl => match us, hl with | [_], _ => rfl⟩
  have F31 := fun_mk (st := ws_chain_of__N) l31 c31 k31
  have D_chain_of__N : Df K mg "chain_of" ws_chain_of__N ["p"] := ⟨_, _, F31, PySem.W.mg_of X G a31, F31.binds (ps := ["p"]) fun _ _ _ _ _ _ us hl => match us, hl with | [_], _ => rfl⟩
  have F32 := fun_mk (st := ws__law_is_whole) l32 c32 k32
  have D__law_is_whole : Df K mg "_law_is_whole" ws__law_is_whole ["_law_value"] := ⟨_, _, F32, PySem.W.mg_of X G a32, F32.binds (ps := ["_law_value"]) fun _ _ _ _ _ _ us hl => match us, hl with | [_], _ => rfl⟩
  have F33 := fun_mk (st := ws__law_sign) l33 c33 k33
  have D__law_sign : Df K mg "_law_sign" ws__law_sign ["_law_n"] := ⟨_, _, F33, PySem.W.mg_of X G a33, F33.binds (ps := ["_law_n"]) fun _ _ _ _ _ _ us hl => match us, hl with | [_], _ => rfl⟩
  have F34 := fun_mk (st := ws__law_times) l34 c34 k34
  have D__law_times : Df K mg "_law_times" ws__law_times ["_law_a", "_law_b"] := ⟨_, _, F34, PySem.W.mg_of X G a34, F34.binds (ps := ["_law_a", "_law_b"]) fun _ _ _ _ _ _ us hl => match us, hl with | [_, _], _ => rfl⟩
  have F35 := fun_mk (st := ws__law_at) l35 c35 k35
  have D__law_at : Df K mg "_law_at" ws__law_at ["_law_a", "_law_x_here"] := ⟨_, _, F35, PySem.W.mg_of X G a35, F35.binds (ps := ["_law_a", "_law_x_here"]) fun _ _ _ _ _ _ us hl => match us, hl with | [_, _], _ => rfl⟩
  have F36 := fun_mk (st := ws__law_sign_at) l36 c36 k36
  have D__law_sign_at : Df K mg "_law_sign_at" ws__law_sign_at ["_law_a", "_law_x_here"] := ⟨_, _, F36, PySem.W.mg_of X G a36, F36.binds (ps := ["_law_a", "_law_x_here"]) fun _ _ _ _ _ _ us hl => match us, hl with | [_, _], _ => rfl⟩
  have F37 := fun_mk (st := ws_law) l37 c37 k37
  have e := hfa.symm.trans (PySem.W.mg_of X G a37)
  cases e
  have z_range : mg "range" = none := PySem.W.mg_none_of X G zz_range
  have z_len : mg "len" = none := PySem.W.mg_none_of X G zz_len
  have z_int : mg "int" = none := PySem.W.mg_none_of X G zz_int
  have z_list : mg "list" = none := PySem.W.mg_none_of X G zz_list
  have z_abs : mg "abs" = none := PySem.W.mg_none_of X G zz_abs
  have z_max : mg "max" = none := PySem.W.mg_none_of X G zz_max
  have z_isinstance : mg "isinstance" = none := PySem.W.mg_none_of X G zz_isinstance
  have z_bool : mg "bool" = none := PySem.W.mg_none_of X G zz_bool
  have G_gcd : mg "gcd" = some (.builtin "math.gcd") := PySem.W.mg_of X G gg_gcd
  have G_NOUGHT : VL.Gc K mg "NOUGHT" (.tuple [(.int 0), (.int 1)]) := gc_tup (PySem.W.mg_of X G gg_NOUGHT) gl_NOUGHT go_NOUGHT
  have C__law_draws := fun base => wd__law_draws (P := P) (w := w) (base := base) D__law_draws z_range z_len z_int
  have C__law_factors := fun base => wd__law_factors (P := P) (w := w) (base := base) D__law_factors z_range
  have C__law_drawn := fun base => wd__law_drawn (P := P) (w := w) (base := base) D__law_drawn (C__law_factors base) z_range z_int z_len
  have C__law_trim := fun base => wd__law_trim (P := P) (w := w) (base := base) D__law_trim z_list z_range z_len
  have C__law_mul := fun base => wd__law_mul (P := P) (w := w) (base := base) D__law_mul (C__law_trim base) z_len z_range
  have C__law_product := fun base => wd__law_product (P := P) (w := w) (base := base) D__law_product (C__law_mul base)
  have C__law_polynomial := fun base => wd__law_polynomial (P := P) (w := w) (base := base) D__law_polynomial (C__law_drawn base) (C__law_product base) z_int
  have C__law_gcd := fun base => wd__law_gcd (P := P) (w := w) (base := base) D__law_gcd z_abs z_range z_int
  have C__law_bare := fun base => wd__law_bare (P := P) (w := w) (base := base) D__law_bare (C__law_gcd base)
  have C__law_add := fun base => wd__law_add (P := P) (w := w) (base := base) D__law_add (C__law_trim base) z_max z_len z_range
  have C__law_rest := fun base => wd__law_rest (P := P) (w := w) (base := base) D__law_rest (C__law_add base) z_list z_range z_len
  have C__law_chain := fun base => wd__law_chain (P := P) (w := w) (base := base) D__law_chain (C__law_bare base) (C__law_rest base) z_range z_len z_int
  have C__law_number := fun base => wd__law_number (P := P) (w := w) (base := base) D__law_number (C__law_gcd base)
  have C__law_plus := fun base => wd__law_plus (P := P) (w := w) (base := base) D__law_plus (C__law_number base)
  have C__law_x := fun base => wd__law_x (P := P) (w := w) (base := base) D__law_x (C__law_number base) (C__law_plus base) z_int z_len
  have C_sign_of := fun base => wd_sign_of (P := P) (w := w) (base := base) D_sign_of z_int
  have C_number := fun base => wd_number (P := P) (w := w) (base := base) D_number G_gcd
  have C_plus := fun base => wd_plus (P := P) (w := w) (base := base) D_plus (C_number base)
  have C_times := fun base => wd_times (P := P) (w := w) (base := base) D_times (C_number base)
  have C_value_at := fun base => wd_value_at (P := P) (w := w) (base := base) D_value_at (C_plus base) (C_times base) G_NOUGHT
  have C_sign_at := fun base => wd_sign_at (P := P) (w := w) (base := base) D_sign_at (C_sign_of base) (C_value_at base)
  have C_content := fun base => wd_content (P := P) (w := w) (base := base) D_content G_gcd
  have C_bare := fun base => wd_bare (P := P) (w := w) (base := base) D_bare (C_content base)
  have C_coefficient_of := fun base => wd_coefficient_of (P := P) (w := w) (base := base) D_coefficient_of z_len
  have C_trimmed := fun base => wd_trimmed (P := P) (w := w) (base := base) D_trimmed z_len
  have C_add := fun base => wd_add (P := P) (w := w) (base := base) D_add (C_trimmed base) (C_coefficient_of base) z_max z_len z_range
  have C_scale := fun base => wd_scale (P := P) (w := w) (base := base) D_scale (C_trimmed base)
  have C_subtract := fun base => wd_subtract (P := P) (w := w) (base := base) D_subtract (C_add base) (C_scale base)
  have C_shifted := fun base => wd_shifted (P := P) (w := w) (base := base) D_shifted
  have C_false_rest := fun base => wd_false_rest (P := P) (w := w) (base := base) D_false_rest (C_coefficient_of base) (C_subtract base) (C_shifted base) (C_scale base) z_len z_list z_range
  have C_derivative := fun base => wd_derivative (P := P) (w := w) (base := base) D_derivative z_range z_len
  have C_chain_of__N := fun base => wd_chain_of__N (P := P) (w := w) (base := base) D_chain_of__N (C_bare base) (C_derivative base) (C_false_rest base) z_len
  have C__law_is_whole := fun base => wd__law_is_whole (P := P) (w := w) (base := base) D__law_is_whole z_isinstance z_bool z_int
  have C__law_sign := fun base => wd__law_sign (P := P) (w := w) (base := base) D__law_sign z_int
  have C__law_times := fun base => wd__law_times (P := P) (w := w) (base := base) D__law_times (C__law_number base)
  have C__law_at := fun base => wd__law_at (P := P) (w := w) (base := base) D__law_at (C__law_plus base) (C__law_times base) z_range z_len
  have C__law_sign_at := fun base => wd__law_sign_at (P := P) (w := w) (base := base) D__law_sign_at (C__law_sign base) (C__law_at base)
  have C_law := fun base => wd_law (P := P) (w := w) (base := base) F37 (C__law_draws base) (C__law_polynomial base) (C__law_x base) (C_sign_at base) (C__law_sign_at base) (C__law_is_whole base) (C__law_chain base) (C_chain_of__N base) z_list z_range z_isinstance
  exact ⟨PySem.W.fnOf "law" "law" (defArgs ws_law) (defBody ws_law) (defScope ws_law) .none kV37 dc37 pm37 an37 cd37 ct37, fun s u => .of_eq rfl, C_law⟩
end W
open PySem PySem.W PyProof.Rows VL
set_option maxHeartbeats 0 in
theorem PySem.Challenge.cw_wheretrue_k16_signs_and_chains_holds : PySem.Challenge.rw_wheretrue_k16_signs_and_chains.Holds := by
  w_on; o_law; k_head; (case hw => w_witness2)
  k_fill
  refine VL.law_end (l := PySem.Challenge.rw_wheretrue_k16_signs_and_chains) (k := 6) (x := "_law_script") (m := W.m_law) rfl rfl ⟨rfl, by decide, by decide⟩ (fun w h Y => PySem.W.kIn_of Y) W.law_true ?F
  case F =>
    intro w mg fa h KX G hmg
    refine' W.all_mk KX G hmg ?a0 ?l0 ?c0 ?k0 ?a1 ?l1 ?c1 ?k1 ?a2 ?l2 ?c2 ?k2 ?a3 ?l3 ?c3 ?k3 ?a4 ?l4 ?c4 ?k4 ?a5 ?l5 ?c5 ?k5 ?a6 ?l6 ?c6 ?k6 ?a7 ?l7 ?c7 ?k7 ?a8 ?l8 ?c8 ?k8 ?a9 ?l9 ?c9 ?k9 ?a10 ?l10 ?c10 ?k10 ?a11 ?l11 ?c11 ?k11 ?a12 ?l12 ?c12 ?k12 ?a13 ?l13 ?c13 ?k13 ?a14 ?l14 ?c14 ?k14 ?a15 ?l15 ?c15 ?k15 ?a16 ?l16 ?c16 ?k16 ?a17 ?l17 ?c17 ?k17 ?a18 ?l18 ?c18 ?k18 ?a19 ?l19 ?c19 ?k19 ?a20 ?l20 ?c20 ?k20 ?a21 ?l21 ?c21 ?k21 ?a22 ?l22 ?c22 ?k22 ?a23 ?l23 ?c23 ?k23 ?a24 ?l24 ?c24 ?k24 ?a25 ?l25 ?c25 ?k25 ?a26 ?l26 ?c26 ?k26 ?a27 ?l27 ?c27 ?k27 ?a28 ?l28 ?c28 ?k28 ?a29 ?l29 ?c29 ?k29 ?a30 ?l30 ?c30 ?k30 ?a31 ?l31 ?c31 ?k31 ?a32 ?l32 ?c32 ?k32 ?a33 ?l33 ?c33 ?k33 ?a34 ?l34 ?c34 ?k34 ?a35 ?l35 ?c35 ?k35 ?a36 ?l36 ?c36 ?k36 ?a37 ?l37 ?c37 ?k37 ?zz_range ?zz_len ?zz_int ?zz_list ?zz_abs ?zz_max ?zz_isinstance ?zz_bool ?gg_gcd ?gg_NOUGHT ?gl_NOUGHT ?go_NOUGHT
    (case a0 => k_is); (case l0 => k_is); (case c0 => k_is); (case k0 => k_is); (case a1 => k_is); (case l1 => k_is); (case c1 => k_is); (case k1 => k_is); (case a2 => k_is); (case l2 => k_is); (case c2 => k_is); (case k2 => k_is); (case a3 => k_is); (case l3 => k_is); (case c3 => k_is); (case k3 => k_is); (case a4 => k_is); (case l4 => k_is); (case c4 => k_is); (case k4 => k_is); (case a5 => k_is); (case l5 => k_is); (case c5 => k_is); (case k5 => k_is); (case a6 => k_is); (case l6 => k_is); (case c6 => k_is); (case k6 => k_is); (case a7 => k_is); (case l7 => k_is); (case c7 => k_is); (case k7 => k_is); (case a8 => k_is); (case l8 => k_is); (case c8 => k_is); (case k8 => k_is); (case a9 => k_is); (case l9 => k_is); (case c9 => k_is); (case k9 => k_is); (case a10 => k_is); (case l10 => k_is); (case c10 => k_is); (case k10 => k_is); (case a11 => k_is); (case l11 => k_is); (case c11 => k_is); (case k11 => k_is); (case a12 => k_is); (case l12 => k_is); (case c12 => k_is); (case k12 => k_is); (case a13 => k_is); (case l13 => k_is); (case c13 => k_is); (case k13 => k_is); (case a14 => k_is); (case l14 => k_is); (case c14 => k_is); (case k14 => k_is); (case a15 => k_is); (case l15 => k_is); (case c15 => k_is); (case k15 => k_is); (case a16 => k_is); (case l16 => k_is); (case c16 => k_is); (case k16 => k_is); (case a17 => k_is); (case l17 => k_is); (case c17 => k_is); (case k17 => k_is); (case a18 => k_is); (case l18 => k_is); (case c18 => k_is); (case k18 => k_is); (case a19 => k_is); (case l19 => k_is); (case c19 => k_is); (case k19 => k_is); (case a20 => k_is); (case l20 => k_is); (case c20 => k_is); (case k20 => k_is); (case a21 => k_is); (case l21 => k_is); (case c21 => k_is); (case k21 => k_is); (case a22 => k_is); (case l22 => k_is); (case c22 => k_is); (case k22 => k_is); (case a23 => k_is); (case l23 => k_is); (case c23 => k_is); (case k23 => k_is); (case a24 => k_is); (case l24 => k_is); (case c24 => k_is); (case k24 => k_is); (case a25 => k_is); (case l25 => k_is); (case c25 => k_is); (case k25 => k_is); (case a26 => k_is); (case l26 => k_is); (case c26 => k_is); (case k26 => k_is); (case a27 => k_is); (case l27 => k_is); (case c27 => k_is); (case k27 => k_is); (case a28 => k_is); (case l28 => k_is); (case c28 => k_is); (case k28 => k_is); (case a29 => k_is); (case l29 => k_is); (case c29 => k_is); (case k29 => k_is); (case a30 => k_is); (case l30 => k_is); (case c30 => k_is); (case k30 => k_is); (case a31 => k_is); (case l31 => k_is); (case c31 => k_is); (case k31 => k_is); (case a32 => k_is); (case l32 => k_is); (case c32 => k_is); (case k32 => k_is); (case a33 => k_is); (case l33 => k_is); (case c33 => k_is); (case k33 => k_is); (case a34 => k_is); (case l34 => k_is); (case c34 => k_is); (case k34 => k_is); (case a35 => k_is); (case l35 => k_is); (case c35 => k_is); (case k35 => k_is); (case a36 => k_is); (case l36 => k_is); (case c36 => k_is); (case k36 => k_is); (case a37 => k_is); (case l37 => k_is); (case c37 => k_is); (case k37 => k_is); (case zz_range => k_is); (case zz_len => k_is); (case zz_int => k_is); (case zz_list => k_is); (case zz_abs => k_is); (case zz_max => k_is); (case zz_isinstance => k_is); (case zz_bool => k_is); (case gg_gcd => k_is); (case gg_NOUGHT => k_is); (case gl_NOUGHT => k_is); (case go_NOUGHT => exact VL.tupO_mk rfl rfl rfl (by decide))
