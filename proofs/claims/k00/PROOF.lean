import PyProof.Rows.All
import HandS.ForMost
import HandS.ForExc
import HandS.Wide
import HandS.WideBits
import HandS.Gcd
import HandS.IsInst
import HandS.ExcCtx
import HandS.Style
import HandS.Deep
import HandS.TupAny
import HandS.TryOnly
import HandS.Flow
import HandS.RaiseMore
import HandS.EndBits
import HandS.Dict
import PyProof.P3Eq
import PyProof.ReprLen
import HandS.ExcInit
import KE.KExcSuper
import KE.KSuper
import HandS.ExcIs
import HandS.HotCalls
import KE.KExcLine
import HandS.Text
import HandS.FStr
import HandS.More
import HandS.Hot
import HandS.Defaults
import KE.KExcIs
import HandS.ExcOwn
import HandS.ExcValue
import KE.RegKIsAll
import PySem.Challenge.RW_wheretrue_k00_errors_stand_apart
set_option Elab.async false
set_option linter.all false
set_option maxRecDepth 100000
set_option maxHeartbeats 4000000
set_option Elab.async false
set_option linter.all false
set_option maxRecDepth 100000
namespace VL
open PySem PySem.Spec PyProof.Rows L2

abbrev D := PyData
abbrev Fg := PySem.W.Frag
abbrev Sg := L2.St
set_option autoImplicit false

/-! ### data in a heap -/
/-- the data of a list that was made new; of a list that stays as it is -/
def tg (l : List D) : D := .dict [(.int 0, .list l)]
def tf (l : List D) : D := .dict [(.int 1, .list l)]
/-- a dict with text keys -/
def dkD (ks : List Str) (ds : List D) : D := .dict ((PyData.str "", PyData.none) :: (ks.map fun k => PyData.str k).zip ds)
/-- the exception that is handled, of the class of that name, at that address -/
def exD (n : Str) (a : Addr) : D := .dict [(.int 2, .str n), (.int 3, .int a)]
/-- an exception that is an object of its own, of the class of that name, its fields -/
def xoD (n : Str) (ks : List Str) (ds : List D) : D := .dict [(.int 4, .str n), (.int 5, .dict ((ks.map fun k => PyData.str k).zip ds))]
def ExcAt (a C : Addr) (dd : Option Addr) : Heap → Prop := fun h => ∃ vs, h.get? a = some { cls := .ref C, dict := dd, data := .fields vs }
def FldOk (H : Hp) (dd : Option Addr) (ks : List Str) (vs : List V) : Prop := (ks = [] ∧ dd = none) ∨ ∃ dx, dd = some dx ∧ H dx = some (.xd (ks.zip vs))
theorem FldOk.mono {H H' : Hp} {dd : Option Addr} {ks : List Str} {vs : List V} (e : Same H H') (h : FldOk H dd ks vs) : FldOk H' dd ks vs := by
  rcases h with h | ⟨dx, h1, h2⟩
  · exact .inl h
  · exact .inr ⟨dx, h1, e _ _ h2⟩
/-- a list that is never changed -/
def OldL (K : Fg) (H : Hp) (a : Addr) (xs : List V) : Prop :=
  (∃ o, H a = some (.frz o (.lst xs))) ∨
    ∃ (o : Obj) (its : Array Value) (n : Nat), K.lookup a = some o ∧ o.cls = .type "list" ∧ o.dict = none ∧ o.data = .seq its n ∧ its.size ≤ sizeLine ∧ Vals xs its.toList
mutual
inductive Rp (K : Fg) (H : Hp) : D → V → Prop
  | non : Rp K H .none .non
  | bl (b : Bool) : Rp K H (.bool b) (.bl b)
  | int (i : Int) : Rp K H (.int i) (.int i)
  | str (x : Str) : Rp K H (.str x) (.str x)
  | lst {a : Addr} {xs : List V} {ds : List D} : SqL K H a xs → RpL K H ds xs → Rp K H (.list ds) (.ref a)
  | tup {a : Addr} {xs : List V} {ds : List D} : SqT K H a xs → RpL K H ds xs → Rp K H (.tuple ds) (.ref a)
  | nl {a : Addr} {xs : List V} {ds : List D} : H a = some (.lst xs) → RpL K H ds xs → Rp K H (tg ds) (.ref a)
  | fl {a : Addr} {xs : List V} {ds : List D} : OldL K H a xs → RpL K H ds xs → Rp K H (tf ds) (.ref a)
  | dk {a : Addr} {ks : List Str} {vs : List V} {ds : List D} : H a = some (.dK (mergeK [] ((ks.zip vs).map fun p => ((Sum.inr p.1 : Key), p.2)))) → vs.length = ks.length → RpL K H ds vs → Rp K H (dkD ks ds) (.ref a)
  | exn (a : Addr) (n : Str) : Rp K H (exD n a) (.ref a)
  | xob {a C : Addr} {dd : Option Addr} {n : Str} {ks : List Str} {vs : List V} {ds : List D} : PySem.W.nsIn K mainGlobals n = some (some (.ref C)) → H a = some (.ext (ExcAt a C dd)) → FldOk H dd ks vs → vs.length = ks.length → RpL K H ds vs → Rp K H (xoD n ks ds) (.ref a)
inductive RpL (K : Fg) (H : Hp) : List D → List V → Prop
  | nil : RpL K H [] []
  | cons {v : V} {vs : List V} {d : D} {ds : List D} : Rp K H d v → RpL K H ds vs → RpL K H (d :: ds) (v :: vs)
end

theorem Rd.mono {H H' : Hp} {a : Addr} {u : HO} (e : Same H H') (h : Rd H a u) : Rd H' a u := by
  rcases h with h | ⟨o, h⟩
  · exact .inl (e _ _ h)
  · exact .inr ⟨o, e _ _ h⟩
theorem OldL.mono {K : Fg} {H H' : Hp} {a : Addr} {xs : List V} (e : Same H H') (h : OldL K H a xs) : OldL K H' a xs := by
  rcases h with ⟨o, h⟩ | h
  · exact .inl ⟨o, e _ _ h⟩
  · exact .inr h
theorem OldL.seq {K : Fg} {H : Hp} {a : Addr} {xs : List V} (h : OldL K H a xs) : SqL K H a xs := by
  rcases h with ⟨o, h⟩ | h
  · exact .inl (.inr ⟨o, h⟩)
  · exact .inr h
theorem SqT.mono {K : Fg} {H H' : Hp} {a : Addr} {xs : List V} (e : Same H H') (h : SqT K H a xs) : SqT K H' a xs := by
  rcases h with h | h
  · exact .inl (Rd.mono e h)
  · exact .inr h
section
variable {K : Fg} {H H' : Hp}
mutual
theorem Rp.mono (e : Same H H') : ∀ {d : D} {v : V}, Rp K H d v → Rp K H' d v
  | _, _, .non => .non
  | _, _, .bl b => .bl b
  | _, _, .int i => .int i
  | _, _, .str x => .str x
  | _, _, .lst h r => .lst (Same.seq e h) (RpL.mono e r)
  | _, _, .tup h r => .tup (SqT.mono e h) (RpL.mono e r)
  | _, _, .nl h r => .nl (e _ _ h) (RpL.mono e r)
  | _, _, .fl h r => .fl (OldL.mono e h) (RpL.mono e r)
  | _, _, .dk h l r => .dk (e _ _ h) l (RpL.mono e r)
  | _, _, .exn a n => .exn a n
  | _, _, .xob c h f l r => .xob c (e _ _ h) (f.mono e) l (RpL.mono e r)
theorem RpL.mono (e : Same H H') : ∀ {d : List D} {v : List V}, RpL K H d v → RpL K H' d v
  | _, _, .nil => .nil
  | _, _, .cons h r => .cons (Rp.mono e h) (RpL.mono e r)
end
theorem nodict_all : ∀ {l : List D}, PyData.hasDictAll l = false → ∀ d ∈ l, d.hasDict = false
  | [], _, d, hd => by simp at hd
  | x :: l, h, d, hd => by
    unfold PyData.hasDictAll at h
    rw [Bool.or_eq_false_iff] at h
    rcases List.mem_cons.mp hd with rfl | hd
    · exact h.1
    · exact nodict_all h.2 d hd
theorem nodict_list {l : List D} (h : (PyData.list l).hasDict = false) : ∀ d ∈ l, d.hasDict = false := nodict_all (by unfold PyData.hasDict at h; exact h)
theorem nodict_tup {l : List D} (h : (PyData.tuple l).hasDict = false) : ∀ d ∈ l, d.hasDict = false := nodict_all (by unfold PyData.hasDict at h; exact h)
theorem nodict_of {d : D} (h : SeqAt.shaped d = true) : d.hasDict = false := PyData.hasDict_of_canLay d (SeqAt.canLay_of_shaped h)
mutual
theorem Rp.dp : ∀ {d : D} {v : V}, Rp K H d v → d.hasDict = false → Dp K H v d
  | _, _, .non, _ => .non
  | _, _, .bl b, _ => .bl b
  | _, _, .int i, _ => .int i
  | _, _, .str x, _ => .str x
  | _, _, .lst h r, n => .lst h (RpL.dp r (nodict_list n))
  | _, _, .tup h r, n => .tup h (RpL.dp r (nodict_tup n))
  | _, _, .nl h r, n => by simp [tg, PyData.hasDict] at n
  | _, _, .fl h r, n => by simp [tf, PyData.hasDict] at n
  | _, _, .dk h l r, n => by simp [dkD, PyData.hasDict] at n
  | _, _, .exn a x, n => by simp [exD, PyData.hasDict] at n
  | _, _, .xob c h f l r, n => by simp [xoD, PyData.hasDict] at n
theorem RpL.dp : ∀ {d : List D} {v : List V}, RpL K H d v → (∀ x ∈ d, x.hasDict = false) → DpAll K H v d
  | _, _, .nil, _ => .nil
  | _, _, .cons h r, n => .cons (Rp.dp h (n _ (by simp))) (RpL.dp r (fun x hx => n x (by simp [hx])))
end
theorem RpL.length : ∀ {ds : List D} {vs : List V}, RpL K H ds vs → ds.length = vs.length
  | _, _, .nil => rfl
  | _, _, .cons _ r => congrArg (· + 1) (RpL.length r)
theorem RpL.get : ∀ {ds : List D} {vs : List V} {i : Nat} {d : D}, RpL K H ds vs → ds[i]? = some d → ∃ v, vs[i]? = some v ∧ Rp K H d v
  | _, _, _, _, .nil, e => by simp at e
  | _, _, 0, _, .cons h _, e => by simp at e; subst e; exact ⟨_, rfl, h⟩
  | _, _, i + 1, _, .cons _ r, e => by
    obtain ⟨v, h1, h2⟩ := RpL.get (i := i) r (by simpa using e)
    exact ⟨v, by simpa using h1, h2⟩
theorem RpL.append : ∀ {ds es : List D} {vs ws : List V}, RpL K H ds vs → RpL K H es ws → RpL K H (ds ++ es) (vs ++ ws)
  | _, _, _, _, .nil, s => s
  | _, _, _, _, .cons h r, s => .cons h (RpL.append r s)
theorem RpL.take : ∀ {ds : List D} {vs : List V} (n : Nat), RpL K H ds vs → RpL K H (ds.take n) (vs.take n)
  | _, _, 0, _ => .nil
  | _, _, _ + 1, .nil => .nil
  | _, _, n + 1, .cons h r => .cons h (RpL.take n r)
theorem RpL.drop : ∀ {ds : List D} {vs : List V} (n : Nat), RpL K H ds vs → RpL K H (ds.drop n) (vs.drop n)
  | _, _, 0, r => r
  | _, _, _ + 1, .nil => .nil
  | _, _, n + 1, .cons _ r => RpL.drop n r
theorem RpL.set {d : D} {v : V} (q : Rp K H d v) : ∀ {ds : List D} {vs : List V} (i : Nat), RpL K H ds vs → RpL K H (ds.set i d) (vs.set i v)
  | _, _, _, .nil => .nil
  | _, _, 0, .cons _ r => .cons q r
  | _, _, i + 1, .cons h r => .cons h (RpL.set q i r)
theorem RpL.reverse {ds : List D} {vs : List V} (r : RpL K H ds vs) : RpL K H ds.reverse vs.reverse := by
  induction ds generalizing vs with
  | nil => cases r; exact .nil
  | cons d ds ih =>
    cases r with
    | cons h r =>
      rw [List.reverse_cons, List.reverse_cons]
      exact (ih r).append (.cons h .nil)
theorem RpL.dropLast {ds : List D} {vs : List V} (r : RpL K H ds vs) : RpL K H ds.dropLast vs.dropLast := by
  rw [List.dropLast_eq_take, List.dropLast_eq_take, r.length]
  exact r.take _
theorem RpL.replicate {ds : List D} {vs : List V} (r : RpL K H ds vs) : ∀ n : Nat, RpL K H (List.replicate n ds).flatten (List.replicate n vs).flatten
  | 0 => .nil
  | n + 1 => by
    rw [List.replicate_succ, List.replicate_succ, List.flatten_cons, List.flatten_cons]
    exact r.append (RpL.replicate r n)
theorem RpL.ints : ∀ {ns : List Int} {vs : List V}, RpL K H (ns.map PyData.int) vs → vs = ns.map V.int
  | [], _, r => by cases r; rfl
  | n :: ns, _, r => by
    cases r with
    | cons h r => cases h; rw [RpL.ints r]; rfl
theorem RpL.of_ints : ∀ (ns : List Int), RpL K H (ns.map PyData.int) (ns.map V.int)
  | [] => .nil
  | n :: ns => .cons (.int n) (RpL.of_ints ns)
end

/-! ### the frozen part and the whole -/
/-- from (Hs, H) to (Hs', H'): nothing that stood is changed, what is newly frozen is new -/
structure Ext (Hs H Hs' H' : Hp) : Prop where
  sub : Same Hs' H'
  same : Same H H'
  grow : Same Hs Hs'
  fresh : ∀ p o, Hs' p = some o → Hs p = none → H p = none
theorem Ext.refl {Hs H : Hp} (h : Same Hs H) : Ext Hs H Hs H := ⟨h, .refl _, .refl _, fun p o a b => by rw [a] at b; cases b⟩
theorem Ext.trans {Hs H Hs1 H1 Hs2 H2 : Hp} (a : Ext Hs H Hs1 H1) (b : Ext Hs1 H1 Hs2 H2) : Ext Hs H Hs2 H2 where
  sub := b.sub
  same := a.same.trans b.same
  grow := a.grow.trans b.grow
  fresh := fun p o h1 h2 => by
    cases e : Hs1 p with
    | none => exact a.same.free (b.fresh p o h1 e)
    | some u => exact a.fresh p u e h2
/-- a new object, frozen at once -/
theorem Ext.new {Hs H : Hp} {p : Addr} {o : HO} (h : Same Hs H) (hp : H p = none) : Ext Hs H (upd Hs p o) (upd H p o) where
  sub := fun b u e => by
    by_cases hb : b = p
    · subst hb; rw [upd_same] at e ⊢; exact e
    · rw [upd_ne hb] at e ⊢; exact h b u e
  same := fun b u e => by rw [upd_ne (ne_of_none e hp)]; exact e
  grow := fun b u e => by rw [upd_ne (ne_of_none (h b u e) hp)]; exact e
  fresh := fun b u e n => by
    by_cases hb : b = p
    · subst hb; exact hp
    · rw [upd_ne hb] at e; rw [e] at n; cases n
/-- a new object, not frozen -/
theorem Ext.hid {Hs H : Hp} {p : Addr} {o : HO} (h : Same Hs H) (hp : H p = none) : Ext Hs H Hs (upd H p o) where
  sub := fun b u e => by rw [upd_ne (ne_of_none (h b u e) hp)]; exact h b u e
  same := fun b u e => by rw [upd_ne (ne_of_none e hp)]; exact e
  grow := .refl _
  fresh := fun b u e n => by rw [e] at n; cases n
/-- what was new and not frozen is frozen -/
theorem Ext.frz {Hs H Hs' H' : Hp} {p : Addr} {o : HO} (e : Ext Hs H Hs' H') (h0 : H p = none) (h1 : H' p = some o) (h2 : Hs' p = none) : Ext Hs H (upd Hs' p o) H' where
  sub := fun b u q => by
    by_cases hb : b = p
    · subst hb; rw [upd_same] at q; cases q; exact h1
    · rw [upd_ne hb] at q; exact e.sub b u q
  same := e.same
  grow := e.grow.trans fun b u q => by rw [upd_ne (ne_of_none q h2)]; exact q
  fresh := fun b u q n => by
    by_cases hb : b = p
    · subst hb; exact h0
    · rw [upd_ne hb] at q; exact e.fresh b u q n

/-! ### slots -/
inductive SD where
  | no
  | sh (d : D)
  | ow (l : List D)
  | bo (l : List D)
abbrev Ev := List SD
/-- the heap at the start, without the list that is lent; that list's address -/
structure Gx where
  h : Hp
  b : Nat → Option Addr

def RelS (K : Fg) (G : Gx) (Hs H : Hp) (i : Nat) : SD → Option (Option V) → Prop
  | .no, _ => True
  | .sh d, x => ∃ v, x = some (some v) ∧ Rp K Hs d v
  | .ow l, x => ∃ p vs, x = some (some (.ref p)) ∧ G.h p = none ∧ Hs p = none ∧ H p = some (.lst vs) ∧ RpL K Hs l vs ∧ ∀ j, G.b j ≠ some p
  | .bo l, x => ∃ p vs, x = some (some (.ref p)) ∧ G.b i = some p ∧ H p = some (.lst vs) ∧ RpL K Hs l vs

structure RelE (K : Fg) (S : Hp) (G : Gx) (Hs H : Hp) (σ : Sg) (ρ : Ev) : Prop where
  sub : Same Hs H
  old : Same G.h H
  ext : Same S Hs
  new : ∀ p o, Hs p = some o → S p = none → G.h p = none
  len : ρ.length = σ.length
  slot : ∀ (i : Nat) (r : SD), ρ[i]? = some r → RelS K G Hs H i r σ[i]?
  bor : ∀ (i : Nat) (p : Addr), G.b i = some p → G.h p = none ∧ Hs p = none ∧ H p ≠ none
  one : ∀ (i j : Nat) (p : Addr), G.b i = some p → G.b j = some p → i = j
  dis : ∀ (i j : Nat) (l m : List D) (p : Addr), ρ[i]? = some (.ow l) → ρ[j]? = some (.ow m) → σ[i]? = some (some (.ref p)) → σ[j]? = some (some (.ref p)) → i = j

section
variable {K : Fg} {S Hs H Hs' H' : Hp} {G : Gx} {σ : Sg} {ρ : Ev}
theorem RelE.step (r : RelE K S G Hs H σ ρ) (e : Ext Hs H Hs' H') : RelE K S G Hs' H' σ ρ where
  sub := e.sub
  old := r.old.trans e.same
  ext := r.ext.trans e.grow
  new := fun p o a b => by
    cases q : Hs p with
    | none => exact r.old.free (e.fresh p o a q)
    | some u => exact r.new p u q b
  len := r.len
  slot := fun i s hs => by
    have q := r.slot i s hs
    cases s with
    | no => trivial
    | sh d =>
      obtain ⟨v, e1, e2⟩ := q
      exact ⟨v, e1, e2.mono e.grow⟩
    | ow l =>
      obtain ⟨p, vs, e1, e2, e3, e4, e5, e6⟩ := q
      refine ⟨p, vs, e1, e2, ?_, e.same _ _ e4, e5.mono e.grow, e6⟩
      cases q : Hs' p with
      | none => rfl
      | some u =>
        have := e.fresh p u q e3
        rw [e4] at this; cases this
    | bo l =>
      obtain ⟨p, vs, e1, e2, e3, e4⟩ := q
      exact ⟨p, vs, e1, e2, e.same _ _ e3, e4.mono e.grow⟩
  dis := r.dis
  bor := fun i p hp => by
    obtain ⟨h1, h2, h3⟩ := r.bor i p hp
    refine ⟨h1, ?_, fun z => h3 (e.same.free z)⟩
    cases q : Hs' p with
    | none => rfl
    | some u => exact (h3 (e.fresh p u q h2)).elim
  one := r.one
theorem RelE.get {i : Nat} {d : D} (r : RelE K S G Hs H σ ρ) (h : ρ[i]? = some (.sh d)) : ∃ v, σ[i]? = some (some v) ∧ Rp K Hs d v := r.slot i _ h
theorem RelE.own' {i : Nat} {l : List D} (r : RelE K S G Hs H σ ρ) (h : ρ[i]? = some (.ow l)) : ∃ p vs, σ[i]? = some (some (.ref p)) ∧ G.h p = none ∧ Hs p = none ∧ H p = some (.lst vs) ∧ RpL K Hs l vs ∧ ∀ j, G.b j ≠ some p := r.slot i _ h
theorem RelE.own {i : Nat} {l : List D} (r : RelE K S G Hs H σ ρ) (h : ρ[i]? = some (.ow l)) : ∃ p vs, σ[i]? = some (some (.ref p)) ∧ G.h p = none ∧ Hs p = none ∧ H p = some (.lst vs) ∧ RpL K Hs l vs :=
  let ⟨p, vs, e1, e2, e3, e4, e5, _⟩ := r.own' h
  ⟨p, vs, e1, e2, e3, e4, e5⟩
theorem RelE.lent {i : Nat} {l : List D} (r : RelE K S G Hs H σ ρ) (h : ρ[i]? = some (.bo l)) : ∃ p vs, σ[i]? = some (some (.ref p)) ∧ G.b i = some p ∧ H p = some (.lst vs) ∧ RpL K Hs l vs := r.slot i _ h

theorem set_get {α : Type} {l : List α} {i j : Nat} {x y : α} (h : (l.set i x)[j]? = some y) : (j = i ∧ i < l.length ∧ y = x) ∨ (j ≠ i ∧ l[j]? = some y) := by
  by_cases e : j = i
  · subst e
    by_cases hl : j < l.length
    · rw [List.getElem?_set_self hl] at h
      exact .inl ⟨rfl, hl, (Option.some.inj h).symm⟩
    · rw [List.getElem?_eq_none (by simpa using hl)] at h; cases h
  · rw [List.getElem?_set_ne (Ne.symm e)] at h
    exact .inr ⟨e, h⟩
/-- a slot is forgotten, or what stands there is shared data -/
theorem RelE.set {i : Nat} {d : D} {v : V} (r : RelE K S G Hs H σ ρ) (h : Rp K Hs d v) : RelE K S G Hs H (σ.set i (some v)) (ρ.set i (.sh d)) where
  sub := r.sub
  old := r.old
  ext := r.ext
  new := r.new
  len := by simpa using r.len
  slot := fun j s hs => by
    rcases set_get hs with ⟨rfl, hl, rfl⟩ | ⟨hj, hs⟩
    · exact ⟨v, by rw [List.getElem?_set_self (by rw [← r.len]; exact hl)], h⟩
    · rw [List.getElem?_set_ne (Ne.symm hj)]
      exact r.slot j s hs
  dis := fun j k l m p a b c d' => by
    rcases set_get a with ⟨_, _, e⟩ | ⟨hj, a⟩
    · cases e
    · rcases set_get b with ⟨_, _, e⟩ | ⟨hk, b⟩
      · cases e
      · rw [List.getElem?_set_ne (Ne.symm hj)] at c
        rw [List.getElem?_set_ne (Ne.symm hk)] at d'
        exact r.dis j k l m p a b c d'
  bor := r.bor
  one := r.one
theorem RelE.setNo {i : Nat} {v : Option V} (r : RelE K S G Hs H σ ρ) : RelE K S G Hs H (σ.set i v) (ρ.set i .no) where
  sub := r.sub
  old := r.old
  ext := r.ext
  new := r.new
  len := by simpa using r.len
  slot := fun j s hs => by
    rcases set_get hs with ⟨rfl, hl, rfl⟩ | ⟨hj, hs⟩
    · trivial
    · rw [List.getElem?_set_ne (Ne.symm hj)]
      exact r.slot j s hs
  dis := fun j k l m p a b c d' => by
    rcases set_get a with ⟨_, _, e⟩ | ⟨hj, a⟩
    · cases e
    · rcases set_get b with ⟨_, _, e⟩ | ⟨hk, b⟩
      · cases e
      · rw [List.getElem?_set_ne (Ne.symm hj)] at c
        rw [List.getElem?_set_ne (Ne.symm hk)] at d'
        exact r.dis j k l m p a b c d'
  bor := r.bor
  one := r.one
/-- a new list of one's own -/
theorem RelE.setOw {i : Nat} {l : List D} {p : Addr} {vs : List V} (r : RelE K S G Hs H σ ρ) (e : Ext Hs H Hs' H') (h0 : H p = none) (h1 : Hs' p = none) (h2 : H' p = some (.lst vs)) (h3 : RpL K Hs' l vs) :
    RelE K S G Hs' H' (σ.set i (some (.ref p))) (ρ.set i (.ow l)) := by
  have r' := r.step e
  have nb : ∀ j, G.b j ≠ some p := fun j z => (r.bor j p z).2.2 h0
  have away : ∀ (j : Nat) (m : List D), ρ[j]? = some (.ow m) → σ[j]? = some (some (.ref p)) → False := fun j m hj hs => by
    obtain ⟨q, ws, e1, _, _, e4, _⟩ := r.own hj
    rw [hs] at e1; cases e1
    rw [h0] at e4; cases e4
  refine ⟨r'.sub, r'.old, r'.ext, r'.new, by simpa using r.len, fun j s hs => ?_, r'.bor, r'.one, fun j k l m q a b c d' => ?_⟩
  · rcases set_get hs with ⟨rfl, hl, rfl⟩ | ⟨hj, hs⟩
    · exact ⟨p, vs, by rw [List.getElem?_set_self (by rw [← r.len]; exact hl)], r.old.free h0, h1, h2, h3, nb⟩
    · rw [List.getElem?_set_ne (Ne.symm hj)]
      exact r'.slot j s hs
  · rcases set_get a with ⟨rfl, hl, e⟩ | ⟨hj, a'⟩
    · rcases set_get b with ⟨rfl, _, e⟩ | ⟨hk, b'⟩
      · rfl
      · rw [List.getElem?_set_self (by rw [← r.len]; exact hl)] at c
        rw [List.getElem?_set_ne (Ne.symm hk)] at d'
        cases c
        exact (away k m b' d').elim
    · rcases set_get b with ⟨rfl, hl, e⟩ | ⟨hk, b'⟩
      · rw [List.getElem?_set_self (by rw [← r.len]; exact hl)] at d'
        rw [List.getElem?_set_ne (Ne.symm hj)] at c
        cases d'
        exact (away j l a' c).elim
      · rw [List.getElem?_set_ne (Ne.symm hj)] at c
        rw [List.getElem?_set_ne (Ne.symm hk)] at d'
        exact r.dis j k l m q a' b' c d'
/-- a list of one's own is changed -/
theorem RelE.wr {i : Nat} {l l' : List D} {p : Addr} {ws : List V} (r : RelE K S G Hs H σ ρ) (hi : ρ[i]? = some (.ow l)) (hs : σ[i]? = some (some (.ref p))) (h : RpL K Hs l' ws) :
    RelE K S G Hs (upd H p (.lst ws)) σ (ρ.set i (.ow l')) := by
  obtain ⟨q, us, e1, e2, e3, e4, e5, e6⟩ := r.own' hi
  rw [hs] at e1; cases e1
  refine ⟨fun b u e => ?_, fun b u e => ?_, r.ext, r.new, by simpa using r.len, fun j s hj => ?_, fun jj a ha => ?_, r.one, fun j k m n q a b c d' => ?_⟩
  · rw [upd_ne (ne_of_none e e3)]; exact r.sub b u e
  · rw [upd_ne (ne_of_none e e2)]; exact r.old b u e
  · rcases set_get hj with ⟨rfl, hl, rfl⟩ | ⟨hj', hj⟩
    · exact ⟨p, ws, hs, e2, e3, upd_same, h, e6⟩
    · have q := r.slot j s hj
      cases s with
      | no => trivial
      | sh d => exact q
      | ow m =>
        obtain ⟨q, xs, f1, f2, f3, f4, f5, f6⟩ := q
        refine ⟨q, xs, f1, f2, f3, ?_, f5, f6⟩
        rw [upd_ne]
        · exact f4
        · rintro rfl
          exact hj' (r.dis j i m l q hj hi f1 hs)
      | bo m =>
        obtain ⟨q, xs, f1, f2, f3, f4⟩ := q
        refine ⟨q, xs, f1, f2, ?_, f4⟩
        rw [upd_ne]
        · exact f3
        · rintro rfl
          exact e6 j f2
  · obtain ⟨h1, h2, h3⟩ := r.bor jj a ha
    refine ⟨h1, h2, ?_⟩
    rw [upd_ne]
    · exact h3
    · rintro rfl
      exact e6 jj ha
  · have go : ∀ (j : Nat) (m : List D), (ρ.set i (.ow l'))[j]? = some (.ow m) → ∃ m', ρ[j]? = some (.ow m') := fun j m h => by
      rcases set_get h with ⟨rfl, _, _⟩ | ⟨_, h⟩
      · exact ⟨l, hi⟩
      · exact ⟨m, h⟩
    obtain ⟨m', a'⟩ := go j m a
    obtain ⟨n', b'⟩ := go k n b
    exact r.dis j k m' n' q a' b' c d'
/-- the lent list is changed -/
theorem RelE.wrB {i : Nat} {l l' : List D} {p : Addr} {ws : List V} (r : RelE K S G Hs H σ ρ) (hi : ρ[i]? = some (.bo l)) (hs : σ[i]? = some (some (.ref p))) (h : RpL K Hs l' ws) :
    RelE K S G Hs (upd H p (.lst ws)) σ (ρ.set i (.bo l')) := by
  obtain ⟨q, us, e1, e6, e4, e5⟩ := r.lent hi
  rw [hs] at e1; cases e1
  obtain ⟨e2, e3, _⟩ := r.bor i p e6
  refine ⟨fun b u e => ?_, fun b u e => ?_, r.ext, r.new, by simpa using r.len, fun j s hj => ?_, fun jj a ha => ?_, r.one, fun j k m n q a b c d' => ?_⟩
  · rw [upd_ne (ne_of_none e e3)]; exact r.sub b u e
  · rw [upd_ne (ne_of_none e e2)]; exact r.old b u e
  · rcases set_get hj with ⟨rfl, hl, rfl⟩ | ⟨hj', hj⟩
    · exact ⟨p, ws, hs, e6, upd_same, h⟩
    · have q := r.slot j s hj
      cases s with
      | no => trivial
      | sh d => exact q
      | ow m =>
        obtain ⟨q, xs, f1, f2, f3, f4, f5, f6⟩ := q
        refine ⟨q, xs, f1, f2, f3, ?_, f5, f6⟩
        rw [upd_ne]
        · exact f4
        · rintro rfl
          exact f6 i e6
      | bo m =>
        obtain ⟨q, xs, f1, f2, f3, f4⟩ := q
        refine ⟨q, xs, f1, f2, ?_, f4⟩
        rw [upd_ne]
        · exact f3
        · rintro rfl
          exact hj' (r.one j i q f2 e6)
  · obtain ⟨h1, h2, h3⟩ := r.bor jj a ha
    refine ⟨h1, h2, ?_⟩
    by_cases z : a = p
    · subst z; rw [upd_same]; simp
    · rw [upd_ne z]; exact h3
  · rcases set_get a with ⟨_, _, e⟩ | ⟨_, a⟩
    · cases e
    · rcases set_get b with ⟨_, _, e⟩ | ⟨_, b⟩
      · cases e
      · exact r.dis j k m n q a b c d'
end

/-! ### outcomes -/
/-- an exception: its class's name, its fields -/
structure Xn where
  name : Str
  flds : List (Str × D) := []
inductive R (α : Type) where
  | ok (a : α)
  | ex (x : Xn)
  | bad
def R.bind {α β : Type} (r : R α) (f : α → R β) : R β := match r with
  | .ok a => f a
  | .ex x => .ex x
  | .bad => .bad
instance : Monad R where
  pure := .ok
  bind := R.bind
inductive Out where
  | nx (ρ : Ev)
  | rt (r : SD)
  | rtB (r : SD) (ρ : Ev)
  | bk (ρ : Ev)
  | ct (ρ : Ev)
  | ex (x : Xn) (ρ : Ev)
  | bad
end VL

set_option Elab.async false
set_option linter.all false
set_option maxRecDepth 100000
set_option autoImplicit false
namespace VL
open PySem PySem.Spec PyProof.Rows L2

/-! ### what is wanted behind an evaluation -/
/-- the exception told by x, as it lies -/
def XRp (K : Fg) (mg : Str → Option Value) (H : Hp) (x : Xn) (cls : Value) (dd : Option Addr) : Prop :=
  mg x.name = some cls ∧ ((x.flds = [] ∧ dd = none) ∨ x.flds ≠ [] ∧ ∃ a vs, dd = some a ∧ H a = some (.xd vs) ∧ vs.map (·.1) = x.flds.map (·.1) ∧ RpL K H (x.flds.map (·.2)) (vs.map (·.2)))

def Post {α : Type} (K : Fg) (mg : Str → Option Value) (W : WX) (Hs H : Hp) (σ : Sg) : R α → (α → Hp → Hp → Prop) → Prop
  | .ok a, P => ∀ Hs' H', Ext Hs H Hs' H' → P a Hs' H'
  | .ex x, _ => ∀ Hs' H' cls dd, Ext Hs H Hs' H' → XRp K mg H' x cls dd → W cls dd σ H'
  | .bad, _ => False

section
variable {K : Fg} {mg : Str → Option Value} {W : WX} {Hs H Hs1 H1 : Hp} {σ : Sg} {α β : Type}
theorem Post.up {r : R α} {P : α → Hp → Hp → Prop} (e : Ext Hs H Hs1 H1) (h : Post K mg W Hs H σ r P) : Post K mg W Hs1 H1 σ r P := by
  cases r with
  | ok a => exact fun Hs' H' e' => h Hs' H' (e.trans e')
  | ex x => exact fun Hs' H' cls dd e' hx => h Hs' H' cls dd (e.trans e') hx
  | bad => exact h
theorem Post.imp {r : R α} {P P' : α → Hp → Hp → Prop} (h : Post K mg W Hs H σ r P) (hp : ∀ a Hs' H', Ext Hs H Hs' H' → P a Hs' H' → P' a Hs' H') : Post K mg W Hs H σ r P' := by
  cases r with
  | ok a => exact fun Hs' H' e' => hp _ _ _ e' (h Hs' H' e')
  | ex x => exact h
  | bad => exact h
theorem Post.bind {r : R α} {f : α → R β} {P : β → Hp → Hp → Prop} (h : Post K mg W Hs H σ (r.bind f) P) : Post K mg W Hs H σ r (fun a Hs' H' => Post K mg W Hs' H' σ (f a) P) := by
  cases r with
  | ok a => exact fun Hs' H' e => Post.up e h
  | ex x => exact h
  | bad => exact h
theorem Post.now {a : α} {P : α → Hp → Hp → Prop} (hs : Same Hs H) (h : Post K mg W Hs H σ (.ok a) P) : P a Hs H := h Hs H (.refl hs)
end

/-! ### the readings -/
/-- read at once: a list whose items are frozen, or frozen data -/
def Pk (K : Fg) (Hs H : Hp) (d : D) (v : V) : Prop := Rp K Hs d v ∨ ∃ l a xs, d = .list l ∧ v = .ref a ∧ SqL K H a xs ∧ RpL K Hs l xs
theorem Pk.up {K : Fg} {Hs H Hs1 H1 : Hp} {d : D} {v : V} (h : Pk K Hs H d v) (e : Ext Hs H Hs1 H1) : Pk K Hs1 H1 d v := by
  rcases h with h | ⟨l, a, xs, h1, h2, h3, h4⟩
  · exact .inl (h.mono e.grow)
  · exact .inr ⟨l, a, xs, h1, h2, Same.seq e.same h3, h4.mono e.grow⟩
theorem Pk.rp {K : Fg} {Hs H : Hp} {d : D} {v : V} (h : Pk K Hs H d v) (e : Same Hs H) : Rp K H d v := by
  rcases h with h | ⟨l, a, xs, rfl, rfl, h3, h4⟩
  · exact h.mono e
  · exact .lst h3 (h4.mono e)
theorem Pk.list {K : Fg} {Hs H : Hp} {l : List D} {v : V} (h : Pk K Hs H (.list l) v) (e : Same Hs H) : ∃ a xs, v = .ref a ∧ SqL K H a xs ∧ RpL K Hs l xs := by
  rcases h with h | ⟨l', a, xs, h1, h2, h3, h4⟩
  · cases h with
    | lst h1 h2 => exact ⟨_, _, rfl, Same.seq e h1, h2⟩
  · cases h1
    exact ⟨a, xs, h2, h3, h4⟩
theorem Pk.tup {K : Fg} {Hs H : Hp} {l : List D} {v : V} (h : Pk K Hs H (.tuple l) v) (e : Same Hs H) : ∃ a xs, v = .ref a ∧ SqT K H a xs ∧ RpL K Hs l xs := by
  rcases h with h | ⟨l', a, xs, h1, h2, h3, h4⟩
  · cases h with
    | tup h1 h2 => exact ⟨_, _, rfl, SqT.mono e h1, h2⟩
  · cases h1
theorem Pk.int {K : Fg} {Hs H : Hp} {i : Int} {v : V} (h : Pk K Hs H (.int i) v) : v = .int i := by
  rcases h with h | ⟨l', a, xs, h1, h2, h3, h4⟩
  · cases h; rfl
  · cases h1
theorem Pk.bl {K : Fg} {Hs H : Hp} {i : Bool} {v : V} (h : Pk K Hs H (.bool i) v) : v = .bl i := by
  rcases h with h | ⟨l', a, xs, h1, h2, h3, h4⟩
  · cases h; rfl
  · cases h1
theorem Pk.str {K : Fg} {Hs H : Hp} {i : Str} {v : V} (h : Pk K Hs H (.str i) v) : v = .str i := by
  rcases h with h | ⟨l', a, xs, h1, h2, h3, h4⟩
  · cases h; rfl
  · cases h1
theorem Pk.non {K : Fg} {Hs H : Hp} {v : V} (h : Pk K Hs H .none v) : v = .non := by
  rcases h with h | ⟨l', a, xs, h1, h2, h3, h4⟩
  · cases h; rfl
  · cases h1

def tE (K : Fg) (mg : Str → Option Value) (W : WX) (f : Ev → R D) : TE := fun σ H Q => ∃ S G Hs ρ, RelE K S G Hs H σ ρ ∧ Post K mg W Hs H σ (f ρ) (fun d Hs' H' => ∀ v, Rp K Hs' d v → Q v H')
/-- read at once -/
def tPk (K : Fg) (mg : Str → Option Value) (W : WX) (f : Ev → R D) : TE := fun σ H Q => ∃ S G Hs ρ, RelE K S G Hs H σ ρ ∧ Post K mg W Hs H σ (f ρ) (fun d Hs' H' => ∀ v, Pk K Hs' H' d v → Q v H')
/-- a new list -/
def tO (K : Fg) (mg : Str → Option Value) (W : WX) (f : Ev → R (List D)) : TE := fun σ H Q => ∃ S G Hs ρ, RelE K S G Hs H σ ρ ∧
  Post K mg W Hs H σ (f ρ) (fun l Hs' H' => ∀ p vs, H p = none → Hs' p = none → H' p = some (.lst vs) → RpL K Hs' l vs → Q (.ref p) H')
def tT (K : Fg) (mg : Str → Option Value) (W : WX) (f : Ev → R Bool) : TT := fun σ H Q => ∃ S G Hs ρ, RelE K S G Hs H σ ρ ∧ Post K mg W Hs H σ (f ρ) (fun b _ H' => Q b H')
def tA (K : Fg) (mg : Str → Option Value) (W : WX) (f : Ev → R (List D)) : TA := fun σ H Q => ∃ S G Hs ρ, RelE K S G Hs H σ ρ ∧ Post K mg W Hs H σ (f ρ) (fun ds Hs' H' => ∀ vs, RpL K Hs' ds vs → Q vs H')

def VE (X : Cx) (W : WX) (e : Expr) (f : Ev → R D) : Prop := PE X e (tE X.K X.mg W f)
def VP (X : Cx) (W : WX) (e : Expr) (f : Ev → R D) : Prop := PE X e (tPk X.K X.mg W f)
def VO (X : Cx) (W : WX) (e : Expr) (f : Ev → R (List D)) : Prop := PE X e (tO X.K X.mg W f)
def VT (X : Cx) (W : WX) (e : Expr) (f : Ev → R Bool) : Prop := PT X e (tT X.K X.mg W f)
def VW (X : Cx) (W : WX) (e : Expr) (f : Ev → R Bool) : Prop := PW X e (tT X.K X.mg W f)
def VA (X : Cx) (W : WX) (es : List Expr) (f : Ev → R (List D)) : Prop := PA X es (tA X.K X.mg W f)

theorem PE.imp {X : Cx} {e : Expr} {t t' : TE} (h : PE X e t) (i : ∀ σ H Q, t' σ H Q → t σ H Q) : PE X e t' := ⟨fun pins s σ H Q I q => h.run pins s σ H Q I (i σ H Q q)⟩
theorem PT.imp {X : Cx} {e : Expr} {t t' : TT} (h : PT X e t) (i : ∀ σ H Q, t' σ H Q → t σ H Q) : PT X e t' := ⟨fun pins s σ H Q I q => h.run pins s σ H Q I (i σ H Q q)⟩
theorem PW.imp {X : Cx} {e : Expr} {t t' : TT} (h : PW X e t) (i : ∀ σ H Q, t' σ H Q → t σ H Q) : PW X e t' := ⟨fun wh pins s σ H Q I q => h.run wh pins s σ H Q I (i σ H Q q)⟩
theorem PA.imp {X : Cx} {es : List Expr} {t t' : TA} (h : PA X es t) (i : ∀ σ H Q, t' σ H Q → t σ H Q) : PA X es t' := ⟨fun pos pins s σ H Q I q => h.run pos pins s σ H Q I (i σ H Q q)⟩
theorem PS.imp {X : Cx} {st : Stmt} {t t' : TS} (h : PS X st t) (i : ∀ D σ H, t' D σ H → t D σ H) : PS X st t' := ⟨fun pins s σ H D I q => h.run pins s σ H D I (i D σ H q)⟩
theorem PSs.imp {X : Cx} {st : List Stmt} {t t' : TS} (h : PSs X st t) (i : ∀ D σ H, t' D σ H → t D σ H) : PSs X st t' := ⟨fun pins s σ H D I q => h.run pins s σ H D I (i D σ H q)⟩
theorem PG.imp {X : Cx} {tg : Expr} {t t' : TG} (h : PG X tg t) (i : ∀ v σ H Q, t' v σ H Q → t v σ H Q) : PG X tg t' := ⟨fun pins s σ H v u Q I r q => h.run pins s σ H v u Q I r (i v σ H Q q)⟩
theorem PI.imp {X : Cx} {tg iter : Expr} {t t' : TI} (h : PI X tg iter t) (i : ∀ σ H Q, t' σ H Q → t σ H Q) : PI X tg iter t' := ⟨fun pins s σ H Q I q => h.run pins s σ H Q I (i σ H Q q)⟩

/-- a computation whose exception is not wanted -/
def noex {α : Type} : R α → R α
  | .ok a => .ok a
  | _ => .bad
def ofO {α : Type} : Option α → R α
  | some a => .ok a
  | none => .bad
theorem bind_ok {α β : Type} (a : α) (f : α → R β) : (R.ok a).bind f = f a := rfl
/-! ### combinators -/
def cst {α : Type} (a : α) : Ev → R α := fun _ => .ok a
def eVar (i : Nat) : Ev → R D := fun ρ => match ρ[i]? with
  | some (.sh d) => .ok d
  | _ => .bad
/-- .. or a list of one's own, read at once -/
def eOwn (i : Nat) : Ev → R D := fun ρ => match ρ[i]? with
  | some (.sh d) => .ok d
  | some (.ow l) => .ok (.list l)
  | some (.bo l) => .ok (.list l)
  | _ => .bad
def e1 {α β : Type} (F : α → Option β) (f : Ev → R α) : Ev → R β := fun ρ => (f ρ).bind fun x => ofO (F x)
def e2 {α β γ : Type} (F : α → β → Option γ) (f : Ev → R α) (g : Ev → R β) : Ev → R γ := fun ρ => (f ρ).bind fun x => (g ρ).bind fun y => ofO (F x y)
def eCons (f : Ev → R D) (g : Ev → R (List D)) : Ev → R (List D) := fun ρ => (f ρ).bind fun x => (g ρ).bind fun xs => .ok (x :: xs)
def eLst (f : Ev → R (List D)) : Ev → R D := fun ρ => (f ρ).bind fun l => .ok (.list l)
def eIf {α : Type} (c : Ev → R Bool) (f g : Ev → R α) : Ev → R α := fun ρ => (c ρ).bind fun b => if b then f ρ else g ρ
def eAnd (f g : Ev → R Bool) : Ev → R Bool := fun ρ => (f ρ).bind fun b => if b then g ρ else .ok false
def eOr (f g : Ev → R Bool) : Ev → R Bool := fun ρ => (f ρ).bind fun b => if b then .ok true else g ρ
def eNot (f : Ev → R Bool) : Ev → R Bool := fun ρ => (f ρ).bind fun b => .ok (!b)

section
variable {X : Cx} {W : WX} {e a b c : Expr} {es : List Expr} {pos : Pos} {f g : Ev → R D} {fl : Ev → R (List D)} {fb gb : Ev → R Bool}

theorem VE.vp (h : VE X W e f) : VP X W e f := PE.imp h fun σ H Q ⟨S, G, Hs, ρ, r, p⟩ => ⟨S, G, Hs, ρ, r, p.imp fun _ _ _ e q v hv => q v (.inl hv)⟩
theorem VO.ve (h : VO X W e fl) : VE X W e (eLst fl) := PE.imp h fun σ H Q ⟨S, G, Hs, ρ, r, p⟩ => ⟨S, G, Hs, ρ, r, by
  unfold eLst at p
  cases q : fl ρ with
  | bad => rw [q] at p; exact p
  | ex x => rw [q] at p; exact p
  | ok l =>
    rw [q] at p
    refine fun Hs' H' e p' vs h0 h1 h2 h3 => ?_
    exact p _ _ (e.frz h0 h2 h1) _ (.lst (.inl (.inl upd_same)) (h3.mono fun b u z => by rw [upd_ne (ne_of_none z h1)]; exact z))⟩

/-! ### names, constants -/
theorem ve_pe {v : V} {d : D} (h : PE X e (tC v)) (hd : ∀ K H, Rp K H d v) : VE X W e (cst d) := PE.imp h fun σ H Q ⟨S, G, Hs, ρ, r, p⟩ => p.now r.sub v (hd _ _)
theorem ve_int {i j pos} : VE X W (.Constant (.int i) j pos) (cst (.int i)) := ve_pe pe_int fun _ _ => .int i
theorem ve_bl {i j pos} : VE X W (.Constant (.bool i) j pos) (cst (.bool i)) := ve_pe pe_bl fun _ _ => .bl i
theorem ve_var (i : Nat) {x : Str} {pos : Pos} (h : PE X (.Name x pos) (tVar i)) : VE X W (.Name x pos) (eVar i) := PE.imp h fun σ H Q ⟨S, G, Hs, ρ, r, p⟩ => by
  unfold eVar at p
  cases q : ρ[i]? with
  | none => rw [q] at p; exact p.elim
  | some s =>
    rw [q] at p
    cases s with
    | no => exact p.elim
    | ow l => exact p.elim
    | bo l => exact p.elim
    | sh d =>
      obtain ⟨v, e1, e2⟩ := r.get q
      exact ⟨v, e1, p.now r.sub v e2⟩
theorem vp_var (i : Nat) {x : Str} {pos : Pos} (h : PE X (.Name x pos) (tVar i)) : VP X W (.Name x pos) (eOwn i) := PE.imp h fun σ H Q ⟨S, G, Hs, ρ, r, p⟩ => by
  unfold eOwn at p
  cases q : ρ[i]? with
  | none => rw [q] at p; exact p.elim
  | some s =>
    rw [q] at p
    cases s with
    | no => exact p.elim
    | ow l =>
      obtain ⟨a, vs, e1, _, _, e4, e5⟩ := r.own q
      exact ⟨_, e1, p.now r.sub _ (.inr ⟨l, a, vs, rfl, rfl, .inl (.inl e4), e5⟩)⟩
    | bo l =>
      obtain ⟨a, vs, e1, _, e4, e5⟩ := r.lent q
      exact ⟨_, e1, p.now r.sub _ (.inr ⟨l, a, vs, rfl, rfl, .inl (.inl e4), e5⟩)⟩
    | sh d =>
      obtain ⟨v, e1, e2⟩ := r.get q
      exact ⟨v, e1, p.now r.sub v (.inl e2)⟩

/-! ### operators -/
def OpD (K : Fg) (r : R2) (F : D → D → Option D) : Prop := ∀ (Hs H : Hp) (x y : D) (u v : V) (Q : VK) (d : D), Same Hs H → F x y = some d → Pk K Hs H x u → Pk K Hs H y v →
  (∀ Hs' H' w, Ext Hs H Hs' H' → Rp K Hs' d w → Q w H') → r u v H Q
theorem sim_op {K : Fg} {mg : Str → Option Value} {r : R2} {F : D → D → Option D} (hd : OpD K r F) : ∀ σ H Q, tE K mg W (e2 F f g) σ H Q → tOp r (tPk K mg W f) (tPk K mg W g) σ H Q := fun σ H Q ⟨S, G, Hs, ρ, r, p⟩ => by
  refine ⟨S, G, Hs, ρ, r, (Post.bind p).imp fun x Hs1 H1 e q u hu => ?_⟩
  refine ⟨S, G, Hs1, ρ, r.step e, (Post.bind q).imp fun y Hs2 H2 e' q' v hv => ?_⟩
  cases z : F x y with
  | none => rw [z] at q'; exact q'.elim
  | some d =>
    rw [z] at q'
    exact hd Hs2 H2 x y u v Q d e'.sub z (hu.up e') hv fun Hs' H' w e'' hw => q' Hs' H' e'' w hw
theorem ve_op {op : Operator} {r : R2} {F : D → D → Option D} (ho : OpR X (binaryOp op) r) (hd : OpD X.K r F) (ha : VP X W a f) (hb : VP X W b g) : VE X W (.BinOp a op b pos) (e2 F f g) := PE.imp (pe_op ho ha hb) (sim_op hd)
theorem ve_cmp {op : CmpOp} {r : R2} {F : D → D → Option D} (ho : OpR X (compareOp op) r) (hd : OpD X.K r F) (ha : VP X W a f) (hb : VP X W b g) (hm : behindInMarks op b = false) : VE X W (.Compare a [op] [b] pos) (e2 F f g) := PE.imp (pe_cmpR ho ha hb hm) (sim_op hd)
theorem ve_ix {r : R2} {F : D → D → Option D} (hr : IxR X r) (hd : OpD X.K r F) (ha : VP X W a f) (hb : VP X W b g) (hs : PlainIx b) : VE X W (.Subscript a b pos) (e2 F f g) := PE.imp (pe_ix hr ha hb hs) (sim_op hd)
/-! ### tests -/
def bOf : D → Option Bool
  | .bool b => some b
  | _ => none
def truD : D → Option Bool
  | .none => some false
  | .bool b => some b
  | .int i => some (i != 0)
  | .str x => if x.length ≤ sizeLine then some ((x.length : Int) != 0) else none
  | .list l => some (!l.isEmpty)
  | .tuple l => some (!l.isEmpty)
  | .dict _ => none
theorem truV_of {K : Fg} {Hs H : Hp} {d : D} {v : V} {k : Bool} (hs : Same Hs H) (h : Pk K Hs H d v) (e : truD d = some k) : TruV K v H k := by
  have emp : ∀ {l : List D} {xs : List V}, RpL K Hs l xs → (!l.isEmpty) = !xs.isEmpty := fun {l xs} r => by cases r <;> rfl
  cases d with
  | none => cases h.non; exact (Option.some.inj e).symm
  | bool b => cases h.bl; exact (Option.some.inj e).symm
  | int i => cases h.int; exact (Option.some.inj e).symm
  | str x =>
    cases h.str
    have e' : (if x.length ≤ sizeLine then some ((x.length : Int) != 0) else none) = some k := e
    split at e'
    · rename_i hz
      exact ⟨hz, (Option.some.inj e').symm⟩
    · cases e'
  | list l =>
    obtain ⟨a, xs, rfl, h1, h2⟩ := h.list hs
    exact .inl ⟨xs, h1, by rw [← emp h2]; exact (Option.some.inj e).symm⟩
  | tuple l =>
    obtain ⟨a, xs, rfl, h1, h2⟩ := h.tup hs
    exact .inr (.inl ⟨xs, h1, by rw [← emp h2]; exact (Option.some.inj e).symm⟩)
  | dict _ => cases e
theorem vt_tru (ha : VP X W a f) (he : ∀ whole, isTrue a X.env whole = (do let v ← whole; standAt a.pos; holding [v] (truthy v))) : VT X W a (e1 truD f) := PT.imp (pt_truth ha he) fun σ H Q ⟨S, G, Hs, ρ, r, p⟩ => by
  refine ⟨S, G, Hs, ρ, r, (Post.bind p).imp fun x Hs1 H1 e q u hu => ?_⟩
  cases z : truD x with
  | none => rw [z] at q; exact q.elim
  | some k =>
    rw [z] at q
    exact ⟨k, truV_of e.sub hu z, q.now e.sub⟩
/-- a comparison as a test -/
theorem vt_cmp {op : CmpOp} {r : R2} {F : D → D → Option D} (ho : OpR X (compareOp op) r) (hd : OpD X.K r F) (ha : VP X W a f) (hb : VP X W b g) (hm : behindInMarks op b = false) : VT X W (.Compare a [op] [b] pos) (e1 bOf (e2 F f g)) := by
  refine PT.imp (pt_cmpR ho ha hb hm) fun σ H Q ⟨S, G, Hs, ρ, r, p⟩ => ?_
  refine sim_op hd σ H _ ⟨S, G, Hs, ρ, r, (Post.bind p).imp fun x Hs1 H1 e q v hv => ?_⟩
  cases x with
  | bool k => cases hv; exact ⟨k, rfl, q.now e.sub⟩
  | none => exact q.elim
  | int _ => exact q.elim
  | str _ => exact q.elim
  | list _ => exact q.elim
  | tuple _ => exact q.elim
  | dict _ => exact q.elim
theorem sim_or {K : Fg} {mg : Str → Option Value} : ∀ σ H Q, tT K mg W (eOr fb gb) σ H Q → tOr (tT K mg W fb) (tT K mg W gb) σ H Q := fun σ H Q ⟨S, G, Hs, ρ, r, p⟩ => by
  refine ⟨S, G, Hs, ρ, r, (Post.bind p).imp fun k Hs1 H1 e q => ?_⟩
  cases k with
  | false => exact ⟨S, G, Hs1, ρ, r.step e, q⟩
  | true => exact q.now e.sub
theorem VW.vt (h : VW X W e fb) : VT X W e fb := PW.pt h
theorem vw_or1 (ha : VT X W a fb) : VW X W (.BoolOp .Or [a] pos) fb := pw_or1 ha
theorem vw_or {rest : List Expr} (ha : VT X W a fb) (hb : VW X W (.BoolOp .Or (b :: rest) pos) gb) : VW X W (.BoolOp .Or (a :: b :: rest) pos) (eOr fb gb) := PW.imp (pw_or ha hb) sim_or
theorem vt_not (ha : VT X W a fb) : VT X W (.UnaryOp .Not a pos) (eNot fb) := PT.imp (pt_not ha) fun σ H Q ⟨S, G, Hs, ρ, r, p⟩ =>
  ⟨S, G, Hs, ρ, r, (Post.bind p).imp fun k Hs1 H1 e q => q.now e.sub⟩
/-! ### arguments, displays -/
theorem va_nil : VA X W [] (cst []) := PA.imp pa_nil fun σ H Q ⟨S, G, Hs, ρ, r, p⟩ => p.now r.sub [] .nil
theorem va_cons (ha : VE X W e f) (hr : VA X W es fl) (hs : starEach (e :: es) X.env = (false, eval e X.env) :: starEach es X.env := by rfl) : VA X W (e :: es) (eCons f fl) := PA.imp (pa_cons ha hr hs) fun σ H Q ⟨S, G, Hs, ρ, r, p⟩ => by
  refine ⟨S, G, Hs, ρ, r, (Post.bind p).imp fun x Hs1 H1 e q u hu => ?_⟩
  refine ⟨S, G, Hs1, ρ, r.step e, (Post.bind q).imp fun xs Hs2 H2 e' q' us hus => ?_⟩
  exact q'.now e'.sub (u :: us) (.cons (hu.mono e'.grow) hus)
def lim (l : List D) : Option (List D) := if l.length ≤ sizeLine then some l else none
theorem lim_some {l l' : List D} (h : lim l = some l') : l' = l ∧ l.length ≤ sizeLine := by
  unfold lim at h
  split at h
  · rename_i z
    exact ⟨(Option.some.inj h).symm, z⟩
  · cases h
def tupD (l : List D) : Option D := (lim l).map .tuple
theorem vo_lst (h : VA X W es fl) : VO X W (.List es pos) (e1 lim fl) := PE.imp (pe_lst h) fun σ H Q ⟨S, G, Hs, ρ, r, p⟩ => by
  refine ⟨S, G, Hs, ρ, r, (Post.bind p).imp fun l Hs1 H1 e q us hus => ?_⟩
  cases z : lim l with
  | none => rw [z] at q; exact q.elim
  | some l' =>
    rw [z] at q
    obtain ⟨rfl, hz⟩ := lim_some z
    refine ⟨by rw [← hus.length]; exact hz, fun p hp => ?_⟩
    have x := Ext.hid (o := .lst us) e.sub hp
    refine q _ _ x p us (e.same.free hp) ?_ upd_same hus
    cases y : Hs1 p with
    | none => rfl
    | some o => rw [e.sub _ _ y] at hp; cases hp
end
end VL

set_option Elab.async false
set_option linter.all false
set_option maxRecDepth 100000
set_option autoImplicit false
namespace VL
open PySem PySem.Spec PyProof.Rows L2

/-! ### operators by data -/
/-- a two-place operator of the machine computes F on data -/
def DOp (X : Cx) (f : Value → Value → Sem Value) (F : D → D → Option D) : Prop := ∃ r, OpR X f r ∧ OpD X.K r F
section
variable {X : Cx} {pins : List (Addr × Obj)} {σ : Sg} {H : Hp} {s : Shared} {a b : Addr} {xs zs : List V}
/-- a list that is read, its very object -/
theorem rd_obj (I : Inv X pins σ H s) (h : SqL X.K H a xs) : xs.length ≤ sizeLine ∧ ∃ (its : List Value) (n : Nat) (sl : Array (Option Value)), Vals xs its ∧ xs.length = its.length ∧ s.heap.get? a = some { cls := .type "list", dict := none, data := .seq its.toArray n, slots := sl } := by
  obtain ⟨its, r, ⟨o, n, e, hc, hd, hs⟩, z⟩ := I.list h
  obtain ⟨c, d, dt, sl⟩ := o
  simp only at hc hd hs
  subst hc hd hs
  exact ⟨z, its, n, sl, r, r.length, e⟩
end
open PySem.AutoSeq1 (wpAny_loadPart') in
theorem list_mulW (l : Addr) (items : Array Value) (n : Nat) (sl : Array (Option Value)) (x : Int) (u : Tok) (hc0 : ¬(!Builtin.List.listFitsIndex x) = true) (hc1 : ¬items.size * x.toNat > (2 ^ 63 - 1) / 8) (hc2 : ¬Builtin.List.listTooLong (items.size * x.toNat) = true) :
    Meets (Builtin.«list.__mul__» ⟨[.ref l, .int x u], []⟩) (fun _ R s => s.heap.get? l = some { cls := .type "list", dict := none, data := .seq items n, slots := sl } ∧ R (.ok (.ret (Value.ref s.heap.objs.size))) { s with heap := s.heap.push { cls := Value.type "list", data := Data.seq (List.foldl (fun x1 x2 => x1 ++ x2) #[] (List.replicate (if items.isEmpty = true then 0 else x.toNat) items)) }, toks := s.toks }) :=
  .of_wp fun prog w A R s h => by
    obtain ⟨hp, g, d, tk, os⟩ := s; obtain ⟨hl, h⟩ := h
    have hsz := PySem.AutoListH.joined_fits hc2
    wp_walk using wpAny_loadPart' hl
    refine wpAny_ite_false (decide_eq_false (Nat.not_lt.mpr hsz)) ?_; wp_walk using wpAny_loadPart' hl; exact ⟨_, rfl, h⟩
open PySem.AutoSeq1 (wpAny_loadPart') in
theorem int_rmulW (a : Int) (t : Tok) (l : Addr) (items : Array Value) (n : Nat) (sl : Array (Option Value)) :
    Meets (Builtin.«int.__rmul__» ⟨[.int a t, .ref l], []⟩) (fun _ R s => s.heap.get? l = some { cls := .type "list", dict := none, data := .seq items n, slots := sl } ∧ R (.ok (.ret Value.notImplemented)) s) :=
  .of_wp fun prog w A R s h => by obtain ⟨hp, g, d, tk, os⟩ := s; obtain ⟨hl, h⟩ := h; wp_walk using wpAny_loadPart' hl; exact ⟨_, rfl, h⟩
section
variable {X : Cx}
def rCatS (K : Fg) : R2 := fun x y H Q => ∃ l b xs zs, x = .ref l ∧ y = .ref b ∧ SqL K H l xs ∧ SqL K H b zs ∧ xs.length + zs.length ≤ sizeLine ∧ ∀ p, H p = none → Q (.ref p) (upd H p (.lst (xs ++ zs)))
theorem op_catR : OpR X (binaryOp .Add) (rCatS X.K) := by
  intro pins s σ H x y v u Q I rx ry h
  obtain ⟨l, b, xs, zs, rfl, rfl, hH, hB, hz, q⟩ := h
  cases rx
  cases ry
  obtain ⟨z, its, n, sl, r, hl, e⟩ := rd_obj I hH
  obtain ⟨z2, its2, n2, sl2, r2, hl2, e2⟩ := rd_obj I hB
  have ea : its.toArray ++ its2.toArray = (its ++ its2).toArray := by simp
  refine concat_meets ⟨_, e, rfl⟩ ⟨_, e2, rfl⟩ noFill_list_add seq_list_add PySem.F.slot_list_add PySem.F.entry_list_add (PySem.F.args_list_add_2 _ _) (list_addW l b its.toArray its2.toArray n n2 none none sl sl2 (by rw [List.size_toArray, List.size_toArray]; omega)) ⟨e, e2, ?_⟩
  rw [ea]
  exact ⟨.ref _, _, I.lnew (t' := s.toks) (r.append r2) (by rw [List.length_append]; omega), rfl, q _ I.fresh⟩
def rRepR (K : Fg) : R2 := fun x y H Q => ∃ l k xs, x = .ref l ∧ y = .int k ∧ SqL K H l xs ∧ -(2 ^ 63) ≤ k ∧ k < 2 ^ 63 ∧ xs.length * k.toNat ≤ sizeLine ∧
  ∀ p, H p = none → Q (.ref p) (upd H p (.lst (List.replicate k.toNat xs).flatten))
theorem op_repR : OpR X (binaryOp .Mult) (rRepR X.K) := by
  intro pins s σ H x y v u Q I rx ry h
  obtain ⟨l, k, xs, rfl, rfl, hH, h1, h2, hz, q⟩ := h
  cases rx
  obtain ⟨t, rfl⟩ := ry
  obtain ⟨z, its, n, sl, r, hl, e⟩ := rd_obj I hH
  have hlen : its.toArray.size * k.toNat ≤ sizeLine := by rw [List.size_toArray, ← hl]; exact hz
  have hcap : ¬ its.toArray.size * k.toNat > (2 ^ 63 - 1) / 8 := by
    have : (sizeLine : Nat) ≤ (2 ^ 63 - 1) / 8 := by decide
    omega
  have hfit : ¬ (!Builtin.List.listFitsIndex k) = true := by
    rw [fitsIndex_both h1 h2]
    exact Bool.false_ne_true
  have hlong : ¬ Builtin.List.listTooLong (its.toArray.size * k.toNat) = true := by
    rw [notLongL hlen]
    exact Bool.false_ne_true
  have hnew : List.foldl (fun x1 x2 => x1 ++ x2) #[] (List.replicate (if its.toArray.isEmpty = true then 0 else k.toNat) its.toArray) = (List.replicate k.toNat its).flatten.toArray := by
    have f0 : ∀ m : Nat, List.foldl (fun x1 x2 => x1 ++ x2) #[] (List.replicate m its.toArray) = (List.replicate m its).flatten.toArray := fun m => by
      have := foldl_rep its m []
      rw [List.nil_append] at this
      exact this
    rw [f0]
    cases its with
    | nil => simp
    | cons a r' => rw [if_neg (by simp)]
  refine wpAny_binaryOp_repeat_ref (T := "list") (U := "int") (by decide) ⟨_, e, rfl⟩ (fun s' => typeIs_int s' k t) noFill_list_mul F.fills_int_mul F.slot_int_rmul repeat_list F.slot_int_index.lookup
    (call_meets F.slot_int_rmul (typeIs_int s k t) F.entry_int_rmul (F.args_int_rmul_2 _ _) (int_rmulW k t l its.toArray n sl)
      ⟨e, rfl, ⟨_, e, rfl⟩, call_meets F.slot_list_mul ⟨_, e, rfl⟩ F.entry_list_mul (F.args_list_mul_2 _ _) (list_mulW l its.toArray n sl k t hfit hcap hlong) ⟨e, ?_⟩⟩)
  rw [hnew]
  exact ⟨.ref _, _, I.lnew (t' := s.toks) (r.rep k.toNat) (by rw [PyProof.Rows.lm_len_rep_flat, Nat.mul_comm]; exact hz), rfl, q _ I.fresh⟩
end

/-! ### the data functions -/
def okMul (i j : Int) : Bool := decide ((Builtin.Int.intBits i : Int) + (Builtin.Int.intBits j : Int) ≤ 134217728)
def okDiv (i j : Int) : Bool := decide (j ≠ 0) && !(Builtin.divisionGoesByPylong i j)
def okPow (i j : Int) : Bool := decide (0 ≤ j ∧ j ≤ 1000000 ∧ i.natAbs < 2 ^ 64)
def catD (a b : List D) : Option (List D) := if a.length + b.length ≤ sizeLine then some (a ++ b) else none
def repD (a : List D) (k : Int) : Option (List D) := if -(2 ^ 63) ≤ k ∧ k < 2 ^ 63 ∧ a.length * k.toNat ≤ sizeLine then some (List.replicate k.toNat a).flatten else none
def addD : D → D → Option D
  | .int i, .int j => some (.int (i + j))
  | .str a, .str b => if a.length + b.length ≤ sizeLine then some (.str (a ++ b)) else none
  | .list a, .list b => (catD a b).map .list
  | _, _ => none
def addO : D → D → Option (List D)
  | .list a, .list b => catD a b
  | _, _ => none
def subD : D → D → Option D
  | .int i, .int j => some (.int (i - j))
  | _, _ => none
def mulD : D → D → Option D
  | .int i, .int j => if okMul i j then some (.int (i * j)) else none
  | .list a, .int k => (repD a k).map .list
  | _, _ => none
def mulO : D → D → Option (List D)
  | .list a, .int k => repD a k
  | _, _ => none
def fdivD : D → D → Option D
  | .int i, .int j => if okDiv i j then some (.int (i.fdiv j)) else none
  | _, _ => none
def modD : D → D → Option D
  | .int i, .int j => if j ≠ 0 then some (.int (i.fmod j)) else none
  | _, _ => none
def powD : D → D → Option D
  | .int i, .int j => if okPow i j then some (.int (i ^ j.toNat)) else none
  | _, _ => none
def ltD : D → D → Option D
  | .int i, .int j => some (.bool (decide (i < j)))
  | _, _ => none
def leD : D → D → Option D
  | .int i, .int j => some (.bool (decide (i ≤ j)))
  | _, _ => none
def gtD : D → D → Option D
  | .int i, .int j => some (.bool (decide (j < i)))
  | _, _ => none
def geD : D → D → Option D
  | .int i, .int j => some (.bool (decide (j ≤ i)))
  | _, _ => none
def eqS : D → D → Option Bool
  | .str x, .str y => some (decide (x = y))
  | _, _ => none
def eqD (a b : D) : Option D := if SeqAt.shaped a && SeqAt.shaped b then some (.bool (PyData.eqv a b)) else (eqS a b).map .bool
def neD (a b : D) : Option D := if SeqAt.shaped a && SeqAt.shaped b then some (.bool (!PyData.eqv a b)) else (eqS a b).map fun b => .bool (!b)
def isNonD : D → Bool
  | .none => true
  | _ => false
def isD : D → D → Option D
  | .bool a, .bool b => some (.bool (decide (a = b)))
  | a, .none => some (.bool (isNonD a))
  | _, _ => none
def negD : D → Option D
  | .int i => some (.int (-i))
  | _ => none
def ixD : D → D → Option D
  | .list l, .int i => atI l i
  | .tuple l, .int i => atI l i
  | .str z, .int i => if z.length ≤ sizeLine then (atI z.cps.toList i).map fun c => .str ⟨#[c]⟩ else none
  | _, _ => none
section
variable {K : Fg} {Hs H : Hp}
theorem RpL.at {ds : List D} {vs : List V} {i : Int} {d : D} (r : RpL K H ds vs) (e : atI ds i = some d) : ∃ v, atI vs i = some v ∧ Rp K H d v := by
  unfold atI at e ⊢
  rw [← r.length]
  cases q : ixN ds.length i with
  | none => rw [q] at e; cases e
  | some j =>
    rw [q] at e
    exact r.get e
/-- a new list, frozen or not -/
theorem new_lst {p : Addr} {l : List D} {vs : List V} (h : Same Hs H) (n : H p = none) (r : RpL K Hs l vs) : Ext Hs H (upd Hs p (.lst vs)) (upd H p (.lst vs)) ∧ Rp K (upd Hs p (.lst vs)) (.list l) (.ref p) :=
  ⟨.new h n, .lst (.inl (.inl upd_same)) (r.mono (Ext.new h n).grow)⟩
end

section
variable {X : Cx}
/-- ints only -/
theorem dop_int {f : Value → Value → Sem Value} {C : Int → Int → Prop} {g : Int → Int → V} {F : D → D → Option D} (ho : OpR X f (rI C g))
    (hF : ∀ x y d, F x y = some d → ∃ i j, x = .int i ∧ y = .int j ∧ C i j ∧ ∀ K H, Rp K H d (g i j)) : DOp X f F := ⟨_, ho, fun Hs H x y u v Q d hs e hx hy k => by
  obtain ⟨i, j, rfl, rfl, hc, hr⟩ := hF x y d e
  exact ⟨i, j, hx.int, hy.int, hc, k _ _ _ (.refl hs) (hr _ _)⟩⟩
theorem dop_int0 {f : Value → Value → Sem Value} {g : Int → Int → V} {F : D → D → Option D} (ho : OpR X f (rI0 g))
    (hF : ∀ x y d, F x y = some d → ∃ i j, x = .int i ∧ y = .int j ∧ ∀ K H, Rp K H d (g i j)) : DOp X f F := ⟨_, ho, fun Hs H x y u v Q d hs e hx hy k => by
  obtain ⟨i, j, rfl, rfl, hr⟩ := hF x y d e
  exact ⟨i, j, hx.int, hy.int, k _ _ _ (.refl hs) (hr _ _)⟩⟩
theorem d_add : DOp X (binaryOp .Add) addD := ⟨_, op_add.or (op_add_str.or op_catR), fun Hs H x y u v Q d hs e hx hy k => by
  unfold addD at e
  split at e
  · cases e
    exact .inl ⟨_, _, hx.int, hy.int, k _ _ _ (.refl hs) (.int _)⟩
  · split at e
    · rename_i hz
      cases e
      exact .inr (.inl ⟨_, _, hx.str, hy.str, hz, k _ _ _ (.refl hs) (.str _)⟩)
    · cases e
  · unfold catD at e
    split at e
    · rename_i hz
      cases e
      obtain ⟨p, xs, rfl, h1, h2⟩ := hx.list hs
      obtain ⟨p', ys, rfl, h3, h4⟩ := hy.list hs
      refine .inr (.inr ⟨p, p', xs, ys, rfl, rfl, h1, h3, by rw [← h2.length, ← h4.length]; exact hz, fun q hq => ?_⟩)
      obtain ⟨e1, e2⟩ := new_lst hs hq (h2.append h4)
      exact k _ _ _ e1 e2
    · cases e
  · cases e⟩
theorem d_mul : DOp X (binaryOp .Mult) mulD := ⟨_, op_mulX.or op_repR, fun Hs H x y u v Q d hs e hx hy k => by
  unfold mulD at e
  split at e
  · split at e
    · rename_i hz
      cases e
      unfold okMul at hz
      have hz' := of_decide_eq_true hz
      exact .inl ⟨_, _, hx.int, hy.int, hz', k _ _ _ (.refl hs) (.int _)⟩
    · cases e
  · unfold repD at e
    split at e
    · rename_i hz
      cases e
      obtain ⟨p, xs, rfl, h1, h2⟩ := hx.list hs
      refine .inr ⟨p, _, xs, rfl, hy.int, h1, hz.1, hz.2.1, by rw [← h2.length]; exact hz.2.2, fun q hq => ?_⟩
      obtain ⟨e1, e2⟩ := new_lst hs hq (h2.replicate _)
      exact k _ _ _ e1 e2
    · cases e
  · cases e⟩
def CDivD (i j : Int) : Prop := okDiv i j = true
theorem op_fdivD : OpR X (binaryOp .FloorDiv) (rI CDivD fun i j => .int (i.fdiv j)) := opI fun i j _ _ _ _ _ hc q => by
  unfold CDivD okDiv at hc
  rw [Bool.and_eq_true] at hc
  exact floordiv_int (of_decide_eq_true hc.1) q (.inl (by simpa using hc.2))
theorem d_fdiv : DOp X (binaryOp .FloorDiv) fdivD := dop_int op_fdivD fun x y d e => by
  unfold fdivD at e
  split at e
  · split at e
    · rename_i hz
      cases e; exact ⟨_, _, rfl, rfl, hz, fun _ _ => .int _⟩
    · cases e
  · cases e
theorem d_mod : DOp X (binaryOp .Mod) modD := dop_int op_modN fun x y d e => by
  unfold modD at e
  split at e
  · split at e
    · rename_i hz
      cases e; exact ⟨_, _, rfl, rfl, hz, fun _ _ => .int _⟩
    · cases e
  · cases e
theorem d_pow : DOp X (binaryOp .Pow) powD := dop_int op_pow fun x y d e => by
  unfold powD at e
  split at e
  · split at e
    · rename_i hz
      unfold okPow at hz
      have hz' := of_decide_eq_true hz
      cases e; exact ⟨_, _, rfl, rfl, hz', fun _ _ => .int _⟩
    · cases e
  · cases e
theorem d_gt : DOp X (compareOp .Gt) gtD := dop_int0 op_gt fun x y d e => by
  unfold gtD at e
  split at e
  · cases e; exact ⟨_, _, rfl, rfl, fun _ _ => .bl _⟩
  · cases e
theorem d_ge : DOp X (compareOp .GtE) geD := dop_int0 op_ge fun x y d e => by
  unfold geD at e
  split at e
  · cases e; exact ⟨_, _, rfl, rfl, fun _ _ => .bl _⟩
  · cases e
theorem eqS_some {a b : D} {r : Bool} (h : eqS a b = some r) : ∃ x y, a = .str x ∧ b = .str y ∧ r = decide (x = y) := by
  cases a <;> cases b <;> simp [eqS] at h
  exact ⟨_, _, rfl, rfl, h.symm⟩
theorem dec_str (x y : Str) : decide (V.str x = V.str y) = decide (x = y) := by
  by_cases h : x = y
  · subst h; simp
  · rw [decide_eq_false h, decide_eq_false (fun z => h (V.str.inj z))]
theorem d_eq (hu : X.A.units + 64 < cLine) : DOp X (compareOp .Eq) eqD := ⟨_, (op_eqD hu).or op_eq, fun Hs H x y u v Q d hs e hx hy k => by
  unfold eqD at e
  split at e
  · rename_i hz
    cases e
    rw [Bool.and_eq_true] at hz
    exact .inl ⟨x, y, (hx.rp hs).dp (nodict_of hz.1), (hy.rp hs).dp (nodict_of hz.2), hz.1, hz.2, k _ _ _ (.refl hs) (.bl _)⟩
  · obtain ⟨r, e1, rfl⟩ := Option.map_eq_some_iff.mp e
    obtain ⟨a, b, rfl, rfl, rfl⟩ := eqS_some e1
    right
    rw [hx.str, hy.str]
    exact ⟨rfl, by rw [dec_str]; exact k _ _ _ (.refl hs) (.bl _)⟩⟩
theorem d_ne (hu : X.A.units + 64 < cLine) : DOp X (compareOp .NotEq) neD := ⟨_, (op_neD hu).or op_ne, fun Hs H x y u v Q d hs e hx hy k => by
  unfold neD at e
  split at e
  · rename_i hz
    cases e
    rw [Bool.and_eq_true] at hz
    exact .inl ⟨x, y, (hx.rp hs).dp (nodict_of hz.1), (hy.rp hs).dp (nodict_of hz.2), hz.1, hz.2, k _ _ _ (.refl hs) (.bl _)⟩
  · obtain ⟨r, e1, rfl⟩ := Option.map_eq_some_iff.mp e
    obtain ⟨a, b, rfl, rfl, rfl⟩ := eqS_some e1
    right
    rw [hx.str, hy.str]
    exact ⟨rfl, by rw [dec_str]; exact k _ _ _ (.refl hs) (.bl _)⟩⟩
def DIx (X : Cx) (F : D → D → Option D) : Prop := ∃ r, IxR X r ∧ OpD X.K r F
theorem d_ix : DIx X ixD := ⟨_, ix_seq, fun Hs H x y u v Q d hs e hx hy k => by
  unfold ixD at e
  split at e
  · obtain ⟨a, xs, rfl, h1, h2⟩ := hx.list hs
    obtain ⟨w, e1, e2⟩ := h2.at e
    exact .inl ⟨a, xs, _, w, rfl, hy.int, h1, e1, k _ _ _ (.refl hs) e2⟩
  · obtain ⟨a, xs, rfl, h1, h2⟩ := hx.tup hs
    obtain ⟨w, e1, e2⟩ := h2.at e
    exact .inr (.inl ⟨a, xs, _, w, rfl, hy.int, h1, e1, k _ _ _ (.refl hs) e2⟩)
  · split at e
    · rename_i hz
      obtain ⟨c, e1, rfl⟩ := Option.map_eq_some_iff.mp e
      exact .inr (.inr ⟨_, _, c, hx.str, hy.int, hz, e1, k _ _ _ (.refl hs) (.str _)⟩)
    · cases e
  · cases e⟩
end

section
variable {X : Cx} {W : WX} {a b c e : Expr} {es : List Expr} {pos : Pos} {f g h : Ev → R D} {F F' : D → D → Option D}
theorem v_op {op : Operator} (ho : DOp X (binaryOp op) F) (ha : VP X W a f) (hb : VP X W b g) : VE X W (.BinOp a op b pos) (e2 F f g) := let ⟨_, h1, h2⟩ := ho; ve_op h1 h2 ha hb
theorem v_cmp {op : CmpOp} (ho : DOp X (compareOp op) F) (ha : VP X W a f) (hb : VP X W b g) (hm : behindInMarks op b = false := by first | exact nomark _ | rfl) : VE X W (.Compare a [op] [b] pos) (e2 F f g) := let ⟨_, h1, h2⟩ := ho; ve_cmp h1 h2 ha hb hm
theorem t_cmp {op : CmpOp} (ho : DOp X (compareOp op) F) (ha : VP X W a f) (hb : VP X W b g) (hm : behindInMarks op b = false := by first | exact nomark _ | rfl) : VT X W (.Compare a [op] [b] pos) (e1 bOf (e2 F f g)) := let ⟨_, h1, h2⟩ := ho; vt_cmp h1 h2 ha hb hm
theorem v_ix (ho : DIx X F) (ha : VP X W a f) (hb : VP X W b g) (hs : PlainIx b := by exact fun _ _ => rfl) : VE X W (.Subscript a b pos) (e2 F f g) := let ⟨_, h1, h2⟩ := ho; ve_ix h1 h2 ha hb hs
theorem t_tru (ha : VP X W a f) (he : ∀ whole, isTrue a X.env whole = (do let v ← whole; standAt a.pos; holding [v] (truthy v)) := by intro _; rfl) : VT X W a (e1 truD f) := vt_tru ha he
end
end VL

set_option Elab.async false
set_option linter.all false
set_option maxRecDepth 100000
set_option autoImplicit false
namespace VL
open PySem PySem.Spec PyProof.Rows L2

/-! ### arguments that are read at once -/
def PkL (K : Fg) (Hs H : Hp) : List D → List V → Prop
  | [], [] => True
  | d :: ds, v :: vs => Pk K Hs H d v ∧ PkL K Hs H ds vs
  | _, _ => False
theorem PkL.one {K : Fg} {Hs H : Hp} {d : D} {vs : List V} (h : PkL K Hs H [d] vs) : ∃ v, vs = [v] ∧ Pk K Hs H d v := by
  cases vs with
  | nil => exact h.elim
  | cons v r =>
    cases r with
    | nil => exact ⟨v, rfl, h.1⟩
    | cons w r => exact h.2.elim
theorem PkL.two {K : Fg} {Hs H : Hp} {d e : D} {vs : List V} (h : PkL K Hs H [d, e] vs) : ∃ v w, vs = [v, w] ∧ Pk K Hs H d v ∧ Pk K Hs H e w := by
  cases vs with
  | nil => exact h.elim
  | cons v r =>
    cases r with
    | nil => exact h.2.elim
    | cons w r =>
      cases r with
      | nil => exact ⟨v, w, rfl, h.1, h.2.1⟩
      | cons _ r => exact h.2.2.elim
def tAp (K : Fg) (mg : Str → Option Value) (W : WX) (f : Ev → R (List D)) : TA := fun σ H Q => ∃ S G Hs ρ, RelE K S G Hs H σ ρ ∧ Post K mg W Hs H σ (f ρ) (fun ds Hs' H' => ∀ vs, PkL K Hs' H' ds vs → Q vs H')
def VAp (X : Cx) (W : WX) (es : List Expr) (f : Ev → R (List D)) : Prop := PA X es (tAp X.K X.mg W f)
section
variable {X : Cx} {W : WX} {e a b c : Expr} {es : List Expr} {pos : Pos} {f g : Ev → R D} {fl : Ev → R (List D)}
theorem vap_nil : VAp X W [] (cst []) := PA.imp pa_nil fun σ H Q ⟨S, G, Hs, ρ, r, p⟩ => p.now r.sub [] trivial
theorem vap_cons (ha : VP X W e f) (hr : VAp X W es fl) (hs : starEach (e :: es) X.env = (false, eval e X.env) :: starEach es X.env := by rfl) : VAp X W (e :: es) (eCons f fl) := PA.imp (pa_cons ha hr hs) fun σ H Q ⟨S, G, Hs, ρ, r, p⟩ => by
  refine ⟨S, G, Hs, ρ, r, (Post.bind p).imp fun x Hs1 H1 e q u hu => ?_⟩
  refine ⟨S, G, Hs1, ρ, r.step e, (Post.bind q).imp fun xs Hs2 H2 e' q' us hus => ?_⟩
  exact q'.now e'.sub (u :: us) ⟨hu.up e', hus⟩

/-! ### built-in functions -/
def CalD (X : Cx) (f : Value) (F : List D → Option D) : Prop := ∃ r, CallR X f r ∧ ∀ (Hs H : Hp) (ds : List D) (vs : List V) (Q : VK) (d : D), Same Hs H → F ds = some d → PkL X.K Hs H ds vs →
  (∀ Hs' H' w, Ext Hs H Hs' H' → Rp X.K Hs' d w → Q w H') → r vs H Q
theorem sim_cal {K : Fg} {mg : Str → Option Value} {r : List V → Hp → VK → Prop} {F : List D → Option D} (h : ∀ (Hs H : Hp) (ds : List D) (vs : List V) (Q : VK) (d : D), Same Hs H → F ds = some d → PkL K Hs H ds vs →
    (∀ Hs' H' w, Ext Hs H Hs' H' → Rp K Hs' d w → Q w H') → r vs H Q) : ∀ σ H Q, tE K mg W (e1 F fl) σ H Q → tCB r (tAp K mg W fl) σ H Q := fun σ H Q ⟨S, G, Hs, ρ, r, p⟩ => by
  refine ⟨S, G, Hs, ρ, r, (Post.bind p).imp fun ds Hs1 H1 e q vs hv => ?_⟩
  cases z : F ds with
  | none => rw [z] at q; exact q.elim
  | some d =>
    rw [z] at q
    exact h Hs1 H1 ds vs Q d e.sub z hv fun Hs' H' w e'' hw => q Hs' H' e'' w hw
variable {x : Str} {p : Pos} {bid T : String} {F : List D → Option D} {G : List D → Option (List D)}
theorem v_blt (hc : CalD X (.builtin bid) F) (hg : Gl X x) (hm : X.mg x = none) (hv : bootBuiltins x = some (.builtin bid)) (ha : VAp X W (e :: es) fl) (hn : x ≠ "__name__" := by decide) (hdb : (x == ("__debug__" : Str)) = false := by decide)
    (he : starEach (e :: es) X.env = (false, eval e X.env) :: starEach es X.env := by rfl) (hpl : (backTo pos (starEach es X.env)).any (·.1) = false := by rfl) : VE X W (.Call (.Name x p) (e :: es) [] pos) (e1 F fl) :=
  let ⟨_, h1, h2⟩ := hc; PE.imp (pe_callB h1 hg hm hv ha hn hdb he hpl) (sim_cal h2)
theorem v_typ (hc : CalD X (.type T) F) (hg : Gl X x) (hm : X.mg x = none) (hv : bootBuiltins x = some (.type T)) (ha : VAp X W (e :: es) fl) (hn : x ≠ "__name__" := by decide) (hdb : (x == ("__debug__" : Str)) = false := by decide)
    (he : starEach (e :: es) X.env = (false, eval e X.env) :: starEach es X.env := by rfl) (hpl : (backTo pos (starEach es X.env)).any (·.1) = false := by rfl) : VE X W (.Call (.Name x p) (e :: es) [] pos) (e1 F fl) :=
  let ⟨_, h1, h2⟩ := hc; PE.imp (pe_callTy h1 hg hm hv ha hn hdb he hpl) (sim_cal h2)
def gcdD : List D → Option D
  | [.int a, .int b] => some (.int ((Nat.gcd a.natAbs b.natAbs : Nat) : Int))
  | _ => none
def lenD : List D → Option D
  | [.list l] => some (.int l.length)
  | [.tuple l] => some (.int l.length)
  | [.str z] => if z.length ≤ sizeLine then some (.int z.length) else none
  | _ => none
theorem c_len : CalD X (.builtin "len") lenD := ⟨_, call_len_seq.or call_len_str, fun Hs H ds vs Q d hs e hv k => by
  unfold lenD at e
  split at e
  · cases e
    obtain ⟨v, rfl, h⟩ := hv.one
    obtain ⟨a, xs, rfl, h1, h2⟩ := h.list hs
    refine .inl ⟨a, xs, rfl, .inl h1, ?_⟩
    rw [← h2.length]
    exact k _ _ _ (.refl hs) (.int _)
  · cases e
    obtain ⟨v, rfl, h⟩ := hv.one
    obtain ⟨a, xs, rfl, h1, h2⟩ := h.tup hs
    refine .inl ⟨a, xs, rfl, .inr h1, ?_⟩
    rw [← h2.length]
    exact k _ _ _ (.refl hs) (.int _)
  · split at e
    · rename_i hz
      cases e
      obtain ⟨v, rfl, h⟩ := hv.one
      exact .inr ⟨_, by rw [h.str], hz, k _ _ _ (.refl hs) (.int _)⟩
    · cases e
  · cases e⟩
def intD : List D → Option D
  | [.int i] => some (.int i)
  | [.bool b] => some (.int (if b then 1 else 0))
  | _ => none
theorem c_int : CalD X (.type "int") intD := ⟨_, call_int1, fun Hs H ds vs Q d hs e hv k => by
  unfold intD at e
  split at e
  · cases e
    obtain ⟨v, rfl, h⟩ := hv.one
    exact .inl ⟨_, by rw [h.int], k _ _ _ (.refl hs) (.int _)⟩
  · cases e
    obtain ⟨v, rfl, h⟩ := hv.one
    exact .inr ⟨_, by rw [h.bl], k _ _ _ (.refl hs) (.int _)⟩
  · cases e⟩
def absD : List D → Option D
  | [.int i] => some (.int (if i < 0 then -i else i))
  | _ => none
def blsD : List D → Option (List Bool)
  | [] => some []
  | .bool b :: r => (blsD r).map (b :: ·)
  | _ :: _ => none
def intsD : List D → Option (List Int)
  | [] => some []
  | .int b :: r => (intsD r).map (b :: ·)
  | _ :: _ => none
theorem blsD_rp {K : Fg} {H : Hp} : ∀ {l : List D} {bs : List Bool} {vs : List V}, blsD l = some bs → RpL K H l vs → vs = bs.map V.bl
  | [], bs, vs, e, r => by cases e; cases r; rfl
  | .bool b :: l, bs, vs, e, r => by
    obtain ⟨bs', e', rfl⟩ := Option.map_eq_some_iff.mp (show (blsD l).map _ = some bs from e)
    cases r with
    | cons h r => cases h; rw [blsD_rp e' r]; rfl
  | .none :: _, _, _, e, _ => by cases e
  | .int _ :: _, _, _, e, _ => by cases e
  | .str _ :: _, _, _, e, _ => by cases e
  | .list _ :: _, _, _, e, _ => by cases e
  | .tuple _ :: _, _, _, e, _ => by cases e
  | .dict _ :: _, _, _, e, _ => by cases e
theorem blsD_map : ∀ bs : List Bool, blsD (bs.map .bool) = some bs
  | [] => rfl
  | b :: bs => by show (blsD (bs.map .bool)).map _ = _; rw [blsD_map bs]; rfl
theorem intsD_map : ∀ bs : List Int, intsD (bs.map .int) = some bs
  | [] => rfl
  | b :: bs => by show (intsD (bs.map .int)).map _ = _; rw [intsD_map bs]; rfl
def allD : List D → Option D
  | [.list l] => (blsD l).map fun bs => .bool (bs.all id)
  | _ => none
def anyD : List D → Option D
  | [.list l] => (blsD l).map fun bs => .bool (bs.any id)
  | _ => none
def sumD : List D → Option D
  | [.list l] => (intsD l).map fun bs => .int bs.sum
  | _ => none
theorem c_all (hc : X.calm = true) : CalD X (.builtin "all") allD := ⟨_, cr_all hc, fun Hs H ds vs Q d hs e hv k => by
  unfold allD at e
  split at e
  · obtain ⟨bs, e', rfl⟩ := Option.map_eq_some_iff.mp e
    obtain ⟨v, rfl, h⟩ := hv.one
    obtain ⟨a, xs, rfl, h1, h2⟩ := h.list hs
    rw [blsD_rp e' h2] at h1
    exact ⟨a, bs, rfl, h1, k _ _ _ (.refl hs) (.bl _)⟩
  · cases e⟩
def listO : List D → Option (List D)
  | [.list l] => some l
  | [.tuple l] => some l
  | _ => none
def tupleD : List D → Option D
  | [.list l] => some (.tuple l)
  | [.tuple l] => some (.tuple l)
  | _ => none
/-! ### isinstance of a built-in type -/
def tyD : D → String
  | .none => "NoneType"
  | .bool _ => "bool"
  | .int _ => "int"
  | .str _ => "str"
  | .list _ => "list"
  | .tuple _ => "tuple"
  | .dict _ => "dict"
def isiD (n : String) (d : D) : Option D := match d with
  | .dict _ => none
  | d => (kitB (tyD d) n).map .bool
end

/-! ### slices -/
def cutL (l : List D) (lo hi : Option Int) : List D := (l.drop (HT.sIx l.length 0 lo)).take (HT.sIx l.length l.length hi - HT.sIx l.length 0 lo)
def sliceD (x : D) (lo hi : Option Int) : Option D := match x with
  | .list l => some (.list (cutL l lo hi))
  | .tuple l => some (.tuple (cutL l lo hi))
  | .str z => if z.length ≤ sizeLine then some (.str (cutS z lo hi)) else none
  | _ => none
def sliceO (x : D) (lo hi : Option Int) : Option (List D) := match x with
  | .list l => some (cutL l lo hi)
  | _ => none
def pNo : Ev → R (Option Int) := cst none
def intOf : D → Option (Option Int)
  | .int i => some (some i)
  | _ => none
theorem PO.imp {X : Cx} {e : Option Expr} {t t' : TO} (h : PO X e t) (i : ∀ σ H Q, t' σ H Q → t σ H Q) : PO X e t' := ⟨fun pins s σ H Q I q => h.run pins s σ H Q I (i σ H Q q)⟩
def e3 {α β γ δ : Type} (F : α → β → γ → Option δ) (f : Ev → R α) (g : Ev → R β) (h : Ev → R γ) : Ev → R δ := fun ρ => (f ρ).bind fun x => (g ρ).bind fun y => (h ρ).bind fun z => ofO (F x y z)
section
variable {X : Cx} {W : WX} {e a b c : Expr} {lo hi : Option Expr} {p2 pos : Pos} {f g : Ev → R D} {gl gh : Ev → R (Option Int)}
end
end VL

set_option Elab.async false
set_option linter.all false
set_option maxRecDepth 100000
set_option autoImplicit false
namespace VL
open PySem PySem.Spec PyProof.Rows L2

section
variable {X : Cx} {W : WX} {e a b c : Expr} {lo hi : Option Expr} {p2 pos : Pos} {f g : Ev → R D} {gl gh : Ev → R (Option Int)}
/-- xs[::-1] -/
def revO : D → Option (List D)
  | .list l => some l.reverse
  | _ => none
end

/-! ### statements -/
/-- what a def's end hands back -/
def RpO (K : Fg) (G Hs H : Hp) : SD → V → Prop
  | .no, _ => False
  | .bo _, _ => False
  | .sh d, v => Rp K Hs d v
  | .ow l, v => ∃ p vs, v = .ref p ∧ G p = none ∧ Hs p = none ∧ H p = some (.lst vs) ∧ RpL K Hs l vs
def OutOk (K : Fg) (mg : Str → Option Value) (W : WX) (S : Hp) (G : Gx) (Hs : Hp) (D : Ends) : Out → Prop
  | .nx ρ => ∀ Hs' H' σ', Same Hs Hs' → RelE K S G Hs' H' σ' ρ → D.nx σ' H'
  | .bk ρ => ∀ Hs' H' σ', Same Hs Hs' → RelE K S G Hs' H' σ' ρ → D.bk σ' H'
  | .ct ρ => ∀ Hs' H' σ', Same Hs Hs' → RelE K S G Hs' H' σ' ρ → D.ct σ' H'
  | .rt r => ∀ Hs' H' v, Ext S G.h Hs' H' → RpO K G.h Hs' H' r v → D.rt v H'
  | .rtB r ρ => ∀ Hs' H' v σ', Same Hs Hs' → RelE K S G Hs' H' σ' ρ → RpO K G.h Hs' H' r v → (∀ l, r = .ow l → ∀ i p, G.b i = some p → v ≠ .ref p) → D.rt v H'
  | .ex x ρ => ∀ Hs' H' σ' cls dd, Same Hs Hs' → RelE K S G Hs' H' σ' ρ → XRp K mg H' x cls dd → W cls dd σ' H'
  | .bad => False
def tS (K : Fg) (mg : Str → Option Value) (W : WX) (F : Ev → Out) : TS := fun D σ H => ∃ S G Hs ρ, RelE K S G Hs H σ ρ ∧ OutOk K mg W S G Hs D (F ρ)
def VS (X : Cx) (W : WX) (st : Stmt) (F : Ev → Out) : Prop := PS X st (tS X.K X.mg W F)
def VSs (X : Cx) (W : WX) (st : List Stmt) (F : Ev → Out) : Prop := PSs X st (tS X.K X.mg W F)

theorem OutOk.up {K : Fg} {mg : Str → Option Value} {W : WX} {S Hs Hs1 : Hp} {G : Gx} {D : Ends} {o : Out} (h : OutOk K mg W S G Hs D o) (e : Same Hs Hs1) : OutOk K mg W S G Hs1 D o := by
  cases o with
  | nx ρ => exact fun Hs' H' σ' a => h Hs' H' σ' (e.trans a)
  | bk ρ => exact fun Hs' H' σ' a => h Hs' H' σ' (e.trans a)
  | ct ρ => exact fun Hs' H' σ' a => h Hs' H' σ' (e.trans a)
  | rt r => exact h
  | rtB r ρ => exact fun Hs' H' v σ' a => h Hs' H' v σ' (e.trans a)
  | ex x ρ => exact fun Hs' H' σ' cls dd a => h Hs' H' σ' cls dd (e.trans a)
  | bad => exact h
theorem RelE.ext' {K : Fg} {S Hs H : Hp} {G : Gx} {σ : Sg} {ρ : Ev} (r : RelE K S G Hs H σ ρ) : Ext S G.h Hs H := ⟨r.sub, r.old, r.ext, r.new⟩

/-- an evaluation ahead -/
def liftE {α : Type} (r : R α) (ρ : Ev) (k : α → Out) : Out := match r with
  | .ok a => k a
  | .ex x => .ex x ρ
  | .bad => .bad
theorem lift_post {α : Type} {K : Fg} {mg : Str → Option Value} {W : WX} {S Hs H : Hp} {G : Gx} {σ : Sg} {ρ : Ev} {D : Ends} {r : R α} {k : α → Out} (rl : RelE K S G Hs H σ ρ) (h : OutOk K mg W S G Hs D (liftE r ρ k)) :
    Post K mg W Hs H σ r (fun a Hs' H' => OutOk K mg W S G Hs' D (k a)) := by
  cases r with
  | ok a => exact fun Hs' H' e => OutOk.up h e.grow
  | ex x => exact fun Hs' H' cls dd e hx => h Hs' H' σ cls dd e.grow (rl.step e) hx
  | bad => exact h

def seqO (o : Out) (k : Ev → Out) : Out := match o with
  | .nx ρ => k ρ
  | o => o
def sNil : Ev → Out := .nx
def sSeq (F G : Ev → Out) : Ev → Out := fun ρ => seqO (F ρ) G
section
variable {X : Cx} {W : WX} {e a b c : Expr} {es : List Expr} {pos : Pos} {f g : Ev → R D} {fl : Ev → R (List D)} {fb : Ev → R Bool} {st : Stmt} {rest : List Stmt} {F F' : Ev → Out}
theorem sim_seq {K : Fg} {mg : Str → Option Value} : ∀ D σ H, tS K mg W (sSeq F F') D σ H → tSeq (tS K mg W F) (tS K mg W F') D σ H := fun D σ H ⟨S, G, Hs, ρ, r, h⟩ => by
  refine ⟨S, G, Hs, ρ, r, ?_⟩
  unfold sSeq seqO at h
  cases q : F ρ with
  | nx ρ' =>
    rw [q] at h
    exact fun Hs' H' σ' a r' => ⟨S, G, Hs', ρ', r', h.up a⟩
  | bk ρ' => rw [q] at h; exact h
  | ct ρ' => rw [q] at h; exact h
  | rt r' => rw [q] at h; exact h
  | rtB r' ρ' => rw [q] at h; exact h
  | ex x ρ' => rw [q] at h; exact h
  | bad => rw [q] at h; exact h
theorem vss_nil : VSs X W [] sNil := PSs.imp pss_nil fun D σ H ⟨S, G, Hs, ρ, r, h⟩ => h Hs H σ (.refl _) r
theorem vss_cons (h1 : VS X W st F) (h2 : VSs X W rest F') : VSs X W (st :: rest) (sSeq F F') := PSs.imp (pss_cons h1 h2) sim_seq
theorem vss_one (h1 : VS X W st F) : VSs X W [st] F := pss_one h1
def sRet (f : Ev → R D) : Ev → Out := fun ρ => liftE (f ρ) ρ fun d => .rt (.sh d)
def sRetO (f : Ev → R (List D)) : Ev → Out := fun ρ => liftE (f ρ) ρ fun d => .rt (.ow d)
theorem vs_ret (he : VE X W e f) : VS X W (.Return (some e) pos) (sRet f) := PS.imp (ps_ret he) fun D σ H ⟨S, G, Hs, ρ, r, h⟩ =>
  ⟨S, G, Hs, ρ, r, (lift_post r h).imp fun d Hs' H' e q v hv => q Hs' H' v (r.step e).ext' hv⟩
/-- return x, x a list of one's own -/
def sRetV (i : Nat) : Ev → Out := fun ρ => match ρ[i]? with
  | some (.ow l) => .rt (.ow l)
  | some (.sh d) => .rt (.sh d)
  | _ => .bad
theorem vs_retV (i : Nat) {x : Str} {p : Pos} (h : PE X (.Name x p) (tVar i)) : VS X W (.Return (some (.Name x p)) pos) (sRetV i) := PS.imp (ps_ret h) fun D σ H ⟨S, G, Hs, ρ, r, h⟩ => by
  unfold sRetV at h
  cases q : ρ[i]? with
  | none => rw [q] at h; exact h.elim
  | some s =>
    rw [q] at h
    cases s with
    | no => exact h.elim
    | sh d =>
      obtain ⟨v, e1, e2⟩ := r.get q
      exact ⟨v, e1, h Hs H v r.ext' e2⟩
    | bo l => exact h.elim
    | ow l =>
      obtain ⟨p, vs, e1, e2, e3, e4, e5⟩ := r.own q
      exact ⟨_, e1, h Hs H _ r.ext' ⟨p, vs, rfl, e2, e3, e4, e5⟩⟩
def sRetN : Ev → Out := fun _ => .rt (.sh .none)
def sIf (c : Ev → R Bool) (F F' : Ev → Out) : Ev → Out := fun ρ => liftE (c ρ) ρ fun b => if b then F ρ else F' ρ
theorem vs_if {p q : List Stmt} (hc : VT X W c fb) (ha : VSs X W p F) (hb : VSs X W q F') : VS X W (.If c p q pos) (sIf fb F F') := PS.imp (ps_if hc ha hb) fun D σ H ⟨S, G, Hs, ρ, r, h⟩ => by
  refine ⟨S, G, Hs, ρ, r, (lift_post r h).imp fun k Hs' H' e q => ?_⟩
  cases k with
  | true => exact ⟨S, G, Hs', ρ, r.step e, q⟩
  | false => exact ⟨S, G, Hs', ρ, r.step e, q⟩
def sDrop (f : Ev → R D) : Ev → Out := fun ρ => liftE (f ρ) ρ fun _ => .nx ρ
/-- a list of one's own is frozen here -/
def sFz (i : Nat) (F : Ev → Out) : Ev → Out := fun ρ => match ρ[i]? with
  | some (.ow l) => F (ρ.set i (.sh (.list l)))
  | _ => F ρ
/-! ### targets -/
/-- g: what an assigned item makes of the slots; ts: the slots that it may change -/
def tGt (K : Fg) (ts : List Nat) (g : D → Ev → Option Ev) : TG := fun v σ H Q => ∃ S G Hs ρ d ρ', RelE K S G Hs H σ ρ ∧ Rp K Hs d v ∧ g d ρ = some ρ' ∧
  ∀ σ', σ'.length = σ.length → (∀ j, j ∉ ts → σ'[j]? = σ[j]?) → RelE K S G Hs H σ' ρ' → Q σ' H
def VG (X : Cx) (tg : Expr) (ts : List Nat) (g : D → Ev → Option Ev) : Prop := PG X tg (tGt X.K ts g)
def gSet (i : Nat) : D → Ev → Option Ev := fun d ρ => some (ρ.set i (.sh d))
theorem vg_name {i : Nat} {x : Str} (h : PG X (.Name x pos) (gName i)) : VG X (.Name x pos) [i] (gSet i) := PG.imp h fun v σ H Q ⟨S, G, Hs, ρ, d, ρ', r, hd, e, q⟩ => by
  cases e
  refine q _ (by simp) (fun j hj => ?_) (r.set hd)
  rw [List.getElem?_set_ne]
  intro z
  exact hj (by simp [z])
def gsNil : List D → Ev → Option Ev
  | [], ρ => some ρ
  | _ :: _, _ => none
def gsCons (g : D → Ev → Option Ev) (h : List D → Ev → Option Ev) : List D → Ev → Option Ev
  | [], _ => none
  | d :: ds, ρ => (g d ρ).bind (h ds)
theorem PGs.imp {tg : List Expr} {t t' : TGs} (h : PGs X tg t) (i : ∀ v σ H Q, t' v σ H Q → t v σ H Q) : PGs X tg t' := ⟨fun pins s σ H v u Q I r q => h.run pins s σ H v u Q I r (i v σ H Q q)⟩
def gTupD (n : Nat) (k : List D → Ev → Option Ev) : D → Ev → Option Ev := fun d ρ => match d with
  | .tuple l => if l.length = n then k l ρ else none
  | .list l => if l.length = n then k l ρ else none
  | _ => none
theorem PG.or {tg : Expr} {t t' : TG} (h : PG X tg t) (h' : PG X tg t') : PG X tg (fun v σ H Q => t v σ H Q ∨ t' v σ H Q) := ⟨fun pins s σ H v u Q I r q => q.elim (h.run pins s σ H v u Q I r) (h'.run pins s σ H v u Q I r)⟩
/-! ### assignments -/
def sAsg (f : Ev → R D) (g : D → Ev → Option Ev) : Ev → Out := fun ρ => liftE (f ρ) ρ fun d => match g d ρ with
  | some ρ' => .nx ρ'
  | none => .bad
def sSet (i : Nat) (f : Ev → R D) : Ev → Out := fun ρ => liftE (f ρ) ρ fun d => .nx (ρ.set i (.sh d))
theorem sim_set {K : Fg} {mg : Str → Option Value} {i : Nat} : ∀ D σ H, tS K mg W (sSet i f) D σ H → tAsg (tE K mg W f) (gName i) D σ H := fun D σ H ⟨S, G, Hs, ρ, r, h⟩ =>
  ⟨S, G, Hs, ρ, r, (lift_post r h).imp fun d Hs' H' e q v hv => q Hs' H' _ (.refl _) ((r.step e).set hv)⟩
def sSetO (i : Nat) (f : Ev → R (List D)) : Ev → Out := fun ρ => liftE (f ρ) ρ fun d => .nx (ρ.set i (.ow d))
theorem sim_setO {K : Fg} {mg : Str → Option Value} {i : Nat} : ∀ D σ H, tS K mg W (sSetO i fl) D σ H → tAsg (tO K mg W fl) (gName i) D σ H := fun D σ H ⟨S, G, Hs, ρ, r, h⟩ =>
  ⟨S, G, Hs, ρ, r, (lift_post r h).imp fun d Hs' H' e q p vs h0 h1 h2 h3 => q Hs' H' _ (.refl _) (r.setOw e h0 h1 h2 h3)⟩
theorem vs_set {i : Nat} {x : Str} {pos' : Pos} (hN : X.N.Nodup) (hi : X.N[i]? = some x) (hx : Loc X.env.scope x) (he : VE X W e f) (hs : swapsWith e (some (.Name x pos')) pos.line X.env = pure false := by rfl) (hf : X.fn x = true ∨ X.env.scope.names.lookup x = some .local := by first | exact .inl rfl | exact .inr rfl | assumption) :
    VS X W (.Assign [.Name x pos'] e pos) (sSet i f) := PS.imp (ps_set hN hi hx he hs hf) sim_set
theorem vs_setO {i : Nat} {x : Str} {pos' : Pos} (hN : X.N.Nodup) (hi : X.N[i]? = some x) (hx : Loc X.env.scope x) (he : VO X W e fl) (hs : swapsWith e (some (.Name x pos')) pos.line X.env = pure false := by rfl) (hf : X.fn x = true ∨ X.env.scope.names.lookup x = some .local := by first | exact .inl rfl | exact .inr rfl | assumption) :
    VS X W (.Assign [.Name x pos'] e pos) (sSetO i fl) := PS.imp (ps_set hN hi hx he hs hf) sim_setO
def sPar (i j : Nat) (fl : Ev → R (List D)) : Ev → Out := fun ρ => liftE (fl ρ) ρ fun ds => match ds with
  | [d, d'] => .nx ((ρ.set i (.sh d)).set j (.sh d'))
  | _ => .bad
/-- x op= e -/
def sAug (i : Nat) (F : D → D → Option D) (f : Ev → R D) : Ev → Out := fun ρ => liftE ((eVar i ρ).bind fun x => (f ρ).bind fun y => ofO (F x y)) ρ fun d => .nx (ρ.set i (.sh d))
def iaddD : D → D → Option D
  | .int i, .int j => some (.int (i + j))
  | _, _ => none
def imulD : D → D → Option D
  | .int i, .int j => if okMul i j then some (.int (i * j)) else none
  | _, _ => none
/-- x.append(e), x a list of one's own -/
def onOw (i : Nat) (ρ : Ev) (k : List D → Out) : Out := match ρ[i]? with
  | some (.ow l) => k l
  | _ => .bad
theorem on_own {K : Fg} {mg : Str → Option Value} {S Hs : Hp} {G : Gx} {En : Ends} {i : Nat} {ρ : Ev} {k : List D → Out} (h : OutOk K mg W S G Hs En (onOw i ρ k)) : ∃ l, ρ[i]? = some (.ow l) ∧ OutOk K mg W S G Hs En (k l) := by
  unfold onOw at h
  split at h
  · exact ⟨_, by assumption, h⟩
  · exact h.elim
def sApp (i : Nat) (f : Ev → R D) : Ev → Out := fun ρ => onOw i ρ fun l => liftE (f ρ) ρ fun d => if l.length < sizeLine then .nx (ρ.set i (.ow (l ++ [d]))) else .bad
theorem vs_app (i : Nat) {x : Str} {p apos cpos : Pos} (ho : PE X (.Name x p) (tVar i)) (he : VE X W e f)
    (hbase : attributeBase (.Name x p) "append" X.env (eval (.Name x p) X.env) = eval (.Name x p) X.env := by rfl)
    (hfew : ((backTo cpos (starEach [e] X.env)).all (fun x => !x.1) && (backToKw cpos (keywordEach [] X.env)).all (fun x => x.1.isSome)
      && decide ([e].length + ([] : List Keyword).length + (if ([] : List Keyword).isEmpty then 0 else 1) < 30)) = true := by rfl)
    (hline : (apos.endLine == cpos.line) = true := by rfl) (hs : starEach [e] X.env = (false, eval e X.env) :: starEach [] X.env := by rfl) (hplain : (backTo cpos (starEach [] X.env)).any (·.1) = false := by rfl)
    (hsw : swapsWith (.Call (.Attribute (.Name x p) "append" apos) [e] [] cpos) none pos.line X.env = pure false := by rfl) :
    VS X W (.Expr (.Call (.Attribute (.Name x p) "append" apos) [e] [] cpos) pos) (sApp i f) := by
  refine PS.imp (ps_expr (pe_bm PySem.F.plainAttrs_list PySem.F.slot_list_append PySem.F.type_list_append mt_append ho (pa_cons he pa_nil hs) hbase hfew hline hs hplain) hsw) fun D σ H ⟨S, G, Hs, ρ, r, h⟩ => ?_
  obtain ⟨l, hl, h⟩ := on_own h
  obtain ⟨a, vs, o1, o2, o3, o4, o5⟩ := r.own hl
  refine ⟨_, o1, .inl ⟨rfl, vs, .inl (.inl o4)⟩, S, G, Hs, ρ, r, (lift_post r h).imp fun d Hs' H' e q v hv => ?_⟩
  split at q
  · rename_i hz
    have r' := r.step e
    refine ⟨a, vs, v, rfl, rfl, e.same _ _ o4, by rw [← o5.length]; exact hz, ?_⟩
    exact q Hs' _ σ (.refl _) (r'.wr hl o1 ((o5.mono e.grow).append (.cons hv .nil)))
  · exact q.elim
def sExt (i : Nat) (f : Ev → R D) : Ev → Out := fun ρ => onOw i ρ fun l => liftE (f ρ) ρ fun d => match d with
  | .list l' => if l.length + l'.length ≤ sizeLine then .nx (ρ.set i (.ow (l ++ l'))) else .bad
  | _ => .bad
/-- x[e] = v -/
def sStore (i : Nat) (fi fv : Ev → R D) : Ev → Out := fun ρ => onOw i ρ fun l => liftE ((fv ρ).bind fun d => (fi ρ).bind fun k => .ok (d, k)) ρ fun (d, k) => match k with
  | .int z => match ixN l.length z with
    | some j => .nx (ρ.set i (.ow (l.set j d)))
    | none => .bad
  | _ => .bad
theorem vs_store (i : Nat) {x : Str} {p spos : Pos} (ho : PE X (.Name x p) (tVar i)) (hi : VE X W a g) (he : VE X W e f)
    (hs : swapsWithSole [.Subscript (.Name x p) a spos] e pos.line X.env = pure false := by rfl) (hw : swappedStores [.Subscript (.Name x p) a spos] e X.env = pure none := by rfl)
    (h1 : (assignEach [.Subscript (.Name x p) a spos] X.env).map (·.2) = [assign (.Subscript (.Name x p) a spos) X.env] := by rfl)
    (ha : ∀ v, assign (.Subscript (.Name x p) a spos) X.env v = (do
      let ov ← holding [v] (eval (.Name x p) X.env)
      let iv ← holding [v, ov] (eval a X.env)
      standAt spos
      holding [v, ov, iv] (setItem ov iv v)
      release [v, ov, iv] []) := by intro _; rfl) : VS X W (.Assign [.Subscript (.Name x p) a spos] e pos) (sStore i g f) := by
  refine PS.imp (ps_asg he (pg_sub ho hi set_list ha) hs hw h1) fun D σ H ⟨S, G, Hs, ρ, r, h⟩ => ?_
  obtain ⟨l, hl, h⟩ := on_own h
  obtain ⟨b, vs, o1, o2, o3, o4, o5⟩ := r.own hl
  refine ⟨S, G, Hs, ρ, r, (Post.bind (lift_post r h)).imp fun d Hs' H' e q v hv => ?_⟩
  refine ⟨_, o1, S, G, Hs', ρ, r.step e, (Post.bind q).imp fun k Hs2 H2 e2 q2 w hw => ?_⟩
  have q3 := q2.now e2.sub
  cases k with
  | int z =>
    cases hw
    cases y : ixN l.length z with
    | none => simp only [y] at q3; exact q3.elim
    | some j =>
      simp only [y] at q3
      refine ⟨b, vs, z, j, rfl, rfl, e2.same _ _ (e.same _ _ o4), by rw [← o5.length]; exact y, ?_⟩
      exact q3 Hs2 _ σ (.refl _) (((r.step e).step e2).wr hl o1 (((o5.mono e.grow).mono e2.grow).set (hv.mono e2.grow) j))
  | none => exact q3.elim
  | bool _ => exact q3.elim
  | str _ => exact q3.elim
  | list _ => exact q3.elim
  | tuple _ => exact q3.elim
  | dict _ => exact q3.elim
def placeD (l : List D) : D → Option (Nat × D)
  | .int z => if 0 ≤ z ∧ z < 2 ^ 63 then (l[z.toNat]?).map fun y => (z.toNat, y) else none
  | _ => none
def sAugIx (i : Nat) (F : D → D → Option D) (fi fv : Ev → R D) : Ev → Out := fun ρ => onOw i ρ fun l => liftE ((fi ρ).bind fun k => ofO (placeD l k)) ρ fun jy => liftE ((fv ρ).bind fun d => ofO (F jy.2 d)) ρ fun d => .nx (ρ.set i (.ow (l.set jy.1 d)))
/-- x = y.pop() -/
def sPop (i j : Nat) : Ev → Out := fun ρ => onOw j ρ fun l => match l.getLast? with
  | some d => .nx ((ρ.set j (.ow l.dropLast)).set i (.sh d))
  | none => .bad
end
end VL

set_option Elab.async false
set_option linter.all false
set_option maxRecDepth 100000
set_option autoImplicit false
namespace VL
open PySem PySem.Spec PyProof.Rows L2

/-! ### what is walked -/
def ItD (K : Fg) (J : It) (Hs : Hp) (l : List D) : Prop := ∀ (i : Nat) (Hs' H' : Hp), Same Hs Hs' → Same Hs' H' →
  (∀ d, l[i]? = some d → J.go i H' ∧ ∀ x H'', J.yld i H' x H'' → ∃ Hs'', Ext Hs' H' Hs'' H'' ∧ Rp K Hs'' d x) ∧ (l.length ≤ i → J.stop i H')
def tIt (K : Fg) (mg : Str → Option Value) (W : WX) (f : Ev → R (List D)) : TI := fun σ H Rr => ∃ S G Hs ρ, RelE K S G Hs H σ ρ ∧ Post K mg W Hs H σ (f ρ) (fun l Hs' H' => ∀ J, ItD K J Hs' l → Rr J H')
def VI (X : Cx) (W : WX) (tg iter : Expr) (f : Ev → R (List D)) : Prop := PI X tg iter (tIt X.K X.mg W f)
def seqD : D → Option (List D)
  | .list l => some l
  | .tuple l => some l
  | .str z => some (z.cps.toList.map fun c => .str ⟨#[c]⟩)
  | _ => none
theorem it_list {K : Fg} {Hs : Hp} {a : Addr} {xs : List V} {l : List D} (h : SqL K Hs a xs) (r : RpL K Hs l xs) : ItD K (Itl K a) Hs l := fun i Hs' H' g s => by
  have h' : SqL K H' a xs := Same.seq s (Same.seq g h)
  refine ⟨fun d e => ?_, fun hl => ⟨xs, h', by rw [← r.length]; exact hl⟩⟩
  obtain ⟨v, v1, v2⟩ := r.get e
  refine ⟨⟨xs, v, h', v1⟩, fun x H'' y => ?_⟩
  obtain ⟨rfl, y⟩ := y
  have := y xs h'
  rw [v1] at this
  cases this
  exact ⟨Hs', .refl s, v2.mono g⟩
section
variable {X : Cx} {W : WX} {tg e : Expr} {pos : Pos}
/-- a list, a tuple or a text, walked -/
def iSeq (K : Fg) (tl : TE) : TI := fun σ H Rr => tl σ H fun x H1 => (∃ a, x = .ref a ∧ (∃ xs, SqL K H1 a xs) ∧ Rr (Itl K a) H1) ∨ (∃ a, x = .ref a ∧ (∃ xs, SqT K H1 a xs) ∧ Rr (Itt K a) H1) ∨ (∃ z, x = .str z ∧ Rr (Its z) H1)
theorem pi_seq {tl : TE} (hl : PE X e tl) : PI X tg e (iSeq X.K tl) := by
  refine ⟨fun pins s σ H R I h => ?_⟩
  -- the three rules, by the value that comes
  have k1 : ∀ (a : Addr) (s1 : Shared) (H1 : Hp), Inv X pins σ H1 s1 → (∃ xs, SqL X.K H1 a xs) → R (Itl X.K a) H1 → wpAny (model X.prog X.w) X.A (pyIter (.ref a)) (PIE X pins σ tg R) X.xe s1 := fun a s1 H1 I1 ⟨xs, hq⟩ q => by
    obtain ⟨its, rv, p, hz⟩ := I1.list hq
    refine wpAny_pyIter_list p.isList ?_
    refine ⟨s1.heap.objs.size, [s1.heap.objs.size], _, _, H1, rfl, I1.kept (t' := s1.toks) fun b o e => Heap.get?_push_of_some _ e, turn_list a _, ⟨_, Heap.get?_push_size _ rfl, rfl, rfl⟩, fun b hb => ?_, q⟩
    have e : b = s1.heap.objs.size := by simpa using hb
    subst e
    exact I1.fpOk (Nat.le_refl _) (I1.hok.fresh (Nat.le_refl _))
  have k2 : ∀ (a : Addr) (s1 : Shared) (H1 : Hp), Inv X pins σ H1 s1 → (∃ xs, SqT X.K H1 a xs) → R (Itt X.K a) H1 → wpAny (model X.prog X.w) X.A (pyIter (.ref a)) (PIE X pins σ tg R) X.xe s1 := fun a s1 H1 I1 ⟨xs, hq⟩ q => by
    obtain ⟨its, rv, p, hz⟩ := I1.tuple hq
    refine wpAny_pyIter_tuple (show s1.heap.IsTuple a its.toArray from p) ?_
    refine ⟨s1.heap.objs.size, [s1.heap.objs.size], _, _, H1, rfl, I1.kept (t' := s1.toks) fun b o e => Heap.get?_push_of_some _ e, turn_tuple a _, ⟨_, Heap.get?_push_size _ rfl, rfl, rfl⟩, fun b hb => ?_, q⟩
    have e : b = s1.heap.objs.size := by simpa using hb
    subst e
    exact I1.fpOk (Nat.le_refl _) (I1.hok.fresh (Nat.le_refl _))
  refine thn (hl.run pins s σ H _ I h) fun v s1 ⟨x, H1, I1, r1, q1⟩ => ?_
  rcases q1 with ⟨a, ex, hx, q⟩ | ⟨a, ex, hx, q⟩ | ⟨z, ex, q⟩
  · subst ex; cases r1; exact k1 a s1 H1 I1 hx q
  · subst ex; cases r1; exact k2 a s1 H1 I1 hx q
  · subst ex
    obtain ⟨t, rfl⟩ := r1
    cases ha : z.cps.all (· < 128)
    · exact wpAny_pyIter_wide ha (pi_one (tk := s1.toks) I1 _ (turn_str _ z t "str_iterator" (.inr rfl)) ⟨_, Heap.get?_push_size _ rfl, rfl, rfl⟩ q)
    · exact wpAny_pyIter_ascii ha (pi_one (tk := s1.toks) I1 _ (turn_str _ z t "str_ascii_iterator" (.inl rfl)) ⟨_, Heap.get?_push_size _ rfl, rfl, rfl⟩ q)
end
theorem it_tup {K : Fg} {Hs : Hp} {a : Addr} {xs : List V} {l : List D} (h : SqT K Hs a xs) (r : RpL K Hs l xs) : ItD K (Itt K a) Hs l := fun i Hs' H' g s => by
  have h' : SqT K H' a xs := SqT.mono s (SqT.mono g h)
  refine ⟨fun d e => ?_, fun hl => ⟨xs, h', by rw [← r.length]; exact hl⟩⟩
  obtain ⟨v, v1, v2⟩ := r.get e
  refine ⟨⟨xs, v, h', v1⟩, fun x H'' y => ?_⟩
  obtain ⟨rfl, y⟩ := y
  have := y xs h'
  rw [v1] at this
  cases this
  exact ⟨Hs', .refl s, v2.mono g⟩
theorem it_str {K : Fg} {Hs : Hp} (z : Str) : ItD K (Its z) Hs (z.cps.toList.map fun c => .str ⟨#[c]⟩) := fun i Hs' H' g s => by
  refine ⟨fun d e => ?_, fun hl => by rw [List.length_map, Array.length_toList] at hl; exact hl⟩
  rw [List.getElem?_map] at e
  obtain ⟨c, e1, rfl⟩ := Option.map_eq_some_iff.mp e
  have e2 : z.cps[i]? = some c := by rw [← Array.getElem?_toList]; exact e1
  refine ⟨(Array.getElem?_eq_some_iff.mp e2).1, fun x H'' y => ?_⟩
  obtain ⟨rfl, c', e3, rfl⟩ := y
  rw [e2] at e3
  cases e3
  exact ⟨Hs', .refl s, .str _⟩
/-- lo, lo + c, .. (n of them) -/
def rngL (lo c : Int) (n : Nat) : List D := (List.range n).map fun i => .int (lo + (i : Nat) * c)
theorem rngL_length (lo c : Int) (n : Nat) : (rngL lo c n).length = n := by simp [rngL]
theorem rngL_get {lo c : Int} {n i : Nat} {d : D} (h : (rngL lo c n)[i]? = some d) : i < n ∧ d = .int (lo + (i : Nat) * c) := by
  unfold rngL at h
  rw [List.getElem?_map] at h
  obtain ⟨j, e1, rfl⟩ := Option.map_eq_some_iff.mp h
  obtain ⟨h1, h2⟩ := List.getElem?_eq_some_iff.mp e1
  rw [List.getElem_range] at h2
  subst h2
  exact ⟨by simpa using h1, rfl⟩
theorem it_rng {K : Fg} {Hs : Hp} {lo : Int} {n : Nat} : ItD K (Itr lo n) Hs (rngL lo 1 n) := fun i Hs' H' g s => by
  refine ⟨fun d e => ?_, fun hl => by rw [rngL_length] at hl; exact hl⟩
  obtain ⟨h1, rfl⟩ := rngL_get e
  refine ⟨h1, fun x H'' y => ?_⟩
  obtain ⟨rfl, rfl⟩ := y
  rw [Int.mul_one]
  exact ⟨Hs', .refl s, .int _⟩
def in62 (i : Int) : Bool := decide (-(2 ^ 62) ≤ i ∧ i < 2 ^ 62)
def range1D : List D → Option (List D)
  | [.int j] => if in62 j then some (rngL 0 1 j.toNat) else none
  | _ => none
theorem PkL.three {K : Fg} {Hs H : Hp} {d e f : D} {vs : List V} (h : PkL K Hs H [d, e, f] vs) : ∃ v w u, vs = [v, w, u] ∧ Pk K Hs H d v ∧ Pk K Hs H e w ∧ Pk K Hs H f u := by
  cases vs with
  | nil => exact h.elim
  | cons v r =>
    cases r with
    | nil => exact h.2.elim
    | cons w r =>
      cases r with
      | nil => exact h.2.2.elim
      | cons u r =>
        cases r with
        | nil => exact ⟨v, w, u, rfl, h.1, h.2.1, h.2.2.1⟩
        | cons _ r => exact h.2.2.2.elim
section
variable {X : Cx} {W : WX} {tg e a b c : Expr} {pos p : Pos} {f : Ev → R D} {fl : Ev → R (List D)}
theorem vi_seq (h : VE X W e f) : VI X W tg e (e1 seqD f) := PI.imp (pi_seq h) fun σ H Rr ⟨S, G, Hs, ρ, r, p⟩ => by
  refine ⟨S, G, Hs, ρ, r, (Post.bind p).imp fun d Hs1 H1 e q v hv => ?_⟩
  cases z : seqD d with
  | none => rw [z] at q; exact q.elim
  | some l =>
    rw [z] at q
    have q' := q.now e.sub
    unfold seqD at z
    split at z
    · cases z
      cases hv with
      | lst h1 h2 => exact .inl ⟨_, rfl, ⟨_, Same.seq e.sub h1⟩, q' _ (it_list h1 h2)⟩
    · cases z
      cases hv with
      | tup h1 h2 => exact .inr (.inl ⟨_, rfl, ⟨_, SqT.mono e.sub h1⟩, q' _ (it_tup h1 h2)⟩)
    · cases z
      cases hv
      exact .inr (.inr ⟨_, rfl, q' _ (it_str _)⟩)
    · cases z
theorem vi_range1 (hg : Gl X "range") (hm : X.mg "range" = none) (ha : VAp X W [a] fl) (hs : starEach [a] X.env = [(false, eval a X.env)] := by rfl) : VI X W tg (.Call (.Name "range" p) [a] [] pos) (e1 range1D fl) := PI.imp (pi_range1 hg hm ha hs) fun σ H Rr ⟨S, G, Hs, ρ, r, p⟩ => by
  refine ⟨S, G, Hs, ρ, r, (Post.bind p).imp fun ds Hs1 H1 e q vs hv => ?_⟩
  cases z : range1D ds with
  | none => rw [z] at q; exact q.elim
  | some l =>
    rw [z] at q
    have q' := q.now e.sub
    unfold range1D at z
    split at z
    · split at z
      · rename_i hz
        cases z
        unfold in62 at hz
        have hz' := of_decide_eq_true hz
        obtain ⟨v, rfl, h⟩ := hv.one
        exact ⟨_, by rw [h.int], hz'.1, hz'.2, q' _ it_rng⟩
      · cases z
    · cases z
/-- enumerate, zip of lists -/
def enuL (l : List D) : List D := (List.range l.length).zipWith (fun i d => .tuple [.int (i : Nat), d]) l
def zipL (l m : List D) : List D := l.zipWith (fun d e => .tuple [d, e]) m
def enuD : List D → Option (List D)
  | [.list l] => some (enuL l)
  | _ => none
def zipD : List D → Option (List D)
  | [.list l, .list m] => some (zipL l m)
  | _ => none
theorem RpL.one {K : Fg} {H : Hp} {d : D} {vs : List V} (h : RpL K H [d] vs) : ∃ v, vs = [v] ∧ Rp K H d v := by
  cases h with
  | cons h r => cases r; exact ⟨_, rfl, h⟩
theorem RpL.two {K : Fg} {H : Hp} {d e : D} {vs : List V} (h : RpL K H [d, e] vs) : ∃ v w, vs = [v, w] ∧ Rp K H d v ∧ Rp K H e w := by
  cases h with
  | cons h r => cases r with
    | cons h' r => cases r; exact ⟨_, _, rfl, h, h'⟩
end

/-! ### for, while -/
def forO (body : D → Ev → Out) : List D → Ev → Out
  | [], ρ => .nx ρ
  | d :: ds, ρ => match body d ρ with
    | .nx ρ' => forO body ds ρ'
    | .ct ρ' => forO body ds ρ'
    | .bk ρ' => .nx ρ'
    | .rt r => .rt r
    | .rtB r ρ' => .rtB r ρ'
    | .ex x ρ' => .ex x ρ'
    | .bad => .bad
def gTo (g : D → Ev → Option Ev) (F : Ev → Out) : D → Ev → Out := fun d ρ => match g d ρ with
  | some ρ' => F ρ'
  | none => .bad
def sFor (fi : Ev → R (List D)) (g : D → Ev → Option Ev) (F : Ev → Out) : Ev → Out := fun ρ => liftE (fi ρ) ρ fun l => forO (gTo g F) l ρ
section
variable {X : Cx} {W : WX} {tg iter c : Expr} {body : List Stmt} {pos : Pos} {fi : Ev → R (List D)} {ts : List Nat} {g : D → Ev → Option Ev} {F : Ev → Out} {fb : Ev → R Bool}
theorem vs_for (hp : PassesOwn (model X.prog X.w) X.A X.env X.xe) (hc : X.calm = true) (hi : VI X W tg iter fi) (hg : VG X tg ts g) (hb : VSs X W body F)
    (hs : ∀ x, foldedSetIterable iter X.env x = pure x := by intro _; rfl) : VS X W (.For tg iter body [] pos) (sFor fi g F) := by
  refine PS.imp (ps_for hp hc hi hg hb hs) fun En σ H ⟨S, G, Hs, ρ, r, h⟩ => ?_
  refine ⟨S, G, Hs, ρ, r, (lift_post r h).imp fun l Hs1 H1 e q J hJ => ?_⟩
  refine ⟨fun i m σ' H' => m = l.length - i ∧ i ≤ l.length ∧ ∃ Hs2 ρ2, Same Hs1 Hs2 ∧ RelE X.K S G Hs2 H' σ' ρ2 ∧ OutOk X.K X.mg W S G Hs2 En (forO (gTo g F) (l.drop i) ρ2),
    ⟨l.length, by simp, Nat.zero_le _, Hs1, ρ, .refl _, r.step e, q⟩, ?_⟩
  rintro i m σ' H' ⟨rfl, hi, Hs2, ρ2, g2, r2, q2⟩
  obtain ⟨j1, j2⟩ := hJ i Hs2 H' g2 r2.sub
  by_cases hl : i < l.length
  · obtain ⟨j1, j3⟩ := j1 l[i] (List.getElem?_eq_getElem hl)
    rw [List.drop_eq_getElem_cons hl] at q2
    refine .inr ⟨j1, fun σ3 H3 => ∃ Hs3 ρ3, Same Hs1 Hs3 ∧ RelE X.K S G Hs3 H3 σ3 ρ3 ∧ OutOk X.K X.mg W S G Hs3 En (forO (gTo g F) (l.drop (i + 1)) ρ3), fun σ3 H3 ⟨Hs3, ρ3, a1, a2, a3⟩ => ⟨_, (by omega : l.length - (i + 1) < l.length - i), rfl, hl, Hs3, ρ3, a1, a2, a3⟩, fun x H3 y => ?_⟩
    obtain ⟨Hs3, e3, d3⟩ := j3 x H3 y
    unfold forO gTo at q2
    cases z : g l[i] ρ2 with
    | none => rw [z] at q2; exact q2.elim
    | some ρ3 =>
      rw [z] at q2
      refine ⟨S, G, Hs3, ρ2, l[i], ρ3, r2.step e3, d3, z, fun σ4 _ _ r4 => ⟨S, G, Hs3, ρ3, r4, ?_⟩⟩
      have g3 := g2.trans e3.grow
      cases z2 : F ρ3 with
      | nx ρ' => simp only [z2] at q2; exact fun Hs' H' σ' a b => ⟨Hs', ρ', g3.trans a, b, q2.up (e3.grow.trans a)⟩
      | ct ρ' => simp only [z2] at q2; exact fun Hs' H' σ' a b => ⟨Hs', ρ', g3.trans a, b, q2.up (e3.grow.trans a)⟩
      | bk ρ' => simp only [z2] at q2; exact fun Hs' H' σ' a b => q2 Hs' H' σ' (e3.grow.trans a) b
      | rt r => simp only [z2] at q2; exact q2
      | rtB r ρ' => simp only [z2] at q2; exact OutOk.up (o := .rtB r ρ') q2 e3.grow
      | ex x ρ' => simp only [z2] at q2; exact fun Hs' H' σ' cls dd a => q2 Hs' H' σ' cls dd (e3.grow.trans a)
      | bad => simp only [z2] at q2; exact q2.elim
  · have e0 : i = l.length := by omega
    subst e0
    rw [List.drop_length] at q2
    exact .inl ⟨j2 (Nat.le_refl _), q2 Hs2 H' σ' (.refl _) r2⟩
end
end VL

set_option Elab.async false
set_option linter.all false
set_option maxRecDepth 100000
set_option autoImplicit false
namespace VL
open PySem PySem.Spec PyProof.Rows L2

/-! ### list comprehensions -/
abbrev WF : WX := fun _ _ _ _ => False
def wipeE (ρ : Ev) : List Nat → Ev
  | [] => ρ
  | v :: vs => (wipeE ρ vs).set v .no
theorem RelE.wipe {K : Fg} {S Hs H : Hp} {G : Gx} {σ : Sg} {ρ : Ev} (r : RelE K S G Hs H σ ρ) : ∀ vs : List Nat, RelE K S G Hs H (wipe σ vs) (wipeE ρ vs)
  | [] => r
  | v :: vs => (RelE.wipe r vs).setNo
theorem wipe_get {σ : Sg} {j : Nat} : ∀ {vs : List Nat}, j < σ.length → (wipe σ vs)[j]? = if j ∈ vs then some none else σ[j]?
  | [], h => by simp [L2.wipe]
  | v :: vs, h => by
    unfold L2.wipe
    by_cases e : v = j
    · subst e
      rw [List.getElem?_set_self (by rw [wipe_length]; exact h), if_pos List.mem_cons_self]
    · rw [List.getElem?_set_ne e, wipe_get h]
      by_cases m : j ∈ vs
      · rw [if_pos m, if_pos (List.mem_cons_of_mem _ m)]
      · rw [if_neg m, if_neg (by simp only [List.mem_cons, not_or]; exact ⟨fun z => e z.symm, m⟩)]
theorem wipe_same {σ σ' : Sg} {vs ts : List Nat} (hl : σ'.length = (wipe σ vs).length) (hj : ∀ j, j ∉ ts → σ'[j]? = (wipe σ vs)[j]?) (ht : ∀ t ∈ ts, t ∈ vs) : wipe σ' vs = wipe σ vs := by
  rw [wipe_length] at hl
  apply List.ext_getElem?
  intro j
  by_cases h : j < σ.length
  · rw [wipe_get h, wipe_get (by omega)]
    by_cases m : j ∈ vs
    · rw [if_pos m, if_pos m]
    · rw [if_neg m, if_neg m, hj j (fun z => m (ht j z)), wipe_get h, if_neg m]
  · rw [List.getElem?_eq_none (by rw [wipe_length]; omega), List.getElem?_eq_none (by rw [wipe_length]; omega)]

theorem Ext.updNew {Hs H Hs' H' : Hp} {p : Addr} {o : HO} (e : Ext Hs H Hs' H') (h0 : H p = none) (h1 : Hs' p = none) : Ext Hs H Hs' (upd H' p o) where
  sub := fun b u q => by rw [upd_ne (ne_of_none q h1)]; exact e.sub b u q
  same := fun b u q => by rw [upd_ne (ne_of_none q h0)]; exact e.same b u q
  grow := e.grow
  fresh := e.fresh
theorem Ext.hidden {Hs H Hs' H' : Hp} {p : Addr} {o : HO} (e : Ext Hs H Hs' H') (h0 : Hs p = none) (h1 : H p = some o) : Hs' p = none := by
  cases q : Hs' p with
  | none => rfl
  | some u =>
    have := e.fresh p u q h0
    rw [h1] at this; cases this

def compR (step : D → R (Option D)) : List D → R (List D)
  | [] => .ok []
  | d :: ds => (step d).bind fun o => (compR step ds).bind fun r => .ok (match o with | some y => y :: r | none => r)
def compS (vs : List Nat) (g : D → Ev → Option Ev) (ft : Ev → R Bool) (fe : Ev → R D) (ρ : Ev) : D → R (Option D) := fun d => match g d (wipeE ρ vs) with
  | some ρ' => (noex (ft ρ')).bind fun b => if b then (noex (fe ρ')).bind fun y => .ok (some y) else .ok none
  | none => .bad
def eComp (vs : List Nat) (fi : Ev → R (List D)) (g : D → Ev → Option Ev) (ft : Ev → R Bool) (fe : Ev → R D) : Ev → R (List D) := fun ρ => (fi ρ).bind fun l => if l.length ≤ sizeLine then compR (compS vs g ft fe ρ) l else .bad
def VTs (X : Cx) (W : WX) (ifs : List Expr) (f : Ev → R Bool) : Prop := PTs X ifs (tT X.K X.mg W f)
theorem PTs.imp {X : Cx} {ifs : List Expr} {t t' : TT} (h : PTs X ifs t) (i : ∀ σ H Q, t' σ H Q → t σ H Q) : PTs X ifs t' := ⟨fun pins s σ H Q I q => h.run pins s σ H Q I (i σ H Q q)⟩
section
variable {X : Cx} {W : WX} {c : Expr} {fb : Ev → R Bool}
theorem vts_nil : VTs X W [] (cst true) := PTs.imp pts_nil fun σ H Q ⟨S, G, Hs, ρ, r, p⟩ => p.now r.sub
end
theorem noex_ok {α : Type} (a : α) : noex (.ok a : R α) = .ok a := rfl
theorem noex_cases {α β : Type} {r : R α} {k : α → R β} {K : Fg} {mg : Str → Option Value} {W : WX} {Hs H : Hp} {σ : Sg} {P : β → Hp → Hp → Prop} (h : Post K mg W Hs H σ ((noex r).bind k) P) : ∃ a, r = .ok a := by
  cases r with
  | ok a => exact ⟨a, rfl⟩
  | ex x => exact h.elim
  | bad => exact h.elim
theorem bind_assoc {α β γ : Type} (r : R α) (f : α → R β) (g : β → R γ) : (r.bind f).bind g = r.bind fun a => (f a).bind g := by cases r <;> rfl

theorem sim_comp {K : Fg} {mg : Str → Option Value} {W : WX} {vs ts : List Nat} {fi : Ev → R (List D)} {g : D → Ev → Option Ev} {ft : Ev → R Bool} {fe : Ev → R D} (ht : ∀ t ∈ ts, t ∈ vs) :
    ∀ σ H Q, tO K mg W (eComp vs fi g ft fe) σ H Q → tLc (tIt K mg W fi) (tGt K ts g) (tT K mg WF ft) (tE K mg WF fe) vs σ H Q := fun σ H Q ⟨S, G, Hs, ρ, r, p⟩ => by
  refine ⟨S, G, Hs, ρ, r, (Post.bind p).imp fun l Hs1 H1 e1 q J hJ Dd hD => ?_⟩
  by_cases hz : l.length ≤ sizeLine
  case neg => rw [if_neg hz] at q; exact q.elim
  rw [if_pos hz] at q
  refine ⟨fun i m H' => m = l.length - i ∧ i ≤ l.length ∧ ∃ Hs2 acc ws, Ext Hs1 H1 Hs2 H' ∧ Hs2 Dd = none ∧ H' Dd = some (.lst ws) ∧ RpL K Hs2 acc ws ∧ acc.length ≤ i ∧
      Post K mg W Hs1 H1 σ ((compR (compS vs g ft fe ρ) (l.drop i)).bind fun r => .ok (acc ++ r)) (fun l Hs' H' => ∀ p vs, H p = none → Hs' p = none → H' p = some (.lst vs) → RpL K Hs' l vs → Q (.ref p) H'),
    ⟨l.length, by simp, Nat.zero_le _, Hs1, [], [], Ext.hid e1.sub hD, e1.sub.free hD, upd_same, .nil, Nat.le_refl _, ?_⟩, ?_⟩
  · rw [List.drop_zero]
    cases z : compR (compS vs g ft fe ρ) l with
    | ok a => rw [z] at q; exact q
    | ex x => rw [z] at q; exact q
    | bad => rw [z] at q; exact q
  · rintro i m H' ⟨rfl, hi, Hs2, acc, ws, e2, d1, d2, d3, d4, q2⟩
    obtain ⟨j1, j2⟩ := hJ i Hs2 H' e2.grow e2.sub
    by_cases hl : i < l.length
    · obtain ⟨j1, j3⟩ := j1 l[i] (List.getElem?_eq_getElem hl)
      rw [List.drop_eq_getElem_cons hl] at q2
      refine .inr ⟨j1, fun H3 => ∃ Hs2 acc ws, Ext Hs1 H1 Hs2 H3 ∧ Hs2 Dd = none ∧ H3 Dd = some (.lst ws) ∧ RpL K Hs2 acc ws ∧ acc.length ≤ i + 1 ∧
        Post K mg W Hs1 H1 σ ((compR (compS vs g ft fe ρ) (l.drop (i + 1))).bind fun r => .ok (acc ++ r)) (fun l Hs' H' => ∀ p vs, H p = none → Hs' p = none → H' p = some (.lst vs) → RpL K Hs' l vs → Q (.ref p) H'),
        fun H3 ⟨Hs3, acc', ws', a⟩ => ⟨_, (by omega : l.length - (i + 1) < l.length - i), rfl, hl, Hs3, acc', ws', a⟩, fun x H3 y => ?_⟩
      obtain ⟨Hs3, e3, h3⟩ := j3 x H3 y
      unfold compR at q2
      rw [bind_assoc] at q2
      unfold compS at q2
      cases z : g l[i] (wipeE ρ vs) with
      | none => simp only [z] at q2; exact q2.elim
      | some ρ' =>
        simp only [z] at q2
        rw [bind_assoc] at q2
        have r3 : RelE K S G Hs3 H3 (wipe σ vs) (wipeE ρ vs) := (((r.step e1).step e2).step e3).wipe vs
        refine ⟨S, G, Hs3, wipeE ρ vs, l[i], ρ', r3, h3, z, fun σ' s1 s2 r4 => ⟨wipe_same s1 s2 ht, S, G, Hs3, ρ', r4, ?_⟩⟩
        obtain ⟨b, z1⟩ := noex_cases q2
        rw [z1] at q2 ⊢
        intro Hs5 H5 e5
        cases b with
        | false =>
          simp only [Bool.false_eq_true, if_false]
          have e6 := (e2.trans e3).trans e5
          have k1 := (e3.trans e5).hidden d1 d2
          refine ⟨Hs5, acc, ws, e6, k1, e5.same _ _ (e3.same _ _ d2), (d3.mono e3.grow).mono e5.grow, by omega, ?_⟩
          simp only [noex, bind_ok, Bool.false_eq_true, if_false, bind_assoc] at q2
          exact q2
        | true =>
          simp only [if_true]
          have q3 := q2
          simp only [noex_ok, bind_ok, if_true, bind_assoc] at q3
          obtain ⟨y, z2⟩ := noex_cases q3
          refine ⟨S, G, Hs5, ρ', r4.step e5, ?_⟩
          rw [z2] at q3 ⊢
          intro Hs6 H6 e6 v hv
          have e7 := (e3.trans e5).trans e6
          have k1 := e7.hidden d1 d2
          have k2 := e7.same _ _ d2
          have k3 := d3.mono e7.grow
          refine ⟨ws, k2, by rw [← d3.length]; omega, Hs6, acc ++ [y], ws ++ [v], (e2.trans e7).updNew hD k1, k1, upd_same, k3.append (.cons hv .nil), by rw [List.length_append, List.length_singleton]; omega, ?_⟩
          simp only [noex_ok, bind_ok] at q3
          simp only [List.append_assoc, List.singleton_append]
          exact q3
    · have e0 : i = l.length := by omega
      subst e0
      rw [List.drop_length] at q2
      unfold compR at q2
      simp only [bind_ok, List.append_nil] at q2
      exact .inl ⟨j2 (Nat.le_refl _), q2 Hs2 H' e2 Dd ws (e1.same.free hD) d1 d2 d3⟩

section
variable {X : Cx} {W : WX} {elt tg iter : Expr} {ifs : List Expr} {scope : Scope} {own : List (Str × Nat)} {pos : Pos} {ts : List Nat} {fi : Ev → R (List D)} {g : D → Ev → Option Ev} {ft : Ev → R Bool} {fe : Ev → R D}
theorem vo_comp (hc : X.calm = true) (hN : X.N.Nodup) (hi : VI X W tg iter fi) (ok : BlkOk X.N X.env.scope scope own)
    (hg : ∀ (s : Shared) (H : Hp) (C : Addr) (cl : List (Str × Addr)) (fp : List Addr), VG (X.blk s H scope (compEnvC scope cl C X.env) fp) tg ts g)
    (ht : ∀ (s : Shared) (H : Hp) (C : Addr) (cl : List (Str × Addr)) (fp : List Addr), VTs (X.blk s H scope (compEnvC scope cl C X.env) fp) WF ifs ft)
    (he : ∀ (s : Shared) (H : Hp) (C : Addr) (cl : List (Str × Addr)) (fp : List Addr), VE (X.blk s H scope (compEnvC scope cl C X.env) fp) WF elt fe)
    (hts : ∀ t ∈ ts, t ∈ own.map (·.2) := by decide) (hs : ∀ x, foldedSetIterable iter X.env x = pure x := by intro _; rfl) :
    VO X W (.ListComp elt [⟨tg, iter, ifs, 0⟩] scope pos) (eComp (own.map (·.2)) fi g ft fe) := PE.imp (pe_lc (g := tGt X.K ts g) (tt := tT X.K X.mg WF ft) (te := tE X.K X.mg WF fe) hc hN hi ok hg ht he hs) (sim_comp hts)
theorem sim_asgO {f : Ev → R (List D)} {K : Fg} {mg : Str → Option Value} {i : Nat} {t : TE} (h : ∀ σ H Q, tO K mg W f σ H Q → t σ H Q) : ∀ En σ H, tS K mg W (sSetO i f) En σ H → tAsg t (gName i) En σ H := fun En σ H q => h σ H _ (sim_setO En σ H q)
theorem vs_compO {i : Nat} {y : Str} {py spos : Pos} (hc : X.calm = true) (hN : X.N.Nodup) (hy : X.N[i]? = some y) (hyl : X.env.scope.names.lookup y = some .local)
    (hsw : swapsWith (.ListComp elt [⟨tg, iter, ifs, 0⟩] scope pos) (some (.Name y py)) spos.line X.env = pure true) (hi : VI X W tg iter fi) (ok : BlkOk X.N X.env.scope scope own)
    (hg : ∀ (s : Shared) (H : Hp) (C : Addr) (cl : List (Str × Addr)) (fp : List Addr), VG (X.blk s H scope (compEnvC scope cl C X.env) fp) tg ts g)
    (ht : ∀ (s : Shared) (H : Hp) (C : Addr) (cl : List (Str × Addr)) (fp : List Addr), VTs (X.blk s H scope (compEnvC scope cl C X.env) fp) WF ifs ft)
    (he : ∀ (s : Shared) (H : Hp) (C : Addr) (cl : List (Str × Addr)) (fp : List Addr), VE (X.blk s H scope (compEnvC scope cl C X.env) fp) WF elt fe)
    (hts : ∀ t ∈ ts, t ∈ own.map (·.2) := by decide) (hs : ∀ x, foldedSetIterable iter X.env x = pure x := by intro _; rfl) :
    VS X W (.Assign [.Name y py] (.ListComp elt [⟨tg, iter, ifs, 0⟩] scope pos) spos) (sSetO i (eComp (own.map (·.2)) fi g ft fe)) := PS.imp (ps_setLc (g := tGt X.K ts g) (tt := tT X.K X.mg WF ft) (te := tE X.K X.mg WF fe) hc hN hy hyl hsw hi ok hg ht he hs) (sim_asgO (sim_comp hts))
end

/-! ### defs, calls -/
/-- the promise of a def that computes f -/
def spD (K : Fg) (mg : Str → Option Value) (n : Nat) (f : List D → R SD) : Sp := fun vs H Q E => vs.length = n ∧ ∃ Hs ds, Same Hs H ∧ RpL K Hs ds vs ∧ (match f ds with
  | .ok r => ∀ Hs' H' v, Ext Hs H Hs' H' → RpO K H Hs' H' r v → Q v H'
  | .ex x => ∀ Hs' H' cls dd, Ext Hs H Hs' H' → XRp K mg H' x cls dd → E cls dd H'
  | .bad => False)
def startE (n : Nat) (ds : List D) : Ev := ds.map .sh ++ List.replicate (n - ds.length) .no
def runD (np n : Nat) (F : Ev → Out) : List D → R SD := fun ds => if ds.length = np then match F (startE n ds) with
  | .nx _ => .ok (.sh .none)
  | .rt r => .ok r
  | .ex x _ => .ex x
  | _ => .bad
  else .bad
theorem startE_rel {K : Fg} {N : List Str} {Hs H : Hp} {ds : List D} {vs : List V} (hl : vs.length ≤ N.length) (hs : Same Hs H) (r : RpL K Hs ds vs) : RelE K Hs ⟨H, fun _ => none⟩ Hs H (L2.start N vs) (startE N.length ds) where
  sub := hs
  old := .refl _
  ext := .refl _
  new := fun p o a b => by rw [a] at b; cases b
  len := by
    have := r.length
    simp [L2.start, startE, this]
  slot := fun i s hi => by
    unfold startE at hi
    have hl2 := r.length
    by_cases h : i < ds.length
    · rw [List.getElem?_append_left (by simpa using h), List.getElem?_map] at hi
      obtain ⟨d, e1, rfl⟩ := Option.map_eq_some_iff.mp hi
      obtain ⟨v, e2, e3⟩ := r.get e1
      refine ⟨v, ?_, e3⟩
      unfold L2.start
      rw [List.getElem?_append_left (by simp; omega), List.getElem?_map, e2]
      rfl
    · rw [List.getElem?_append_right (by simpa using h), List.getElem?_replicate] at hi
      split at hi
      · cases hi; trivial
      · cases hi
  dis := fun i j l m p a b _ _ => by
    exfalso
    unfold startE at a
    by_cases h : i < ds.length
    · rw [List.getElem?_append_left (by simpa using h), List.getElem?_map] at a
      obtain ⟨d, e1, e2⟩ := Option.map_eq_some_iff.mp a
      cases e2
    · rw [List.getElem?_append_right (by simpa using h), List.getElem?_replicate] at a
      split at a <;> cases a
  bor := fun _ p hp => by cases hp
  one := fun _ _ _ hp => by cases hp
section
variable {P : Program} {w : World} {K : Fg} {mg : Str → Option Value} {base : Heap}
theorem FnScope.le {N ps : List Str} {sc : Scope} (S : FnScope N ps sc) : ps.length ≤ N.length := by
  have h := congrArg List.length S.pre
  rw [List.length_take] at h
  omega
/-- a promise kept where no guard stands around -/
structure FnG (P : Program) (w : World) (K : Fg) (mg : Str → Option Value) (base : Heap) (k : Nat) (f : Addr) (fd : FuncData) (ps : List Str) (sp : Sp) : Prop where
  len : ∀ vs H Q E, sp vs H Q E → vs.length = ps.length
  run : ∀ (A : Around) (outer : List Env) (s : Shared) (H : Hp) (args : Args) (us : List Value) (vs : List V) (Q : VK) (E : XK), Room k A → A.guards = some [] → Env0 P w K mg base A outer s H → BindsTo s fd args (ps.zip us) → Vals vs us → sp vs H Q E →
    codeAny (model P w) A (.call (.ref f) args) (CR (L2N.CX P w) outer P w H s Q E) s
theorem fn_ofG {k : Nat} {f : Addr} {name qual : Str} {params : Arguments} {body : List Stmt} {scope : Scope} {dV kV doc pm cdv ct oc : Value} {an od : Option Addr}
    {osl : Array (Option Value)} {N ps : List Str} {sp : Sp} (lk : K.lookup f = some ⟨oc, od, .func (PySem.W.fnOf name qual params body scope dV kV doc pm an cdv ct), osl⟩) (hcd : PySem.W.codeIn K cdv qual = true) (S : FnScope N ps scope)
    (len : ∀ vs H Q E, sp vs H Q E → vs.length = ps.length)
    (hbody : ∀ (A : Around) (outer : List Env) (s : Shared) (H : Hp) (vs : List V) (Q : VK) (E : XK), Room k (A.deeper (envOfC qual scope s.heap.objs.size f cdv)) → A.guards = some [] → sp vs H Q E →
      ∃ t, PSs (cxOf (L2N.CX P w) P w K mg base N qual scope f cdv A outer s H E) body t ∧ t { nx := fun _ H' => Q .non H', rt := Q } (L2.start N vs) H) :
    FnG P w K mg base (k + 1) f (PySem.W.fnOf name qual params body scope dV kV doc pm an cdv ct) ps sp := by
  refine ⟨len, fun A outer s H args us vs Q E hr hgd e0 hb r hsp => ?_⟩
  have hl := len _ _ _ _ hsp
  have KX : K.In s.heap := e0.mod.kin.keeps fun b o e => (e0.bs b o e).1
  have lim : s.heap.NoLimit := e0.mod.nolimit.keeps fun b o e => (e0.bs b o e).1
  have hkind : ∀ y ∈ ps.zip us, scope.names.lookup y.1 = some .local ∨ (scope.names.lookup y.1 = some .cell ∧ ((cellsFrom (s.heap.objs.size + 1) scope.names []).lookup y.1).isSome = true) := fun ⟨n, v⟩ hy => by
    rcases S.par n (List.of_mem_zip hy).1 with q | q
    · exact .inl q
    · exact .inr ⟨q, PySem.W.cellsFrom_some _ _ _ (.inl q)⟩
  refine codeAny_call_function hr.depth (KX _ _ lk) rfl S.co S.gen rfl (PySem.W.codeRec_of KX hcd) (hb _ _ _ _ ?_)
  refine wpAny_newFunctionEnv_cells S.kind hkind fun env he s1 x => ?_
  subst he
  refine ⟨lim.keeps x.toInCall.keep, codeAny_func ?_⟩
  obtain ⟨t, ht, hq⟩ := hbody A outer s H vs Q E (hr.deeper _) hgd hsp
  have I : Inv (cxOf (L2N.CX P w) P w K mg base N qual scope f cdv A outer s H E) [] (L2.start N vs) H s1 := inv_start S hr.hd e0 hl r x
  refine wpAny_mono (ht.run [] s1 (L2.start N vs) H _ I hq) (fun fl s' hs => ?_) fun e s' hs => hs
  have fin : ∀ {σ' : Sg} {H' : Hp} {v : V} {u : Value}, Inv (cxOf (L2N.CX P w) P w K mg base N qual scope f cdv A outer s H E) [] σ' H' s' → RelV v u → Q v H' → CE outer P w H s Q u s' :=
    fun {σ' H' v u} J rv q => ⟨v, H', J.os, J.bare, J.base, J.hok, rv, q⟩
  cases fl with
  | ret u =>
    obtain ⟨v, σ', H', J, rv, q⟩ := hs
    exact fin J rv q
  | next =>
    obtain ⟨σ', H', J, q⟩ := hs
    exact fin (v := V.non) (u := Value.none) J rfl q
  | brk =>
    obtain ⟨_, _, _, q⟩ := hs
    exact False.elim q
  | cont =>
    obtain ⟨_, _, _, q⟩ := hs
    exact False.elim q
theorem FnG.imp {k : Nat} {f : Addr} {fd : FuncData} {ps : List Str} {sp sp' : Sp} (F : FnG P w K mg base k f fd ps sp) (h : ∀ vs H Q E, sp' vs H Q E → sp vs H Q E) : FnG P w K mg base k f fd ps sp' :=
  ⟨fun vs H Q E q => F.len vs H Q E (h _ _ _ _ q), fun A outer s H args us vs Q E hr hg he hb hv hs => F.run A outer s H args us vs Q E hr hg he hb hv (h _ _ _ _ hs)⟩
theorem FnG.mono {j k : Nat} {f : Addr} {fd : FuncData} {ps : List Str} {sp : Sp} (F : FnG P w K mg base j f fd ps sp) (h : j ≤ k) : FnG P w K mg base k f fd ps sp :=
  ⟨F.len, fun A outer s H args us vs Q E hr => F.run A outer s H args us vs Q E (hr.mono h)⟩
/-- a def that computes m on data -/
structure DOk (P : Program) (w : World) (K : Fg) (mg : Str → Option Value) (base : Heap) (k : Nat) (f : Addr) (fd : FuncData) (ps : List Str) (m : List D → R SD) : Prop where
  fn : FnG P w K mg base k f fd ps (spD K mg ps.length m)
  ar : ∀ ds, m ds ≠ .bad → ds.length = ps.length
/-- the room, the guards, what takes an exception, what passes -/
structure Inn (X : Cx) (W : WX) (k : Nat) : Prop where
  hr : Room k X.A
  gd : X.A.guards = some []
  tk : L2N.Takes X W
  hp : PassesOwn (model X.prog X.w) X.A X.env X.xe
/-- THE RULE for a def -/
theorem def_ok {x qual : Str} {st : Stmt} {f : Addr} {fd : FuncData} {N ps : List Str} {k : Nat} {F : Ev → Out} (Fn : Fun K x qual st f fd) (S : FnScope N ps (defScope st))
    (body : ∀ (cdv : Value) (A : Around) (outer : List Env) (s : Shared) (H : Hp) (E : XK), Inn (cxOf (L2N.CX P w) P w K mg base N qual (defScope st) f cdv A outer s H E) (fun cls d _ H => E cls d H) k →
      VSs (cxOf (L2N.CX P w) P w K mg base N qual (defScope st) f cdv A outer s H E) (fun cls d _ H => E cls d H) (defBody st) F) :
    DOk P w K mg base (k + 1) f fd ps (runD ps.length N.length F) := by
  refine ⟨?_, fun ds h => ?_⟩
  · obtain ⟨oc, od, kV, doc, pm, an, cdv, ct, osl, rfl, lk, hcd⟩ := Fn.ex
    refine fn_ofG lk hcd S (fun vs H Q E h => h.1) fun A outer s H vs Q E hr hgd h => ⟨_, body cdv A outer s H E ⟨hr, hgd, L2N.takes_of rfl rfl rfl rfl, passes_of rfl⟩, ?_⟩
    obtain ⟨hl, Hs, ds, hs, hds, h⟩ := h
    refine ⟨Hs, ⟨H, fun _ => none⟩, Hs, _, startE_rel (by rw [hl]; exact VL.FnScope.le S) hs hds, ?_⟩
    unfold runD at h
    rw [if_pos (hds.length.trans hl)] at h
    show OutOk K mg (fun cls d _ H => E cls d H) Hs ⟨H, fun _ => none⟩ Hs _ (F (startE N.length ds))
    cases z : F (startE N.length ds) with
    | nx ρ =>
      rw [z] at h
      exact fun Hs' H' σ' g r => h Hs' H' .non r.ext' .non
    | rt r =>
      rw [z] at h
      exact fun Hs' H' v e hv => h Hs' H' v e hv
    | ex x ρ =>
      rw [z] at h
      exact fun Hs' H' σ' cls dd g r hx => h Hs' H' cls dd r.ext' hx
    | rtB r ρ => rw [z] at h; exact h.elim
    | bk ρ => rw [z] at h; exact h.elim
    | ct ρ => rw [z] at h; exact h.elim
    | bad => rw [z] at h; exact h.elim
  · unfold runD at h
    split at h
    · assumption
    · exact (h rfl).elim
theorem DOk.mono {j k : Nat} {f : Addr} {fd : FuncData} {ps : List Str} {m : List D → R SD} (F : DOk P w K mg base j f fd ps m) (h : j ≤ k) : DOk P w K mg base k f fd ps m := ⟨F.fn.mono h, F.ar⟩
end
section
variable {X : Cx} {k : Nat} {f : Addr} {fd : FuncData} {ps : List Str} {sp : Sp} {E : Sg → XK} {x : Str} {p pos : Pos} {e : Expr} {es : List Expr} {t : TA}
theorem run_fnG {pins : List (Addr × Obj)} {σ : Sg} {H : Hp} {s : Shared} {Q : VK} {us : List Value} {vs : List V} (F : FnG X.prog X.w X.K X.mg X.base k f fd ps sp) (hr : Room k X.A) (hgd : X.A.guards = some []) (hb : Binds X.K fd ps []) (hx : PassesAt (L2N.CX X.prog X.w) X σ (E σ))
    (I : Inv X pins σ H s) (r : Vals vs us) (h : sp vs H Q (E σ)) : wpAny (model X.prog X.w) X.A (call (.ref f) us) (EP X pins σ Q) X.xe s := by
  have hl : us.length = ps.length := by rw [← r.length]; exact F.len _ _ _ _ h
  have b := hb s us I.kIn (by rw [List.append_nil]; exact hl)
  rw [List.append_nil] at b
  refine wpAny_call (codeAny_mono (F.run X.A X.stack s H ⟨us, []⟩ us vs Q (E σ) hr hgd I.env0 b r h) fun r s' hq => ?_)
  cases r with
  | error e => exact hx pins H s e s' I hq
  | ok fl =>
    cases fl with
    | ret u => exact I.after hq
    | next => exact False.elim hq
    | brk => exact False.elim hq
    | cont => exact False.elim hq
theorem pe_callG (F : FnG X.prog X.w X.K X.mg X.base k f fd ps sp) (hr : Room k X.A) (hgd : X.A.guards = some []) (hg : Gl X x) (hm : X.mg x = some (.ref f)) (hk : PySem.W.keepIn X.K (.ref f) = true) (hb : Binds X.K fd ps []) (hx : ∀ σ, PassesAt (L2N.CX X.prog X.w) X σ (E σ))
    (ha : PA X (e :: es) t) (hdb : (x == ("__debug__" : Str)) = false := by decide) (he : starEach (e :: es) X.env = (false, eval e X.env) :: starEach es X.env := by rfl) (hpl : (backTo pos (starEach es X.env)).any (·.1) = false := by rfl) :
    PE X (.Call (.Name x p) (e :: es) [] pos) (tCallS sp E t) := by
  refine ⟨fun pins s σ H Q I h => ?_⟩
  refine wpAny_Call_Name_kw (ld_glob I hg hm ?_ hdb)
  refine PySem.W.callWith_K (h₀ := X.base) I.ok.mod.kin hk (thn (ha.run pos pins s σ H _ I h) fun us s1 ⟨vs, H1, I1, r, q⟩ => ⟨I1.kIn, ?_⟩) he hpl
  exact run_fnG F hr hgd hb (hx σ) I1 r q
end
/-- what a call gives: shared data -/
def toD : SD → Option D
  | .sh d => some d
  | .ow l => some (.list l)
  | _ => none
def toL : SD → Option (List D)
  | .ow l => some l
  | _ => none
def eCall (m : List D → R SD) (fl : Ev → R (List D)) : Ev → R D := fun ρ => (fl ρ).bind fun ds => (m ds).bind fun s => ofO (toD s)
def eCallO (m : List D → R SD) (fl : Ev → R (List D)) : Ev → R (List D) := fun ρ => (fl ρ).bind fun ds => (m ds).bind fun s => ofO (toL s)
section
variable {X : Cx} {W : WX} {e : Expr} {es : List Expr} {pos p : Pos} {x : Str} {fl : Ev → R (List D)} {k n : Nat} {f : Addr} {fd : FuncData} {ps : List Str} {m : List D → R SD}
theorem sim_call {K : Fg} {mg : Str → Option Value} {n : Nat} (vn : ∀ (ds : List D), m ds ≠ .bad → ds.length = n) : ∀ σ H Q, tE K mg W (eCall m fl) σ H Q → tCallS (spD K mg n m) (WE W) (tA K mg W fl) σ H Q := fun σ H Q ⟨S, G, Hs, ρ, r, p⟩ => by
  refine ⟨S, G, Hs, ρ, r, (Post.bind p).imp fun ds Hs1 H1 e q vs hv => ?_⟩
  have nb : m ds ≠ .bad := fun z => by rw [z] at q; exact q
  refine ⟨by rw [← hv.length]; exact vn ds nb, Hs1, ds, e.sub, hv, ?_⟩
  cases z : m ds with
  | bad => exact nb z
  | ex x => rw [z] at q; exact q
  | ok s =>
    rw [z] at q
    intro Hs' H' v e' hr
    cases s with
    | no => exact q.elim
    | bo l => exact q.elim
    | sh d => exact q Hs' H' e' v hr
    | ow l =>
      obtain ⟨p, us, rfl, h0, h1, h2, h3⟩ := hr
      have g : Same Hs' (upd Hs' p (.lst us)) := fun b u z => by rw [upd_ne (ne_of_none z h1)]; exact z
      exact q _ _ (e'.frz h0 h2 h1) _ (.lst (.inl (.inl upd_same)) (h3.mono g))
theorem v_call (F : DOk X.prog X.w X.K X.mg X.base k f fd ps m) (hr : Room k X.A) (hgd : X.A.guards = some []) (hg : Gl X x) (hm : X.mg x = some (.ref f)) (hk : PySem.W.keepIn X.K (.ref f) = true) (hb : Binds X.K fd ps []) (tk : L2N.Takes X W)
    (ha : VA X W (e :: es) fl) (hdb : (x == ("__debug__" : Str)) = false := by decide) (he : starEach (e :: es) X.env = (false, eval e X.env) :: starEach es X.env := by rfl) (hpl : (backTo pos (starEach es X.env)).any (·.1) = false := by rfl) :
    VE X W (.Call (.Name x p) (e :: es) [] pos) (eCall m fl) := PE.imp (pe_callG F.fn hr hgd hg hm hk hb (L2N.passAt tk) ha hdb he hpl) (sim_call F.ar)
end
end VL

set_option Elab.async false
set_option linter.all false
set_option maxRecDepth 100000
set_option autoImplicit false
namespace VL
open PySem PySem.Spec PyProof.Rows L2

/-! ### and, or, not as values; chains -/
def eAndV (f g : Ev → R D) : Ev → R D := fun ρ => (f ρ).bind fun x => (ofO (truD x)).bind fun k => if k then g ρ else .ok x
def eOrV (f g : Ev → R D) : Ev → R D := fun ρ => (f ρ).bind fun x => (ofO (truD x)).bind fun k => if k then .ok x else g ρ
def notD (x : D) : Option D := (truD x).map fun k => .bool (!k)
def eChain (F F' : D → D → Option D) (f g h : Ev → R D) : Ev → R D := fun ρ => (f ρ).bind fun x => (g ρ).bind fun y => (ofO (F x y)).bind fun r => (ofO (bOf r)).bind fun b => if b then (h ρ).bind fun z => ofO (F' y z) else .ok (.bool false)
section
variable {X : Cx} {W : WX} {a b c e : Expr} {rest : List Expr} {pos : Pos} {f g h : Ev → R D} {F F' : D → D → Option D}
end

/-! ### a def of the text, as a callee sees it -/
structure Cl (P : Program) (w : World) (K : Fg) (mg : Str → Option Value) (base : Heap) (k : Nat) (x : Str) (ps : List Str) (m : List D → R SD) : Prop where
  ex : ∃ f fd, DOk P w K mg base k f fd ps m ∧ mg x = some (.ref f) ∧ PySem.W.keepIn K (.ref f) = true ∧ Binds K fd ps []
/-- where it stands -/
structure Df (K : Fg) (mg : Str → Option Value) (x : Str) (st : Stmt) (ps : List Str) : Prop where
  ex : ∃ f fd, Fun K x x st f fd ∧ mg x = some (.ref f) ∧ Binds K fd ps []
section
variable {P : Program} {w : World} {K : Fg} {mg : Str → Option Value} {base : Heap}
theorem Cl.mono {j k : Nat} {x : Str} {ps : List Str} {m : List D → R SD} (F : Cl P w K mg base j x ps m) (h : j ≤ k) : Cl P w K mg base k x ps m :=
  let ⟨f, fd, d, r⟩ := F.ex; ⟨f, fd, d.mono h, r⟩
theorem cl_ok {x : Str} {st : Stmt} {N ps : List Str} {k : Nat} {F : Ev → Out} (Fn : Df K mg x st ps) (S : FnScope N ps (defScope st))
    (body : ∀ (f : Addr) (cdv : Value) (A : Around) (outer : List Env) (s : Shared) (H : Hp) (E : XK), Inn (cxOf (L2N.CX P w) P w K mg base N x (defScope st) f cdv A outer s H E) (fun cls d _ H => E cls d H) k →
      VSs (cxOf (L2N.CX P w) P w K mg base N x (defScope st) f cdv A outer s H E) (fun cls d _ H => E cls d H) (defBody st) F) :
    Cl P w K mg base (k + 1) x ps (runD ps.length N.length F) := by
  obtain ⟨f, fd, h1, h2, h3⟩ := Fn.ex
  exact ⟨f, fd, def_ok h1 S fun cdv A outer s H E I => body f cdv A outer s H E I, h2, h1.kp, h3⟩
end
section
variable {X : Cx} {W : WX} {e : Expr} {es : List Expr} {pos p : Pos} {x : Str} {fl : Ev → R (List D)} {k j : Nat} {ps : List Str} {m : List D → R SD}
theorem v_calC (C : Cl X.prog X.w X.K X.mg X.base k x ps m) (hr : Room j X.A) (hgd : X.A.guards = some []) (tk : L2N.Takes X W) (ha : VA X W (e :: es) fl) (hg : Gl X x := by rfl) (hj : k ≤ j := by decide)
    (hdb : (x == ("__debug__" : Str)) = false := by decide) (he : starEach (e :: es) X.env = (false, eval e X.env) :: starEach es X.env := by rfl) (hpl : (backTo pos (starEach es X.env)).any (·.1) = false := by rfl) :
    VE X W (.Call (.Name x p) (e :: es) [] pos) (eCall m fl) := by
  obtain ⟨f, fd, h1, h2, h3, h4⟩ := C.ex
  exact v_call h1 (hr.mono hj) hgd hg h2 h3 h4 tk ha hdb he hpl
end
end VL

set_option Elab.async false
set_option linter.all false
set_option maxRecDepth 100000
set_option autoImplicit false
namespace VL
open PySem PySem.Spec PyProof.Rows L2

theorem b_len : bootBuiltins "len" = some (.builtin "len") := by decide +kernel
theorem b_all : bootBuiltins "all" = some (.builtin "all") := by decide +kernel
theorem b_isinstance : bootBuiltins "isinstance" = some (.builtin "isinstance") := by decide +kernel
theorem b_int : bootBuiltins "int" = some (.type "int") := by decide +kernel
/-! ### constants of the top -/
structure Gc (K : Fg) (mg : Str → Option Value) (x : Str) (d : D) : Prop where
  ex : ∃ u v, mg x = some u ∧ RelV v u ∧ ∀ H, Rp K H d v
section
variable {X : Cx} {W : WX} {x : Str} {d : D} {pos : Pos}
end
section
variable {K : Fg} {mg : Str → Option Value} {x : Str}
/-- flat data of a written value -/
def absD' : Value → Option (D × V)
  | .none => some (.none, .non)
  | .bool b => some (.bool b, .bl b)
  | .int i _ => some (.int i, .int i)
  | .str s _ => some (.str s, .str s)
  | _ => none
def absL : List Value → Option (List (D × V))
  | [] => some []
  | u :: us => (absD' u).bind fun d => (absL us).map (d :: ·)
/-- a written tuple of flat things -/
structure TupO (o : Obj) (d : D) : Prop where
  cls : o.cls = .type "tuple"
  dat : ∃ ds its n ps, d = .tuple ds ∧ o.data = .seq its n ∧ its.size ≤ sizeLine ∧ absL its.toList = some ps ∧ ps.map (·.1) = ds
end

/-! ### repr -/
def reprD : List D → Option D
  | [d] => if SeqAt.shaped d && d.showable && decide (d.shown.length ≤ sizeLine) then some (.str d.shown) else none
  | _ => none
section
variable {X : Cx}
/-- lists and tuples (and ints) -/
def reprL : List D → Option D
  | [.list l] => reprD [.list l]
  | [.tuple l] => reprD [.tuple l]
  | _ => none
end

/-! ### the end -/
theorem law_callG {P : Program} {w : World} {K : Fg} {mg mb : Str → Option Value} {k : Nat} {fa a : Addr} {fd : FuncData} {x : Str} {sp : Sp} {s₁ : Shared} {vs : List Value} {ns : List Int}
    (KX : K.In s₁.heap) (hns : s₁.heap.Ns mainGlobals mg) (hb : s₁.heap.Ns builtinsNs mb) (hbb : ∀ x : Str, x ≠ "__name__" → mb x = bootBuiltins x) (hlim : s₁.heap.NoLimit) (hg : s₁.gens = #[])
    (ha : s₁.heap.get? a = some { cls := .type "list", data := .seq vs.toArray }) (hi : IntsAre vs ns) (hl : ns.length ≤ sizeLine) (hr : Room k callerA)
    (F : ∀ base : Heap, FnG P w K mg base k fa fd [x] sp) (hbind : ∀ (s : Shared) (u : Value), BindsTo s fd ⟨[u], []⟩ [(x, u)])
    (hsp : ∀ H : Hp, Only H → SqL K H a (ns.map V.int) → sp [.ref a] H (fun v _ => v = .bl true) fun _ _ _ => False) :
    codeAny (model P w) callerA (.call (.ref fa) ⟨[.ref a], []⟩) (fun r s' => r = .ok (.ret (.bool true)) ∧ OldK s₁.heap s'.heap ∧ s'.os = s₁.os ∧ AllBare s'.gens) s₁ := by
  -- the promise where guards are not asked: at the caller's own place alone
  let sp' : Sp := fun vs H Q E => sp vs H Q E
  have rv := L2.vals_ints hi
  have lenV := hi.length
  have core : ∀ H : Hp, Only H → SqL K H a (ns.map V.int) → HOk P w H s₁.heap → (∀ b, H b ≠ none → b = a) → (H a ≠ none → K.lookup a = none) →
      codeAny (model P w) callerA (.call (.ref fa) ⟨[.ref a], []⟩) (fun r s' => r = .ok (.ret (.bool true)) ∧ OldK s₁.heap s'.heap ∧ s'.os = s₁.os ∧ AllBare s'.gens) s₁ := by
    intro H hO hS hok hA hK
    have base_of : ∀ {b : Addr} {o : Obj}, s₁.heap.get? b = some o → H b = none → (hidT s₁.heap H).get? b = some o := fun e n => hidT_get e n
    have noA : ∀ {b : Addr} {o : Obj} {es : Array DictEntry} {ep : Nat}, s₁.heap.get? b = some o → o.data = .dict es ep → H b = none := fun {b o es ep} e d => by
      cases q : H b with
      | none => rfl
      | some u =>
        have e' : b = a := hA b (by rw [q]; simp)
        subst e'
        rw [ha] at e; cases e
        have d' : Data.seq vs.toArray _ = Data.dict es ep := d
        cases d'
    have nsK : ∀ {b : Addr} {m : Str → Option Value}, s₁.heap.Ns b m → (hidT s₁.heap H).Ns b m := fun {b m} ⟨o, es, ep, e, d, r⟩ => ⟨o, es, ep, base_of e (noA e d), d, r⟩
    have hKb : K.In (hidT s₁.heap H) := fun b o e => base_of (KX b o e) (by
      cases q : H b with
      | none => rfl
      | some u =>
        have e' : b = a := hA b (by rw [q]; simp)
        subst e'
        rw [hK (by rw [q]; simp)] at e; cases e)
    have hM : Mod K mg (hidT s₁.heap H) := ⟨hKb, nsK hns, ⟨mb, nsK hb, hbb⟩, let ⟨mc, h1, h2⟩ := hlim; ⟨mc, nsK h1, h2⟩⟩
    have e0 : Env0 P w K mg (hidT s₁.heap H) callerA [] s₁ H := ⟨rfl, hM, fun b o e => of_hidT e, Nat.le_of_eq (hidT_size _ _), trivial, fun b hb => absurd (show b ∈ ([] : List Addr) from hb) (by simp), hok, .of_eq hg⟩
    refine codeAny_mono ((F _).run callerA [] s₁ H ⟨[.ref a], []⟩ [.ref a] [.ref a] _ _ hr rfl e0 (hbind s₁ (.ref a)) (.cons rfl .nil) (hsp H hO hS)) fun r s' h => ?_
    cases r with
    | error e =>
      obtain ⟨_, _, _, _, _, _, _, _, _, _, _, _, z⟩ := h
      exact z.elim
    | ok fl =>
      cases fl with
      | next => exact False.elim h
      | brk => exact False.elim h
      | cont => exact False.elim h
      | ret u =>
        obtain ⟨v, H', os, bare, un, hok', r', q⟩ := h
        have q' : v = .bl true := q
        subst q'
        obtain rfl : u = Value.bool true := r'
        refine ⟨rfl, OldK.of_keep fun b o e => ?_, os, bare⟩
        cases q : H b with
        | none => exact un.keep b o e q (by intro z; exact absurd (show b ∈ ([] : List Addr) from z) (by simp)) (by simp)
        | some u =>
          rcases hO b with z | ⟨ob, xs, z⟩
          · rw [q] at z; cases z
          · have z2 := un.frzs b ob _ z
            obtain ⟨e1, _⟩ := hok b _ z
            obtain ⟨e2, _⟩ := hok' b _ z2
            rw [e] at e1; cases e1
            exact e2
  cases hk : K.lookup a with
  | some o =>
    have e := KX a o hk
    rw [ha] at e
    cases e
    refine core (fun _ => none) (fun _ => .inl rfl) (.inr ⟨_, vs.toArray, _, hk, rfl, rfl, rfl, by rw [List.size_toArray, lenV]; exact hl, by simpa using rv⟩) (fun b u z => by have z' : (none : Option HO) = some u := z; cases z') (fun b z => absurd rfl z) fun z => absurd rfl z
  | none =>
    refine core (fun b => if b = a then some (.frz { cls := .type "list", data := .seq vs.toArray } (.lst (ns.map V.int))) else none) (fun b => ?_) (.inl (.inr ⟨{ cls := .type "list", data := .seq vs.toArray }, if_pos rfl⟩)) (fun b u z => ?_) (fun b z => ?_) fun _ => hk
    · by_cases hb : b = a
      · exact .inr ⟨_, _, if_pos hb⟩
      · exact .inl (if_neg hb)
    · by_cases hb : b = a
      · have z' := (if_pos hb).symm.trans z
        cases z'
        subst hb
        exact ⟨ha, by rw [List.length_map]; exact hl, vs, _, rv, ha⟩
      · have z' := (if_neg hb).symm.trans z
        cases z'
    · by_cases hb : b = a
      · exact hb
      · exact absurd (if_neg hb) z
/-- the goal that k_head leaves -/
theorem law_end {l : PySem.W.OpenLaw} {k : Nat} {q : Program} {loose : List Str} {XP : (Str → Option Value) → Heap → Prop} {YP : World → Heap → Prop} {d : DefRec} {K : Params → Fg} {x : Str} {m : List D → R SD}
    (hn : l.most = some 63) (hdf : d.params.defaults = []) (hr : Room k callerA)
    (hY : ∀ (w : World) (h : Heap), YP w h → (K w.params).In h)
    (true_ : ∀ ns : List Int, ns.length ≤ 63 → (∀ z ∈ ns, Builtin.Int.intBits z ≤ 1048576) → m [.list (ns.map .int)] = .ok (.sh (.bool true)))
    (F : ∀ (w : World) (mg : Str → Option Value) (fa : Addr) (h : Heap), (K w.params).In h → h.Ns mainGlobals mg → mg d.name = some (.ref fa) →
      ∃ fd : FuncData, (∀ (s : Shared) (u : Value), BindsTo s fd ⟨[u], []⟩ [(x, u)]) ∧ ∀ base : Heap, DOk l.prog w (K w.params) mg base k fa fd [x] m) :
    PySem.W.WalkO q loose XP YP l.row.toRowW d [] (fun f vs => PySem.call f vs) := by
  refine Att.attach_callB hn hdf fun w s₀ s₁ mg mb fa o pm cd doc a vs ns G Y ho hd hcd hmg hobj hints hlen hbits hg => ?_
  have KX := hY w _ Y
  obtain ⟨fd, hb, hF⟩ := F w mg fa _ KX G.T.g hmg
  refine law_callG KX G.T.g G.T.b G.T.builtins G.T.nolimit hg hobj hints (Nat.le_trans hlen (by decide)) hr (fun base => (hF base).fn) hb fun H hO hS => ?_
  refine ⟨rfl, H, [.list (ns.map .int)], .refl _, .cons (.lst hS (RpL.of_ints ns)) .nil, ?_⟩
  rw [true_ ns hlen hbits]
  intro Hs' H' v e hv
  have hv' : Rp (K w.params) Hs' (.bool true) v := hv
  cases hv'
  rfl
end VL

set_option Elab.async false
set_option linter.all false
set_option maxRecDepth 100000
set_option autoImplicit false
namespace VL
open PySem PySem.Spec PyProof.Rows L2

section
variable {X : Cx} {W : WX} {e o : Expr} {pos : Pos} {f g : Ev → R D}
/-! ### str(int), str(str) -/
def strD : List D → Option D
  | [.int i] => if i.natAbs.log2 < 1920 then some (.str (toString i)) else none
  | [.str x] => some (.str x)
  | _ => none
/-! ### x.pop() as a statement -/
def sPopX (j : Nat) : Ev → Out := fun ρ => onOw j ρ fun l => match l.getLast? with
  | some _ => .nx (ρ.set j (.ow l.dropLast))
  | none => .bad
/-! ### {"k": e, ..}[e] -/
def selD (ks : List Str) (ds : List D) (k : D) : Option D := match k with
  | .str x => (ks.zip ds).foldl (fun acc p => if x = p.1 then some p.2 else acc) none
  | _ => none
def eDSel (ks : List Str) (fs : Ev → R (List D)) (fk : Ev → R D) : Ev → R D := fun ρ => (fs ρ).bind fun ds => (fk ρ).bind fun k => ofO (selD ks ds k)
/-- the values of a display -/
structure VPs (X : Cx) (W : WX) (dpos : Pos) (ks : List Str) (keys : List (Option Expr)) (vals : List Expr) (fs : Ev → R (List D)) : Prop where
  ex : ∃ trs, PPs X dpos keys vals trs ∧ ∀ σ H (Q : List (V × V) → Hp → Prop), tA X.K X.mg W fs σ H (fun vs H' => vs.length = ks.length → Q ((ks.map V.str).zip vs) H') → tPairs trs σ H Q
  n1 : keys.length = ks.length
  n2 : vals.length = ks.length
  n3 : keys.all (·.isSome) = true
end
end VL

set_option Elab.async false
set_option linter.all false
set_option maxRecDepth 100000
set_option autoImplicit false
namespace VL
open PySem PySem.Spec PyProof.Rows L2

/-! ### evaluations that change a list of one's own, or the lent one -/
inductive RX (α : Type) where
  | ok (a : α) (ρ : Ev)
  | bad
def RX.bind {α β : Type} (r : RX α) (f : α → Ev → RX β) : RX β := match r with
  | .ok a ρ => f a ρ
  | .bad => .bad
def PostX {α : Type} (K : Fg) (S : Hp) (G : Gx) (σ : Sg) (Hs : Hp) : RX α → (α → Ev → Hp → Hp → Prop) → Prop
  | .ok a ρ, P => ∀ Hs' H', Same Hs Hs' → RelE K S G Hs' H' σ ρ → P a ρ Hs' H'
  | .bad, _ => False
section
variable {α β : Type} {K : Fg} {S Hs H Hs1 : Hp} {G : Gx} {σ : Sg}
theorem PostX.up {r : RX α} {P : α → Ev → Hp → Hp → Prop} (h : PostX K S G σ Hs r P) (g : Same Hs Hs1) : PostX K S G σ Hs1 r P := by
  cases r with
  | ok a ρ => exact fun Hs' H' e => h Hs' H' (g.trans e)
  | bad => exact h
theorem PostX.imp {r : RX α} {P P' : α → Ev → Hp → Hp → Prop} (h : PostX K S G σ Hs r P) (hp : ∀ a ρ Hs' H', Same Hs Hs' → RelE K S G Hs' H' σ ρ → P a ρ Hs' H' → P' a ρ Hs' H') : PostX K S G σ Hs r P' := by
  cases r with
  | ok a ρ => exact fun Hs' H' g r' => hp _ _ _ _ g r' (h Hs' H' g r')
  | bad => exact h
theorem PostX.bind {r : RX α} {f : α → Ev → RX β} {P : β → Ev → Hp → Hp → Prop} (h : PostX K S G σ Hs (r.bind f) P) : PostX K S G σ Hs r (fun a ρ Hs' H' => PostX K S G σ Hs' (f a ρ) P) := by
  cases r with
  | ok a ρ => exact fun Hs' H' g r' => PostX.up h g
  | bad => exact h
theorem PostX.now {a : α} {ρ : Ev} {P : α → Ev → Hp → Hp → Prop} (h : PostX K S G σ Hs (.ok a ρ) P) (r : RelE K S G Hs H σ ρ) : P a ρ Hs H := h Hs H (.refl _) r
end
def tX (K : Fg) (f : Ev → RX D) : TE := fun σ H Q => ∃ S G Hs ρ, RelE K S G Hs H σ ρ ∧ PostX K S G σ Hs (f ρ) (fun d _ Hs' H' => ∀ v, Rp K Hs' d v → Q v H')
def tXO (K : Fg) (f : Ev → RX (List D)) : TE := fun σ H Q => ∃ S G Hs ρ, RelE K S G Hs H σ ρ ∧
  PostX K S G σ Hs (f ρ) (fun l _ Hs' H' => ∀ Hs2 H2 p vs, Ext Hs' H' Hs2 H2 → H' p = none → Hs2 p = none → H2 p = some (.lst vs) → RpL K Hs2 l vs → Q (.ref p) H2)
def XE (X : Cx) (e : Expr) (f : Ev → RX D) : Prop := PE X e (tX X.K f)
def XO (X : Cx) (e : Expr) (f : Ev → RX (List D)) : Prop := PE X e (tXO X.K f)
/-- without a change -/
def xl {α : Type} (f : Ev → R α) : Ev → RX α := fun ρ => match f ρ with
  | .ok a => .ok a ρ
  | _ => .bad
def ofX {α : Type} (o : Option α) (ρ : Ev) : RX α := match o with
  | some a => .ok a ρ
  | none => .bad
def x1 {α β : Type} (F : α → Option β) (f : Ev → RX α) : Ev → RX β := fun ρ => (f ρ).bind fun x ρ => ofX (F x) ρ
def x2 {α β γ : Type} (F : α → β → Option γ) (f : Ev → RX α) (g : Ev → RX β) : Ev → RX γ := fun ρ => (f ρ).bind fun x ρ => (g ρ).bind fun y ρ => ofX (F x y) ρ
def xCons (f : Ev → RX D) (g : Ev → RX (List D)) : Ev → RX (List D) := fun ρ => (f ρ).bind fun x ρ => (g ρ).bind fun xs ρ => .ok (x :: xs) ρ
def xLst (f : Ev → RX (List D)) : Ev → RX D := fun ρ => (f ρ).bind fun l ρ => .ok (.list l) ρ
def xIf {α : Type} (c : Ev → RX Bool) (f g : Ev → RX α) : Ev → RX α := fun ρ => (c ρ).bind fun b ρ => if b then f ρ else g ρ
def xAnd (f g : Ev → RX Bool) : Ev → RX Bool := fun ρ => (f ρ).bind fun b ρ => if b then g ρ else .ok false ρ
def xOr (f g : Ev → RX Bool) : Ev → RX Bool := fun ρ => (f ρ).bind fun b ρ => if b then .ok true ρ else g ρ
def xNot (f : Ev → RX Bool) : Ev → RX Bool := fun ρ => (f ρ).bind fun b ρ => .ok (!b) ρ
def xCall (m : List D → R SD) (fl : Ev → RX (List D)) : Ev → RX D := fun ρ => (fl ρ).bind fun ds ρ => match m ds with
  | .ok s => ofX (toD s) ρ
  | _ => .bad
def xCallO (m : List D → R SD) (fl : Ev → RX (List D)) : Ev → RX (List D) := fun ρ => (fl ρ).bind fun ds ρ => match m ds with
  | .ok s => ofX (toL s) ρ
  | _ => .bad

section
variable {X : Cx} {W : WX} {e a b c : Expr} {es : List Expr} {pos p : Pos} {f g : Ev → RX D} {fl : Ev → RX (List D)} {fb gb : Ev → RX Bool}
theorem XO.xe (h : XO X e fl) : XE X e (xLst fl) := PE.imp h fun σ H Q ⟨S, G, Hs, ρ, r, p⟩ => by
  refine ⟨S, G, Hs, ρ, r, (PostX.bind p).imp fun l ρ1 Hs1 H1 g1 r1 q Hs2 H2 p' vs e h0 h1 h2 h3 => ?_⟩
  exact q _ _ ((e.frz h0 h2 h1).grow) (r1.step (e.frz h0 h2 h1)) _ (.lst (.inl (.inl upd_same)) (h3.mono fun b u z => by rw [upd_ne (ne_of_none z h1)]; exact z))
variable {x : Str} {bid T : String} {F : List D → Option D} {FO : List D → Option (List D)}
/-! sources of loops -/
end
end VL

set_option Elab.async false
set_option linter.all false
set_option maxRecDepth 100000
set_option autoImplicit false
namespace VL
open PySem PySem.Spec PyProof.Rows L2

/-! ### a list of one's own or the lent one -/
def lstAt (ρ : Ev) (i : Nat) : Option (List D × Bool) := match ρ[i]? with
  | some (.ow l) => some (l, false)
  | some (.bo l) => some (l, true)
  | _ => none
def mkL (b : Bool) (l : List D) : SD := if b then .bo l else .ow l
section
variable {K : Fg} {S Hs H : Hp} {G : Gx} {σ : Sg} {ρ : Ev}
theorem lstAt_cases {i : Nat} {l : List D} {b : Bool} (h : lstAt ρ i = some (l, b)) : (b = false ∧ ρ[i]? = some (.ow l)) ∨ (b = true ∧ ρ[i]? = some (.bo l)) := by
  unfold lstAt at h
  split at h
  · cases h; exact .inl ⟨rfl, by assumption⟩
  · cases h; exact .inr ⟨rfl, by assumption⟩
  · cases h
theorem RelE.lst {i : Nat} {l : List D} {b : Bool} (r : RelE K S G Hs H σ ρ) (h : lstAt ρ i = some (l, b)) : ∃ p vs, σ[i]? = some (some (.ref p)) ∧ Hs p = none ∧ H p = some (.lst vs) ∧ RpL K Hs l vs := by
  rcases lstAt_cases h with ⟨_, h⟩ | ⟨_, h⟩
  · obtain ⟨p, vs, e1, e2, e3, e4, e5⟩ := r.own h
    exact ⟨p, vs, e1, e3, e4, e5⟩
  · obtain ⟨p, vs, e1, e2, e3, e4⟩ := r.lent h
    exact ⟨p, vs, e1, (r.bor _ p e2).2.1, e3, e4⟩
theorem RelE.wrL {i : Nat} {l l' : List D} {b : Bool} {p : Addr} {ws : List V} (r : RelE K S G Hs H σ ρ) (h : lstAt ρ i = some (l, b)) (hs : σ[i]? = some (some (.ref p))) (hl : RpL K Hs l' ws) :
    RelE K S G Hs (upd H p (.lst ws)) σ (ρ.set i (mkL b l')) := by
  rcases lstAt_cases h with ⟨rfl, h'⟩ | ⟨rfl, h'⟩
  · exact r.wr h' hs hl
  · exact r.wrB h' hs hl
end
/-! ### statements over them -/
def liftX {α : Type} (r : RX α) (k : α → Ev → Out) : Out := match r with
  | .ok a ρ => k a ρ
  | .bad => .bad
def ySet (i : Nat) (f : Ev → RX D) : Ev → Out := fun ρ => liftX (f ρ) fun d ρ => .nx (ρ.set i (.sh d))
def ySetO (i : Nat) (f : Ev → RX (List D)) : Ev → Out := fun ρ => liftX (f ρ) fun d ρ => .nx (ρ.set i (.ow d))
def yAsg (f : Ev → RX D) (g : D → Ev → Option Ev) : Ev → Out := fun ρ => liftX (f ρ) fun d ρ => match g d ρ with
  | some ρ' => .nx ρ'
  | none => .bad
def yIf (c : Ev → RX Bool) (F F' : Ev → Out) : Ev → Out := fun ρ => liftX (c ρ) fun b ρ => if b then F ρ else F' ρ
def yDrop (f : Ev → RX D) : Ev → Out := fun ρ => liftX (f ρ) fun _ ρ => .nx ρ
def yRet (f : Ev → RX D) : Ev → Out := fun ρ => liftX (f ρ) fun d ρ => .rt (.sh d)
def yRetO (f : Ev → RX (List D)) : Ev → Out := fun ρ => liftX (f ρ) fun d ρ => .rt (.ow d)
def yRetB (f : Ev → RX D) : Ev → Out := fun ρ => liftX (f ρ) fun d ρ => .rtB (.sh d) ρ
def yRetOB (f : Ev → RX (List D)) : Ev → Out := fun ρ => liftX (f ρ) fun d ρ => .rtB (.ow d) ρ
/-- return x, x a list of one's own, in a def with a lent list -/
def yRetVB (i : Nat) : Ev → Out := fun ρ => match ρ[i]? with
  | some (.ow l) => .rtB (.ow l) ρ
  | some (.sh d) => .rtB (.sh d) ρ
  | _ => .bad
def yRetNB : Ev → Out := fun ρ => .rtB (.sh .none) ρ
def yFor (fi : Ev → RX (List D)) (g : D → Ev → Option Ev) (F : Ev → Out) : Ev → Out := fun ρ => liftX (fi ρ) fun l ρ => forO (gTo g F) l ρ
def yApp (i : Nat) (f : Ev → RX D) : Ev → Out := fun ρ => match lstAt ρ i with
  | none => .bad
  | some _ => liftX (f ρ) fun d ρ => match lstAt ρ i with
    | some (l, b) => if l.length < sizeLine then .nx (ρ.set i (mkL b (l ++ [d]))) else .bad
    | none => .bad
def yStore (i : Nat) (fi fv : Ev → RX D) : Ev → Out := fun ρ => liftX (fv ρ) fun d ρ => match lstAt ρ i with
  | none => .bad
  | some _ => liftX (fi ρ) fun k ρ => match lstAt ρ i with
    | some (l, b) => match k with
      | .int z => match ixN l.length z with
        | some j => .nx (ρ.set i (mkL b (l.set j d)))
        | none => .bad
      | _ => .bad
    | none => .bad
def xPop (i : Nat) : Ev → RX D := fun ρ => match lstAt ρ i with
  | some (l, b) => match l.getLast? with
    | some d => .ok d (ρ.set i (mkL b l.dropLast))
    | none => .bad
  | none => .bad
section
variable {X : Cx} {W : WX} {e a b c : Expr} {es : List Expr} {pos : Pos} {f g : Ev → RX D} {fl : Ev → RX (List D)} {fb : Ev → RX Bool} {F F' : Ev → Out}
end

/-! ### defs with a list that is lent -/
inductive RB where
  | ok (r : SD) (l : List D)
  | bad
/-- arguments, the lent list at place b -/
inductive RpB (K : Fg) (H : Hp) (p : Addr) : Nat → List D → List V → Prop
  | here {ds : List D} {vs : List V} : RpL K H ds vs → RpB K H p 0 (.none :: ds) (.ref p :: vs)
  | there {b : Nat} {d : D} {v : V} {ds : List D} {vs : List V} : Rp K H d v → RpB K H p b ds vs → RpB K H p (b + 1) (d :: ds) (v :: vs)
theorem RpB.mono {K : Fg} {H H' : Hp} {p : Addr} (e : Same H H') : ∀ {b : Nat} {ds : List D} {vs : List V}, RpB K H p b ds vs → RpB K H' p b ds vs
  | _, _, _, .here r => .here (r.mono e)
  | _, _, _, .there h r => .there (h.mono e) (RpB.mono e r)
theorem RpB.length {K : Fg} {H : Hp} {p : Addr} : ∀ {b : Nat} {ds : List D} {vs : List V}, RpB K H p b ds vs → ds.length = vs.length
  | _, _, _, .here r => congrArg (· + 1) r.length
  | _, _, _, .there _ r => congrArg (· + 1) (RpB.length r)
theorem RpB.lt {K : Fg} {H : Hp} {p : Addr} : ∀ {b : Nat} {ds : List D} {vs : List V}, RpB K H p b ds vs → b < ds.length
  | _, _, _, .here r => Nat.succ_pos _
  | _, _, _, .there _ r => Nat.succ_lt_succ (RpB.lt r)
theorem RpB.get {K : Fg} {H : Hp} {p : Addr} : ∀ {b : Nat} {ds : List D} {vs : List V} {i : Nat} {d : D}, RpB K H p b ds vs → ds[i]? = some d → (i = b ∧ vs[i]? = some (.ref p)) ∨ (i ≠ b ∧ ∃ v, vs[i]? = some v ∧ Rp K H d v)
  | _, _, _, 0, d, .here r, e => .inl ⟨rfl, rfl⟩
  | _, _, _, i + 1, d, .here r, e => .inr ⟨by omega, by
    obtain ⟨v, h1, h2⟩ := r.get (i := i) (by simpa using e)
    exact ⟨v, by simpa using h1, h2⟩⟩
  | _, _, _, 0, d, .there h r, e => by
    simp at e; subst e
    exact .inr ⟨by omega, _, rfl, h⟩
  | _, _, _, i + 1, d, .there h r, e => by
    rcases RpB.get r (i := i) (by simpa using e) with ⟨rfl, h1⟩ | ⟨h0, v, h1, h2⟩
    · exact .inl ⟨rfl, by simpa using h1⟩
    · exact .inr ⟨by omega, v, by simpa using h1, h2⟩
def startB (n b : Nat) (l : List D) (ds : List D) : Ev := (startE n ds).set b (.bo l)
def finB (b : Nat) : Out → RB
  | .rtB r ρ => match ρ[b]? with
    | some (.bo l) => .ok r l
    | _ => .bad
  | .nx ρ => match ρ[b]? with
    | some (.bo l) => .ok (.sh .none) l
    | _ => .bad
  | _ => .bad
def runB (np n b : Nat) (F : Ev → Out) : List D → List D → RB := fun l ds => if ds.length = np ∧ b < np then finB b (F (startB n b l ds)) else .bad
def spB (K : Fg) (n b : Nat) (m : List D → List D → RB) : Sp := fun vs H Q _ => vs.length = n ∧ ∃ Hs l us p ds, Same Hs H ∧ Hs p = none ∧ H p = some (.lst us) ∧ RpL K Hs l us ∧ RpB K Hs p b ds vs ∧ (match m l ds with
  | .ok r l' => ∀ Hs' H' v us', Same Hs Hs' → Same Hs' H' → (∀ a o, a ≠ p → H a = some o → H' a = some o) → (∀ a o, Hs' a = some o → Hs a = none → H a = none) → Hs' p = none → H' p = some (.lst us') → RpL K Hs' l' us' → RpO K H Hs' H' r v → Q v H'
  | .bad => False)
section
variable {P : Program} {w : World} {K : Fg} {mg : Str → Option Value} {base : Heap}
structure BOk (P : Program) (w : World) (K : Fg) (mg : Str → Option Value) (base : Heap) (k : Nat) (f : Addr) (fd : FuncData) (ps : List Str) (b : Nat) (m : List D → List D → RB) : Prop where
  fn : FnG P w K mg base k f fd ps (spB K ps.length b m)
  ar : ∀ l ds, m l ds ≠ .bad → ds.length = ps.length ∧ b < ps.length
structure ClB (P : Program) (w : World) (K : Fg) (mg : Str → Option Value) (base : Heap) (k : Nat) (x : Str) (ps : List Str) (b : Nat) (m : List D → List D → RB) : Prop where
  ex : ∃ f fd, BOk P w K mg base k f fd ps b m ∧ mg x = some (.ref f) ∧ PySem.W.keepIn K (.ref f) = true ∧ Binds K fd ps []
end
/-! ### calls that lend a list -/
def xHere (i : Nat) (f : Ev → RX (List D)) : Ev → RX (List D) := fun ρ => match lstAt ρ i with
  | some _ => (f ρ).bind fun ds ρ => .ok (.none :: ds) ρ
  | none => .bad
def xCallB (m : List D → List D → RB) (i : Nat) (f : Ev → RX (List D)) : Ev → RX D := fun ρ => (f ρ).bind fun ds ρ => match lstAt ρ i with
  | some (l, k) => match m l ds with
    | .ok r l' => ofX (toD r) (ρ.set i (mkL k l'))
    | .bad => .bad
  | none => .bad
def xCallBO (m : List D → List D → RB) (i : Nat) (f : Ev → RX (List D)) : Ev → RX (List D) := fun ρ => (f ρ).bind fun ds ρ => match lstAt ρ i with
  | some (l, k) => match m l ds with
    | .ok r l' => ofX (toL r) (ρ.set i (mkL k l'))
    | .bad => .bad
  | none => .bad
section
variable {X : Cx} {W : WX} {e a b c : Expr} {es : List Expr} {pos p : Pos} {f g : Ev → RX D} {fl : Ev → RX (List D)} {x : Str}
theorem RelE.called {K : Fg} {S Hs H Hs' H' : Hp} {G : Gx} {σ : Sg} {ρ : Ev} {i : Nat} {l l' : List D} {k : Bool} {a : Addr} {us' : List V} (r : RelE K S G Hs H σ ρ) (z : lstAt ρ i = some (l, k)) (ha : σ[i]? = some (some (.ref a)))
    (c1 : Same Hs Hs') (c2 : Same Hs' H') (c3 : ∀ b o, b ≠ a → H b = some o → H' b = some o) (c4 : ∀ b o, Hs' b = some o → Hs b = none → H b = none) (c5 : Hs' a = none) (c6 : H' a = some (.lst us')) (c7 : RpL K Hs' l' us') :
    RelE K S G Hs' H' σ (ρ.set i (mkL k l')) := by
  have r1 := r.wrL z ha (l' := []) (ws := []) .nil
  have e : Ext Hs (upd H a (.lst [])) Hs' (upd H' a (.lst [])) := by
    refine ⟨fun b u q => ?_, fun b u q => ?_, c1, fun b o q n => ?_⟩
    · rw [upd_ne (ne_of_none q c5)]; exact c2 b u q
    · by_cases hb : b = a
      · subst hb; rw [upd_same] at q ⊢; exact q
      · rw [upd_ne hb] at q ⊢; exact c3 b u hb q
    · rw [upd_ne (ne_of_none q c5)]; exact c4 b o q n
  have r2 := r1.step e
  have hi : i < ρ.length := by
    rcases lstAt_cases z with ⟨_, h⟩ | ⟨_, h⟩ <;> exact (List.getElem?_eq_some_iff.mp h).1
  have z2 : lstAt (ρ.set i (mkL k [])) i = some ([], k) := by
    unfold lstAt
    rw [List.getElem?_set_self hi]
    cases k <;> rfl
  have r3 := r2.wrL z2 ha c7
  rw [List.set_set] at r3
  have : upd (upd H' a (.lst [])) a (.lst us') = H' := by
    funext b
    by_cases hb : b = a
    · subst hb; rw [upd_same, c6]
    · rw [upd_ne hb, upd_ne hb]
  rwa [this] at r3
/-! calls of other defs -/
end
end VL

set_option Elab.async false
set_option linter.all false
set_option maxRecDepth 100000
set_option autoImplicit false
namespace VL
open PySem PySem.Spec PyProof.Rows L2

/-! ### comprehensions whose items change a list -/
def Gx.plus (G : Gx) (D : Addr) (o : HO) : Gx := ⟨upd G.h D o, G.b⟩
section
variable {K : Fg} {S Hs H : Hp} {G : Gx} {σ : Sg} {ρ : Ev} {D : Addr} {o : HO}
theorem RelE.plus (r : RelE K S G Hs H σ ρ) (h : H D = none) (o : HO) : RelE K S (G.plus D o) Hs (upd H D o) σ ρ := by
  have hs : Hs D = none := r.sub.free h
  refine ⟨fun b u e => ?_, fun b u e => ?_, r.ext, fun p u e n => ?_, r.len, fun i s hi => ?_, fun j p hp => ?_, r.one, r.dis⟩
  · rw [upd_ne (ne_of_none e hs)]; exact r.sub b u e
  · have e' : upd G.h D o b = some u := e
    by_cases hb : b = D
    · subst hb; rw [upd_same] at e' ⊢; exact e'
    · rw [upd_ne hb] at e' ⊢; exact r.old b u e'
  · show upd G.h D o p = none
    rw [upd_ne (ne_of_none e hs)]; exact r.new p u e n
  · have q := r.slot i s hi
    cases s with
    | no => trivial
    | sh d => exact q
    | ow l =>
      obtain ⟨p, vs, e1, e2, e3, e4, e5, e6⟩ := q
      have hn : p ≠ D := fun z => by subst z; rw [h] at e4; cases e4
      exact ⟨p, vs, e1, by show upd G.h D o p = none; rw [upd_ne hn]; exact e2, e3, by rw [upd_ne hn]; exact e4, e5, e6⟩
    | bo l =>
      obtain ⟨p, vs, e1, e2, e3, e4⟩ := q
      have hn : p ≠ D := fun z => by subst z; rw [h] at e3; cases e3
      exact ⟨p, vs, e1, e2, by rw [upd_ne hn]; exact e3, e4⟩
  · obtain ⟨h1, h2, h3⟩ := r.bor j p hp
    have hn : p ≠ D := fun z => by subst z; exact h3 h
    exact ⟨by show upd G.h D o p = none; rw [upd_ne hn]; exact h1, h2, by rw [upd_ne hn]; exact h3⟩
end
def compX (step : D → Ev → RX (Option D)) : List D → Ev → RX (List D)
  | [], ρ => .ok [] ρ
  | d :: ds, ρ => (step d ρ).bind fun o ρ1 => (compX step ds ρ1).bind fun r ρ2 => .ok (match o with | some y => y :: r | none => r) ρ2
def compXS (vs : List Nat) (g : D → Ev → Option Ev) (ft : Ev → RX Bool) (fe : Ev → RX D) : D → Ev → RX (Option D) := fun d ρ => match g d (wipeE ρ vs) with
  | some ρ' => (ft ρ').bind fun b ρ2 => if b then (fe ρ2).bind fun y ρ3 => .ok (some y) (wipeE ρ3 vs) else .ok none (wipeE ρ2 vs)
  | none => .bad
def xComp (vs : List Nat) (fi : Ev → RX (List D)) (g : D → Ev → Option Ev) (ft : Ev → RX Bool) (fe : Ev → RX D) : Ev → RX (List D) := fun ρ => (fi ρ).bind fun l ρ1 => if l.length ≤ sizeLine then compX (compXS vs g ft fe) l (wipeE ρ1 vs) else .bad
theorem RX.bind_assoc {α β γ : Type} (r : RX α) (f : α → Ev → RX β) (g : β → Ev → RX γ) : (r.bind f).bind g = r.bind fun a ρ => (f a ρ).bind g := by cases r <;> rfl
section
variable {X : Cx} {W : WX} {elt tg iter c : Expr} {ifs : List Expr} {scope : Scope} {own : List (Str × Nat)} {pos : Pos} {ts : List Nat} {fi : Ev → RX (List D)} {g : D → Ev → Option Ev} {ft : Ev → RX Bool} {fe : Ev → RX D}
end
end VL

set_option Elab.async false
set_option linter.all false
set_option maxRecDepth 100000
set_option autoImplicit false
namespace VL
open PySem PySem.Spec PyProof.Rows L2
/-! ### calls without arguments -/
section
variable {X : Cx} {W : WX} {k : Nat} {f : Addr} {fd : FuncData} {ps : List Str} {sp : Sp} {E : Sg → XK} {x : Str} {p pos : Pos}
theorem pe_callG0 (F : FnG X.prog X.w X.K X.mg X.base k f fd ps sp) (hr : Room k X.A) (hgd : X.A.guards = some []) (hg : Gl X x) (hm : X.mg x = some (.ref f)) (hk : PySem.W.keepIn X.K (.ref f) = true) (hb : Binds X.K fd ps []) (hx : ∀ σ, PassesAt (L2N.CX X.prog X.w) X σ (E σ))
    (hdb : (x == ("__debug__" : Str)) = false := by decide) :
    PE X (.Call (.Name x p) [] [] pos) (tCallS sp E tNil) := by
  refine ⟨fun pins s σ H Q I h => ?_⟩
  refine wpAny_Call_Name_kw (ld_glob I hg hm ?_ hdb)
  exact PySem.W.callWith_K0 I.kIn hk (run_fnG (us := []) (vs := []) F hr hgd hb (hx σ) I .nil h)
theorem v_calC0 {j : Nat} {m : List D → R SD} (C : Cl X.prog X.w X.K X.mg X.base k x ps m) (hr : Room j X.A) (hgd : X.A.guards = some []) (tk : L2N.Takes X W) (hg : Gl X x := by rfl) (hj : k ≤ j := by decide)
    (hdb : (x == ("__debug__" : Str)) = false := by decide) : VE X W (.Call (.Name x p) [] [] pos) (eCall m (cst [])) := by
  obtain ⟨f, fd, h1, h2, h3, h4⟩ := C.ex
  refine PE.imp (pe_callG0 h1.fn (hr.mono hj) hgd hg h2 h3 h4 (L2N.passAt tk) hdb) fun σ H Q ⟨S, G, Hs, ρ, r, p⟩ => ?_
  have q : Post X.K X.mg W Hs H σ ((m []).bind fun s => ofO (toD s)) _ := p
  have nb : m [] ≠ .bad := fun z => by rw [z] at q; exact q
  refine ⟨h1.ar [] nb, Hs, [], r.sub, .nil, ?_⟩
  cases z : m [] with
  | bad => exact nb z
  | ex x => rw [z] at q; exact q
  | ok s =>
    rw [z] at q
    intro Hs' H' v e' hr
    cases s with
    | no => exact q.elim
    | bo l => exact q.elim
    | sh d => exact q Hs' H' e' v hr
    | ow l =>
      obtain ⟨p, us, rfl, h0, h1, h2, h3⟩ := hr
      have g : Same Hs' (upd Hs' p (.lst us)) := fun b u z => by rw [upd_ne (ne_of_none z h1)]; exact z
      exact q _ _ (e'.frz h0 h2 h1) _ (.lst (.inl (.inl upd_same)) (h3.mono g))
end
end VL

set_option Elab.async false
set_option linter.all false
set_option maxRecDepth 100000
set_option maxHeartbeats 4000000
namespace VL
open PySem PySem.Spec PyProof.Rows L2

/-- how a call with n values and the keywords ks binds -/
structure KB (K : Fg) (fd : FuncData) (ps ks : List Str) (n : Nat) : Prop where
  to : ∀ (s : Shared) (us ws : List Value), K.In s.heap → us.length = n → ws.length = ks.length → BindsTo s fd ⟨us, ks.zip ws⟩ (ps.zip (us ++ ws))
section
variable {X : Cx} {n k : Nat} {f : Addr} {fd : FuncData} {ps ks : List Str} {sp : Sp} {E : Sg → XK} {x : Str} {p pos : Pos} {e : Expr} {es : List Expr} {kws : List Keyword} {t tk : TA}
end
def eApp (n k : Nat) (f g : Ev → R (List D)) : Ev → R (List D) := fun ρ => (f ρ).bind fun a => (g ρ).bind fun b => if a.length = n ∧ b.length = k then .ok (a ++ b) else .bad
section
variable {X : Cx} {W : WX} {e : Expr} {es : List Expr} {kws : List Keyword} {nm : Option Str} {f : Ev → R D} {fl fk : Ev → R (List D)} {kpos : Pos}
theorem PK.imp {t t' : TA} (h : PK X kws t) (g : ∀ σ H Q, t' σ H Q → t σ H Q) : PK X kws t' := ⟨fun pos pins s σ H Q I q => h.run pos pins s σ H Q I (g σ H Q q)⟩
end
section
variable {X : Cx} {W : WX} {e : Expr} {es : List Expr} {pos p : Pos} {x : Str} {fl fk : Ev → R (List D)} {k j n : Nat} {f : Addr} {fd : FuncData} {ps ks : List Str} {m : List D → R SD} {kws : List Keyword}
end
structure ClK (P : Program) (w : World) (K : Fg) (mg : Str → Option Value) (base : Heap) (k : Nat) (x : Str) (ps ks : List Str) (n : Nat) (m : List D → R SD) : Prop where
  ex : ∃ f fd, DOk P w K mg base k f fd ps m ∧ mg x = some (.ref f) ∧ PySem.W.keepIn K (.ref f) = true ∧ KB K fd ps ks n
structure DfK (K : Fg) (mg : Str → Option Value) (x : Str) (st : Stmt) (ps ks : List Str) (n : Nat) : Prop where
  ex : ∃ f fd, Fun K x x st f fd ∧ mg x = some (.ref f) ∧ KB K fd ps ks n
section
variable {X : Cx} {W : WX} {e : Expr} {es : List Expr} {pos p : Pos} {x : Str} {fl fk : Ev → R (List D)} {k j n : Nat} {ps ks : List Str} {m : List D → R SD} {kws : List Keyword}
end
/-! ### a list of one's own that is only read while an expression is evaluated -/
end VL

set_option Elab.async false
set_option linter.all false
set_option maxRecDepth 100000
set_option autoImplicit false
namespace VL
open PySem PySem.Spec PyProof.Rows L2

/-! ### evaluation: rows for simp -/
def fin : Out → R SD
  | .nx _ => .ok (.sh .none)
  | .rt r => .ok r
  | .ex x _ => .ex x
  | _ => .bad
section
variable {α β γ δ : Type} {ρ : Ev} {f : Ev → R α} {g : Ev → R β} {h : Ev → R γ} {a : α} {d e : D} {l m : List D} {i j k : Nat} {s t : SD} {b : Bool} {x y z : Int}
@[simp] theorem r_get0 (u : α) (us : List α) : (u :: us)[0]? = some u := id rfl
@[simp] theorem r_getS (u : α) (us : List α) (n : Nat) : (u :: us)[n + 1]? = us[n]? := id rfl
@[simp] theorem r_bind_ok (F : α → R β) : (R.ok a).bind F = F a := id rfl
@[simp] theorem r_bind_ex (u : Xn) (F : α → R β) : (R.ex u : R α).bind F = .ex u := id rfl
@[simp] theorem r_bind_bad (F : α → R β) : (R.bad : R α).bind F = .bad := id rfl
@[simp] theorem r_ofO_some : ofO (some a) = .ok a := id rfl
@[simp] theorem r_ofO_none : ofO (none : Option α) = .bad := id rfl
@[simp] theorem r_noex_ok : noex (.ok a) = .ok a := id rfl
@[simp] theorem r_cst : cst a ρ = .ok a := id rfl
@[simp] theorem r_eVar : eVar i ρ = (match ρ[i]? with | some (.sh d) => .ok d | _ => .bad) := id rfl
@[simp] theorem r_eOwn : eOwn i ρ = (match ρ[i]? with | some (.sh d) => .ok d | some (.ow l) => .ok (.list l) | some (.bo l) => .ok (.list l) | _ => .bad) := id rfl
@[simp] theorem r_e1 (F : α → Option β) : e1 F f ρ = (f ρ).bind fun x => ofO (F x) := id rfl
@[simp] theorem r_e2 (F : α → β → Option γ) : e2 F f g ρ = (f ρ).bind fun x => (g ρ).bind fun y => ofO (F x y) := id rfl
@[simp] theorem r_e3 (F : α → β → γ → Option δ) : e3 F f g h ρ = (f ρ).bind fun x => (g ρ).bind fun y => (h ρ).bind fun z => ofO (F x y z) := id rfl
@[simp] theorem r_eCons (f : Ev → R D) (g : Ev → R (List D)) : eCons f g ρ = (f ρ).bind fun x => (g ρ).bind fun xs => .ok (x :: xs) := id rfl
@[simp] theorem r_eLst (f : Ev → R (List D)) : eLst f ρ = (f ρ).bind fun l => .ok (.list l) := id rfl
@[simp] theorem r_eIf (c : Ev → R Bool) (f g : Ev → R α) : eIf c f g ρ = (c ρ).bind fun b => if b then f ρ else g ρ := id rfl
@[simp] theorem r_eAnd (f g : Ev → R Bool) : eAnd f g ρ = (f ρ).bind fun b => if b then g ρ else .ok false := id rfl
@[simp] theorem r_eOr (f g : Ev → R Bool) : eOr f g ρ = (f ρ).bind fun b => if b then .ok true else g ρ := id rfl
@[simp] theorem r_eNot (f : Ev → R Bool) : eNot f ρ = (f ρ).bind fun b => .ok (!b) := id rfl
@[simp] theorem r_eAndV (f g : Ev → R D) : eAndV f g ρ = (f ρ).bind fun x => (ofO (truD x)).bind fun k => if k then g ρ else .ok x := id rfl
@[simp] theorem r_eOrV (f g : Ev → R D) : eOrV f g ρ = (f ρ).bind fun x => (ofO (truD x)).bind fun k => if k then .ok x else g ρ := id rfl
@[simp] theorem r_eChain (F F' : D → D → Option D) (f g h : Ev → R D) : eChain F F' f g h ρ = (f ρ).bind fun x => (g ρ).bind fun y => (ofO (F x y)).bind fun r => (ofO (bOf r)).bind fun b => if b then (h ρ).bind fun z => ofO (F' y z) else .ok (.bool false) := id rfl
@[simp] theorem r_eCall (m : List D → R SD) (fl : Ev → R (List D)) : eCall m fl ρ = (fl ρ).bind fun ds => (m ds).bind fun s => ofO (toD s) := id rfl
@[simp] theorem r_eCallO (m : List D → R SD) (fl : Ev → R (List D)) : eCallO m fl ρ = (fl ρ).bind fun ds => (m ds).bind fun s => ofO (toL s) := id rfl
@[simp] theorem r_pNo : pNo ρ = .ok none := id rfl
@[simp] theorem r_toD_sh : toD (.sh d) = some d := id rfl
@[simp] theorem r_toD_ow : toD (.ow l) = some (.list l) := id rfl
@[simp] theorem r_toL_ow : toL (.ow l) = some l := id rfl
/-! statements -/
@[simp] theorem r_liftE_ok (k : α → Out) : liftE (.ok a) ρ k = k a := id rfl
@[simp] theorem r_liftE_ex (u : Xn) (k : α → Out) : liftE (.ex u) ρ k = .ex u ρ := id rfl
@[simp] theorem r_liftE_bad (k : α → Out) : liftE .bad ρ k = .bad := id rfl
@[simp] theorem r_seqO_nx (k : Ev → Out) : seqO (.nx ρ) k = k ρ := id rfl
@[simp] theorem r_seqO_rt (k : Ev → Out) : seqO (.rt s) k = .rt s := id rfl
@[simp] theorem r_seqO_rtB (k : Ev → Out) : seqO (.rtB s ρ) k = .rtB s ρ := id rfl
@[simp] theorem r_seqO_bk (k : Ev → Out) : seqO (.bk ρ) k = .bk ρ := id rfl
@[simp] theorem r_seqO_ct (k : Ev → Out) : seqO (.ct ρ) k = .ct ρ := id rfl
@[simp] theorem r_seqO_ex (u : Xn) (k : Ev → Out) : seqO (.ex u ρ) k = .ex u ρ := id rfl
@[simp] theorem r_seqO_bad (k : Ev → Out) : seqO .bad k = .bad := id rfl
@[simp] theorem r_sNil : sNil ρ = .nx ρ := id rfl
@[simp] theorem r_sSeq (F G : Ev → Out) : sSeq F G ρ = seqO (F ρ) G := id rfl
@[simp] theorem r_sSet (f : Ev → R D) : sSet i f ρ = liftE (f ρ) ρ fun d => .nx (ρ.set i (.sh d)) := id rfl
@[simp] theorem r_sSetO (f : Ev → R (List D)) : sSetO i f ρ = liftE (f ρ) ρ fun d => .nx (ρ.set i (.ow d)) := id rfl
@[simp] theorem r_sAsg (f : Ev → R D) (g : D → Ev → Option Ev) : sAsg f g ρ = liftE (f ρ) ρ fun d => match g d ρ with | some ρ' => .nx ρ' | none => .bad := id rfl
@[simp] theorem r_sPar (f : Ev → R (List D)) : sPar i j f ρ = liftE (f ρ) ρ fun ds => match ds with | [d, d'] => .nx ((ρ.set i (.sh d)).set j (.sh d')) | _ => .bad := id rfl
@[simp] theorem r_sAug (F : D → D → Option D) (f : Ev → R D) : sAug i F f ρ = liftE ((eVar i ρ).bind fun x => (f ρ).bind fun y => ofO (F x y)) ρ fun d => .nx (ρ.set i (.sh d)) := id rfl
@[simp] theorem r_sRet (f : Ev → R D) : sRet f ρ = liftE (f ρ) ρ fun d => .rt (.sh d) := id rfl
@[simp] theorem r_sRetO (f : Ev → R (List D)) : sRetO f ρ = liftE (f ρ) ρ fun d => .rt (.ow d) := id rfl
@[simp] theorem r_sRetV : sRetV i ρ = (match ρ[i]? with | some (.ow l) => .rt (.ow l) | some (.sh d) => .rt (.sh d) | _ => .bad) := id rfl
@[simp] theorem r_sRetN : sRetN ρ = .rt (.sh .none) := id rfl
@[simp] theorem r_sIf (c : Ev → R Bool) (F F' : Ev → Out) : sIf c F F' ρ = liftE (c ρ) ρ fun b => if b then F ρ else F' ρ := id rfl
@[simp] theorem r_sDrop (f : Ev → R D) : sDrop f ρ = liftE (f ρ) ρ fun _ => .nx ρ := id rfl
@[simp] theorem r_sFz (F : Ev → Out) : sFz i F ρ = (match ρ[i]? with | some (.ow l) => F (ρ.set i (.sh (.list l))) | _ => F ρ) := id rfl
@[simp] theorem r_onOw (k : List D → Out) : onOw i ρ k = (match ρ[i]? with | some (.ow l) => k l | _ => .bad) := id rfl
@[simp] theorem r_sApp (f : Ev → R D) : sApp i f ρ = onOw i ρ fun l => liftE (f ρ) ρ fun d => if l.length < sizeLine then .nx (ρ.set i (.ow (l ++ [d]))) else .bad := id rfl
@[simp] theorem r_sExt (f : Ev → R D) : sExt i f ρ = onOw i ρ fun l => liftE (f ρ) ρ fun d => match d with
  | .list l' => if l.length + l'.length ≤ sizeLine then .nx (ρ.set i (.ow (l ++ l'))) else .bad
  | _ => .bad := id rfl
@[simp] theorem r_sStore (fi fv : Ev → R D) : sStore i fi fv ρ = onOw i ρ fun l => liftE ((fv ρ).bind fun d => (fi ρ).bind fun k => .ok (d, k)) ρ fun (d, k) => match k with
  | .int z => match ixN l.length z with
    | some j => .nx (ρ.set i (.ow (l.set j d)))
    | none => .bad
  | _ => .bad := id rfl
@[simp] theorem r_placeD : placeD l (.int z) = if 0 ≤ z ∧ z < 2 ^ 63 then (l[z.toNat]?).map fun y => (z.toNat, y) else none := id rfl
@[simp] theorem r_sAugIx (F : D → D → Option D) (fi fv : Ev → R D) : sAugIx i F fi fv ρ = onOw i ρ fun l => liftE ((fi ρ).bind fun k => ofO (placeD l k)) ρ fun jy => liftE ((fv ρ).bind fun d => ofO (F jy.2 d)) ρ fun d => .nx (ρ.set i (.ow (l.set jy.1 d))) := id rfl
@[simp] theorem r_sPop : sPop i j ρ = onOw j ρ fun l => match l.getLast? with
  | some d => .nx ((ρ.set j (.ow l.dropLast)).set i (.sh d))
  | none => .bad := id rfl
@[simp] theorem r_sFor (fi : Ev → R (List D)) (g : D → Ev → Option Ev) (F : Ev → Out) : sFor fi g F ρ = liftE (fi ρ) ρ fun l => forO (gTo g F) l ρ := id rfl
@[simp] theorem r_gTo (g : D → Ev → Option Ev) (F : Ev → Out) : gTo g F d ρ = match g d ρ with | some ρ' => F ρ' | none => .bad := id rfl
@[simp] theorem r_gSet : gSet i d ρ = some (ρ.set i (.sh d)) := id rfl
@[simp] theorem r_gTupD_t (n : Nat) (k : List D → Ev → Option Ev) : gTupD n k (.tuple l) ρ = (if l.length = n then k l ρ else none) := id rfl
@[simp] theorem r_gTupD_l (n : Nat) (k : List D → Ev → Option Ev) : gTupD n k (.list l) ρ = (if l.length = n then k l ρ else none) := id rfl
@[simp] theorem r_gsNil : gsNil [] ρ = some ρ := id rfl
@[simp] theorem r_gsCons (g : D → Ev → Option Ev) (k : List D → Ev → Option Ev) : gsCons g k (d :: l) ρ = (g d ρ).bind (k l) := id rfl
@[simp] theorem r_wipe_nil : wipeE ρ [] = ρ := id rfl
@[simp] theorem r_wipe_cons (vs : List Nat) : wipeE ρ (i :: vs) = (wipeE ρ vs).set i .no := id rfl
@[simp] theorem r_forO_nil (F : D → Ev → Out) : forO F [] ρ = .nx ρ := id rfl
@[simp] theorem r_eComp (vs : List Nat) (fi : Ev → R (List D)) (g : D → Ev → Option Ev) (ft : Ev → R Bool) (fe : Ev → R D) : eComp vs fi g ft fe ρ = (fi ρ).bind fun l => if l.length ≤ sizeLine then compR (compS vs g ft fe ρ) l else .bad := id rfl
@[simp] theorem r_compR_nil (st : D → R (Option D)) : compR st [] = .ok [] := id rfl
/-! evaluations that change lists -/
@[simp] theorem rx_bind_ok (F : α → Ev → RX β) : (RX.ok a ρ).bind F = F a ρ := id rfl
@[simp] theorem rx_bind_bad (F : α → Ev → RX β) : (RX.bad : RX α).bind F = .bad := id rfl
@[simp] theorem rx_xl (f : Ev → R α) : xl f ρ = (match f ρ with | .ok a => .ok a ρ | _ => .bad) := id rfl
@[simp] theorem rx_of_some : ofX (some a) ρ = .ok a ρ := id rfl
@[simp] theorem rx_of_none : ofX (none : Option α) ρ = .bad := id rfl
@[simp] theorem rx_x1 (F : α → Option β) (f : Ev → RX α) : x1 F f ρ = (f ρ).bind fun x ρ => ofX (F x) ρ := id rfl
@[simp] theorem rx_x2 (F : α → β → Option γ) (f : Ev → RX α) (g : Ev → RX β) : x2 F f g ρ = (f ρ).bind fun x ρ => (g ρ).bind fun y ρ => ofX (F x y) ρ := id rfl
@[simp] theorem rx_xCons (f : Ev → RX D) (g : Ev → RX (List D)) : xCons f g ρ = (f ρ).bind fun x ρ => (g ρ).bind fun xs ρ => .ok (x :: xs) ρ := id rfl
@[simp] theorem rx_xLst (f : Ev → RX (List D)) : xLst f ρ = (f ρ).bind fun l ρ => .ok (.list l) ρ := id rfl
@[simp] theorem rx_xIf (c : Ev → RX Bool) (f g : Ev → RX α) : xIf c f g ρ = (c ρ).bind fun b ρ => if b then f ρ else g ρ := id rfl
@[simp] theorem rx_xAnd (f g : Ev → RX Bool) : xAnd f g ρ = (f ρ).bind fun b ρ => if b then g ρ else .ok false ρ := id rfl
@[simp] theorem rx_xOr (f g : Ev → RX Bool) : xOr f g ρ = (f ρ).bind fun b ρ => if b then .ok true ρ else g ρ := id rfl
@[simp] theorem rx_xNot (f : Ev → RX Bool) : xNot f ρ = (f ρ).bind fun b ρ => .ok (!b) ρ := id rfl
@[simp] theorem rx_xCall (m : List D → R SD) (fl : Ev → RX (List D)) : xCall m fl ρ = (fl ρ).bind fun ds ρ => match m ds with | .ok s => ofX (toD s) ρ | _ => .bad := id rfl
@[simp] theorem rx_xCallO (m : List D → R SD) (fl : Ev → RX (List D)) : xCallO m fl ρ = (fl ρ).bind fun ds ρ => match m ds with | .ok s => ofX (toL s) ρ | _ => .bad := id rfl
@[simp] theorem rx_lstAt : lstAt ρ i = (match ρ[i]? with | some (.ow l) => some (l, false) | some (.bo l) => some (l, true) | _ => none) := id rfl
@[simp] theorem rx_mkT : mkL true l = .bo l := id rfl
@[simp] theorem rx_mkF : mkL false l = .ow l := id rfl
@[simp] theorem rx_xPop : xPop i ρ = (match lstAt ρ i with | some (l, b) => (match l.getLast? with | some d => .ok d (ρ.set i (mkL b l.dropLast)) | none => .bad) | none => .bad) := id rfl
@[simp] theorem rx_xHere (f : Ev → RX (List D)) : xHere i f ρ = (match lstAt ρ i with | some _ => (f ρ).bind fun ds ρ => .ok (.none :: ds) ρ | none => .bad) := id rfl
@[simp] theorem rx_xCallB (m : List D → List D → RB) (f : Ev → RX (List D)) : xCallB m i f ρ = (f ρ).bind fun ds ρ => match lstAt ρ i with | some (l, k) => (match m l ds with | .ok r l' => ofX (toD r) (ρ.set i (mkL k l')) | .bad => .bad) | none => .bad := id rfl
@[simp] theorem rx_xCallBO (m : List D → List D → RB) (f : Ev → RX (List D)) : xCallBO m i f ρ = (f ρ).bind fun ds ρ => match lstAt ρ i with | some (l, k) => (match m l ds with | .ok r l' => ofX (toL r) (ρ.set i (mkL k l')) | .bad => .bad) | none => .bad := id rfl
@[simp] theorem rx_xComp (vs : List Nat) (fi : Ev → RX (List D)) (g : D → Ev → Option Ev) (ft : Ev → RX Bool) (fe : Ev → RX D) : xComp vs fi g ft fe ρ = (fi ρ).bind fun l ρ1 => if l.length ≤ sizeLine then compX (compXS vs g ft fe) l (wipeE ρ1 vs) else .bad := id rfl
@[simp] theorem rx_lift_ok (k : α → Ev → Out) : liftX (.ok a ρ) k = k a ρ := id rfl
@[simp] theorem rx_lift_bad (k : α → Ev → Out) : liftX .bad k = .bad := id rfl
@[simp] theorem ry_set (f : Ev → RX D) : ySet i f ρ = liftX (f ρ) fun d ρ => .nx (ρ.set i (.sh d)) := id rfl
@[simp] theorem ry_setO (f : Ev → RX (List D)) : ySetO i f ρ = liftX (f ρ) fun d ρ => .nx (ρ.set i (.ow d)) := id rfl
@[simp] theorem ry_asg (f : Ev → RX D) (g : D → Ev → Option Ev) : yAsg f g ρ = liftX (f ρ) fun d ρ => match g d ρ with | some ρ' => .nx ρ' | none => .bad := id rfl
@[simp] theorem ry_if (c : Ev → RX Bool) (F F' : Ev → Out) : yIf c F F' ρ = liftX (c ρ) fun b ρ => if b then F ρ else F' ρ := id rfl
@[simp] theorem ry_drop (f : Ev → RX D) : yDrop f ρ = liftX (f ρ) fun _ ρ => .nx ρ := id rfl
@[simp] theorem ry_ret (f : Ev → RX D) : yRet f ρ = liftX (f ρ) fun d ρ => .rt (.sh d) := id rfl
@[simp] theorem ry_retO (f : Ev → RX (List D)) : yRetO f ρ = liftX (f ρ) fun d ρ => .rt (.ow d) := id rfl
@[simp] theorem ry_retB (f : Ev → RX D) : yRetB f ρ = liftX (f ρ) fun d ρ => .rtB (.sh d) ρ := id rfl
@[simp] theorem ry_retOB (f : Ev → RX (List D)) : yRetOB f ρ = liftX (f ρ) fun d ρ => .rtB (.ow d) ρ := id rfl
@[simp] theorem ry_retVB : yRetVB i ρ = (match ρ[i]? with | some (.ow l) => .rtB (.ow l) ρ | some (.sh d) => .rtB (.sh d) ρ | _ => .bad) := id rfl
@[simp] theorem ry_retNB : yRetNB ρ = .rtB (.sh .none) ρ := id rfl
@[simp] theorem ry_for (fi : Ev → RX (List D)) (g : D → Ev → Option Ev) (F : Ev → Out) : yFor fi g F ρ = liftX (fi ρ) fun l ρ => forO (gTo g F) l ρ := id rfl
@[simp] theorem ry_app (f : Ev → RX D) : yApp i f ρ = (match lstAt ρ i with
  | none => .bad
  | some _ => liftX (f ρ) fun d ρ => match lstAt ρ i with
    | some (l, b) => if l.length < sizeLine then .nx (ρ.set i (mkL b (l ++ [d]))) else .bad
    | none => .bad) := id rfl
@[simp] theorem ry_store (fi fv : Ev → RX D) : yStore i fi fv ρ = liftX (fv ρ) fun d ρ => match lstAt ρ i with
  | none => .bad
  | some _ => liftX (fi ρ) fun k ρ => match lstAt ρ i with
    | some (l, b) => match k with
      | .int z => match ixN l.length z with
        | some j => .nx (ρ.set i (mkL b (l.set j d)))
        | none => .bad
      | _ => .bad
    | none => .bad := id rfl
@[simp] theorem rx_fin_rtB (b : Nat) : finB b (.rtB s ρ) = (match ρ[b]? with | some (.bo l) => .ok s l | _ => .bad) := id rfl
@[simp] theorem rx_fin_nx (b : Nat) : finB b (.nx ρ) = (match ρ[b]? with | some (.bo l) => .ok (.sh .none) l | _ => .bad) := id rfl
@[simp] theorem rx_run1 (n b : Nat) (F : Ev → Out) (a : D) (h : b < 1) : runB 1 n b F l [a] = finB b (F ((.sh a :: List.replicate (n - 1) .no).set b (.bo l))) := if_pos ⟨rfl, h⟩
@[simp] theorem rx_run2 (n b : Nat) (F : Ev → Out) (a c : D) (h : b < 2) : runB 2 n b F l [a, c] = finB b (F ((.sh a :: .sh c :: List.replicate (n - 2) .no).set b (.bo l))) := if_pos ⟨rfl, h⟩
@[simp] theorem rx_run3 (n b : Nat) (F : Ev → Out) (a c d : D) (h : b < 3) : runB 3 n b F l [a, c, d] = finB b (F ((.sh a :: .sh c :: .sh d :: List.replicate (n - 3) .no).set b (.bo l))) := if_pos ⟨rfl, h⟩
@[simp] theorem rx_run4 (n b : Nat) (F : Ev → Out) (a c d e : D) (h : b < 4) : runB 4 n b F l [a, c, d, e] = finB b (F ((.sh a :: .sh c :: .sh d :: .sh e :: List.replicate (n - 4) .no).set b (.bo l))) := if_pos ⟨rfl, h⟩
@[simp] theorem r_run0 (n : Nat) (F : Ev → Out) : runD 0 n F [] = fin (F (List.replicate n .no)) := id rfl
/-! defs -/
@[simp] theorem r_fin_nx : fin (.nx ρ) = .ok (.sh .none) := id rfl
@[simp] theorem r_fin_rt : fin (.rt s) = .ok s := id rfl
@[simp] theorem r_fin_ex (u : Xn) : fin (.ex u ρ) = .ex u := id rfl
@[simp] theorem r_run1 (n : Nat) (F : Ev → Out) (a : D) : runD 1 n F [a] = fin (F (.sh a :: List.replicate (n - 1) .no)) := id rfl
@[simp] theorem r_run2 (n : Nat) (F : Ev → Out) (a b : D) : runD 2 n F [a, b] = fin (F (.sh a :: .sh b :: List.replicate (n - 2) .no)) := id rfl
@[simp] theorem r_run3 (n : Nat) (F : Ev → Out) (a b c : D) : runD 3 n F [a, b, c] = fin (F (.sh a :: .sh b :: .sh c :: List.replicate (n - 3) .no)) := id rfl
@[simp] theorem r_run4 (n : Nat) (F : Ev → Out) (a b c d : D) : runD 4 n F [a, b, c, d] = fin (F (.sh a :: .sh b :: .sh c :: .sh d :: List.replicate (n - 4) .no)) := id rfl
/-! data -/
theorem r_lim (l : List D) (h : l.length ≤ sizeLine) : lim l = some l := if_pos h
theorem r_tupD (l : List D) (h : l.length ≤ sizeLine) : tupD l = some (.tuple l) := by unfold tupD; rw [r_lim l h]; rfl
@[simp] theorem r_lim0 : lim [] = some [] := if_pos (show 0 ≤ sizeLine by decide)
@[simp] theorem r_tup0 : tupD [] = some (.tuple []) := r_tupD [] (show 0 ≤ sizeLine by decide)
@[simp] theorem r_lim1 (a0 : D) : lim [a0] = some [a0] := if_pos (show 1 ≤ sizeLine by decide)
@[simp] theorem r_tup1 (a0 : D) : tupD [a0] = some (.tuple [a0]) := r_tupD [a0] (show 1 ≤ sizeLine by decide)
@[simp] theorem r_lim2 (a0 a1 : D) : lim [a0, a1] = some [a0, a1] := if_pos (show 2 ≤ sizeLine by decide)
@[simp] theorem r_tup2 (a0 a1 : D) : tupD [a0, a1] = some (.tuple [a0, a1]) := r_tupD [a0, a1] (show 2 ≤ sizeLine by decide)
@[simp] theorem r_lim3 (a0 a1 a2 : D) : lim [a0, a1, a2] = some [a0, a1, a2] := if_pos (show 3 ≤ sizeLine by decide)
@[simp] theorem r_tup3 (a0 a1 a2 : D) : tupD [a0, a1, a2] = some (.tuple [a0, a1, a2]) := r_tupD [a0, a1, a2] (show 3 ≤ sizeLine by decide)
@[simp] theorem r_lim4 (a0 a1 a2 a3 : D) : lim [a0, a1, a2, a3] = some [a0, a1, a2, a3] := if_pos (show 4 ≤ sizeLine by decide)
@[simp] theorem r_tup4 (a0 a1 a2 a3 : D) : tupD [a0, a1, a2, a3] = some (.tuple [a0, a1, a2, a3]) := r_tupD [a0, a1, a2, a3] (show 4 ≤ sizeLine by decide)
@[simp] theorem r_lim5 (a0 a1 a2 a3 a4 : D) : lim [a0, a1, a2, a3, a4] = some [a0, a1, a2, a3, a4] := if_pos (show 5 ≤ sizeLine by decide)
@[simp] theorem r_tup5 (a0 a1 a2 a3 a4 : D) : tupD [a0, a1, a2, a3, a4] = some (.tuple [a0, a1, a2, a3, a4]) := r_tupD [a0, a1, a2, a3, a4] (show 5 ≤ sizeLine by decide)
@[simp] theorem r_lim6 (a0 a1 a2 a3 a4 a5 : D) : lim [a0, a1, a2, a3, a4, a5] = some [a0, a1, a2, a3, a4, a5] := if_pos (show 6 ≤ sizeLine by decide)
@[simp] theorem r_tup6 (a0 a1 a2 a3 a4 a5 : D) : tupD [a0, a1, a2, a3, a4, a5] = some (.tuple [a0, a1, a2, a3, a4, a5]) := r_tupD [a0, a1, a2, a3, a4, a5] (show 6 ≤ sizeLine by decide)
@[simp] theorem r_lim7 (a0 a1 a2 a3 a4 a5 a6 : D) : lim [a0, a1, a2, a3, a4, a5, a6] = some [a0, a1, a2, a3, a4, a5, a6] := if_pos (show 7 ≤ sizeLine by decide)
@[simp] theorem r_tup7 (a0 a1 a2 a3 a4 a5 a6 : D) : tupD [a0, a1, a2, a3, a4, a5, a6] = some (.tuple [a0, a1, a2, a3, a4, a5, a6]) := r_tupD [a0, a1, a2, a3, a4, a5, a6] (show 7 ≤ sizeLine by decide)
@[simp] theorem r_lim8 (a0 a1 a2 a3 a4 a5 a6 a7 : D) : lim [a0, a1, a2, a3, a4, a5, a6, a7] = some [a0, a1, a2, a3, a4, a5, a6, a7] := if_pos (show 8 ≤ sizeLine by decide)
@[simp] theorem r_tup8 (a0 a1 a2 a3 a4 a5 a6 a7 : D) : tupD [a0, a1, a2, a3, a4, a5, a6, a7] = some (.tuple [a0, a1, a2, a3, a4, a5, a6, a7]) := r_tupD [a0, a1, a2, a3, a4, a5, a6, a7] (show 8 ≤ sizeLine by decide)
@[simp] theorem r_lim9 (a0 a1 a2 a3 a4 a5 a6 a7 a8 : D) : lim [a0, a1, a2, a3, a4, a5, a6, a7, a8] = some [a0, a1, a2, a3, a4, a5, a6, a7, a8] := if_pos (show 9 ≤ sizeLine by decide)
@[simp] theorem r_tup9 (a0 a1 a2 a3 a4 a5 a6 a7 a8 : D) : tupD [a0, a1, a2, a3, a4, a5, a6, a7, a8] = some (.tuple [a0, a1, a2, a3, a4, a5, a6, a7, a8]) := r_tupD [a0, a1, a2, a3, a4, a5, a6, a7, a8] (show 9 ≤ sizeLine by decide)
@[simp] theorem r_lim10 (a0 a1 a2 a3 a4 a5 a6 a7 a8 a9 : D) : lim [a0, a1, a2, a3, a4, a5, a6, a7, a8, a9] = some [a0, a1, a2, a3, a4, a5, a6, a7, a8, a9] := if_pos (show 10 ≤ sizeLine by decide)
@[simp] theorem r_tup10 (a0 a1 a2 a3 a4 a5 a6 a7 a8 a9 : D) : tupD [a0, a1, a2, a3, a4, a5, a6, a7, a8, a9] = some (.tuple [a0, a1, a2, a3, a4, a5, a6, a7, a8, a9]) := r_tupD [a0, a1, a2, a3, a4, a5, a6, a7, a8, a9] (show 10 ≤ sizeLine by decide)
@[simp] theorem r_lim11 (a0 a1 a2 a3 a4 a5 a6 a7 a8 a9 a10 : D) : lim [a0, a1, a2, a3, a4, a5, a6, a7, a8, a9, a10] = some [a0, a1, a2, a3, a4, a5, a6, a7, a8, a9, a10] := if_pos (show 11 ≤ sizeLine by decide)
@[simp] theorem r_tup11 (a0 a1 a2 a3 a4 a5 a6 a7 a8 a9 a10 : D) : tupD [a0, a1, a2, a3, a4, a5, a6, a7, a8, a9, a10] = some (.tuple [a0, a1, a2, a3, a4, a5, a6, a7, a8, a9, a10]) := r_tupD [a0, a1, a2, a3, a4, a5, a6, a7, a8, a9, a10] (show 11 ≤ sizeLine by decide)
@[simp] theorem r_lim12 (a0 a1 a2 a3 a4 a5 a6 a7 a8 a9 a10 a11 : D) : lim [a0, a1, a2, a3, a4, a5, a6, a7, a8, a9, a10, a11] = some [a0, a1, a2, a3, a4, a5, a6, a7, a8, a9, a10, a11] := if_pos (show 12 ≤ sizeLine by decide)
@[simp] theorem r_tup12 (a0 a1 a2 a3 a4 a5 a6 a7 a8 a9 a10 a11 : D) : tupD [a0, a1, a2, a3, a4, a5, a6, a7, a8, a9, a10, a11] = some (.tuple [a0, a1, a2, a3, a4, a5, a6, a7, a8, a9, a10, a11]) := r_tupD [a0, a1, a2, a3, a4, a5, a6, a7, a8, a9, a10, a11] (show 12 ≤ sizeLine by decide)
@[simp] theorem r_lim13 (a0 a1 a2 a3 a4 a5 a6 a7 a8 a9 a10 a11 a12 : D) : lim [a0, a1, a2, a3, a4, a5, a6, a7, a8, a9, a10, a11, a12] = some [a0, a1, a2, a3, a4, a5, a6, a7, a8, a9, a10, a11, a12] := if_pos (show 13 ≤ sizeLine by decide)
@[simp] theorem r_tup13 (a0 a1 a2 a3 a4 a5 a6 a7 a8 a9 a10 a11 a12 : D) : tupD [a0, a1, a2, a3, a4, a5, a6, a7, a8, a9, a10, a11, a12] = some (.tuple [a0, a1, a2, a3, a4, a5, a6, a7, a8, a9, a10, a11, a12]) := r_tupD [a0, a1, a2, a3, a4, a5, a6, a7, a8, a9, a10, a11, a12] (show 13 ≤ sizeLine by decide)
@[simp] theorem r_lim14 (a0 a1 a2 a3 a4 a5 a6 a7 a8 a9 a10 a11 a12 a13 : D) : lim [a0, a1, a2, a3, a4, a5, a6, a7, a8, a9, a10, a11, a12, a13] = some [a0, a1, a2, a3, a4, a5, a6, a7, a8, a9, a10, a11, a12, a13] := if_pos (show 14 ≤ sizeLine by decide)
@[simp] theorem r_tup14 (a0 a1 a2 a3 a4 a5 a6 a7 a8 a9 a10 a11 a12 a13 : D) : tupD [a0, a1, a2, a3, a4, a5, a6, a7, a8, a9, a10, a11, a12, a13] = some (.tuple [a0, a1, a2, a3, a4, a5, a6, a7, a8, a9, a10, a11, a12, a13]) := r_tupD [a0, a1, a2, a3, a4, a5, a6, a7, a8, a9, a10, a11, a12, a13] (show 14 ≤ sizeLine by decide)
@[simp] theorem r_lim15 (a0 a1 a2 a3 a4 a5 a6 a7 a8 a9 a10 a11 a12 a13 a14 : D) : lim [a0, a1, a2, a3, a4, a5, a6, a7, a8, a9, a10, a11, a12, a13, a14] = some [a0, a1, a2, a3, a4, a5, a6, a7, a8, a9, a10, a11, a12, a13, a14] := if_pos (show 15 ≤ sizeLine by decide)
@[simp] theorem r_tup15 (a0 a1 a2 a3 a4 a5 a6 a7 a8 a9 a10 a11 a12 a13 a14 : D) : tupD [a0, a1, a2, a3, a4, a5, a6, a7, a8, a9, a10, a11, a12, a13, a14] = some (.tuple [a0, a1, a2, a3, a4, a5, a6, a7, a8, a9, a10, a11, a12, a13, a14]) := r_tupD [a0, a1, a2, a3, a4, a5, a6, a7, a8, a9, a10, a11, a12, a13, a14] (show 15 ≤ sizeLine by decide)
@[simp] theorem r_lim16 (a0 a1 a2 a3 a4 a5 a6 a7 a8 a9 a10 a11 a12 a13 a14 a15 : D) : lim [a0, a1, a2, a3, a4, a5, a6, a7, a8, a9, a10, a11, a12, a13, a14, a15] = some [a0, a1, a2, a3, a4, a5, a6, a7, a8, a9, a10, a11, a12, a13, a14, a15] := if_pos (show 16 ≤ sizeLine by decide)
@[simp] theorem r_tup16 (a0 a1 a2 a3 a4 a5 a6 a7 a8 a9 a10 a11 a12 a13 a14 a15 : D) : tupD [a0, a1, a2, a3, a4, a5, a6, a7, a8, a9, a10, a11, a12, a13, a14, a15] = some (.tuple [a0, a1, a2, a3, a4, a5, a6, a7, a8, a9, a10, a11, a12, a13, a14, a15]) := r_tupD [a0, a1, a2, a3, a4, a5, a6, a7, a8, a9, a10, a11, a12, a13, a14, a15] (show 16 ≤ sizeLine by decide)
@[simp] theorem r_lim17 (a0 a1 a2 a3 a4 a5 a6 a7 a8 a9 a10 a11 a12 a13 a14 a15 a16 : D) : lim [a0, a1, a2, a3, a4, a5, a6, a7, a8, a9, a10, a11, a12, a13, a14, a15, a16] = some [a0, a1, a2, a3, a4, a5, a6, a7, a8, a9, a10, a11, a12, a13, a14, a15, a16] := if_pos (show 17 ≤ sizeLine by decide)
@[simp] theorem r_tup17 (a0 a1 a2 a3 a4 a5 a6 a7 a8 a9 a10 a11 a12 a13 a14 a15 a16 : D) : tupD [a0, a1, a2, a3, a4, a5, a6, a7, a8, a9, a10, a11, a12, a13, a14, a15, a16] = some (.tuple [a0, a1, a2, a3, a4, a5, a6, a7, a8, a9, a10, a11, a12, a13, a14, a15, a16]) := r_tupD [a0, a1, a2, a3, a4, a5, a6, a7, a8, a9, a10, a11, a12, a13, a14, a15, a16] (show 17 ≤ sizeLine by decide)
@[simp] theorem r_lim18 (a0 a1 a2 a3 a4 a5 a6 a7 a8 a9 a10 a11 a12 a13 a14 a15 a16 a17 : D) : lim [a0, a1, a2, a3, a4, a5, a6, a7, a8, a9, a10, a11, a12, a13, a14, a15, a16, a17] = some [a0, a1, a2, a3, a4, a5, a6, a7, a8, a9, a10, a11, a12, a13, a14, a15, a16, a17] := if_pos (show 18 ≤ sizeLine by decide)
@[simp] theorem r_tup18 (a0 a1 a2 a3 a4 a5 a6 a7 a8 a9 a10 a11 a12 a13 a14 a15 a16 a17 : D) : tupD [a0, a1, a2, a3, a4, a5, a6, a7, a8, a9, a10, a11, a12, a13, a14, a15, a16, a17] = some (.tuple [a0, a1, a2, a3, a4, a5, a6, a7, a8, a9, a10, a11, a12, a13, a14, a15, a16, a17]) := r_tupD [a0, a1, a2, a3, a4, a5, a6, a7, a8, a9, a10, a11, a12, a13, a14, a15, a16, a17] (show 18 ≤ sizeLine by decide)
@[simp] theorem r_lim19 (a0 a1 a2 a3 a4 a5 a6 a7 a8 a9 a10 a11 a12 a13 a14 a15 a16 a17 a18 : D) : lim [a0, a1, a2, a3, a4, a5, a6, a7, a8, a9, a10, a11, a12, a13, a14, a15, a16, a17, a18] = some [a0, a1, a2, a3, a4, a5, a6, a7, a8, a9, a10, a11, a12, a13, a14, a15, a16, a17, a18] := if_pos (show 19 ≤ sizeLine by decide)
@[simp] theorem r_tup19 (a0 a1 a2 a3 a4 a5 a6 a7 a8 a9 a10 a11 a12 a13 a14 a15 a16 a17 a18 : D) : tupD [a0, a1, a2, a3, a4, a5, a6, a7, a8, a9, a10, a11, a12, a13, a14, a15, a16, a17, a18] = some (.tuple [a0, a1, a2, a3, a4, a5, a6, a7, a8, a9, a10, a11, a12, a13, a14, a15, a16, a17, a18]) := r_tupD [a0, a1, a2, a3, a4, a5, a6, a7, a8, a9, a10, a11, a12, a13, a14, a15, a16, a17, a18] (show 19 ≤ sizeLine by decide)
@[simp] theorem r_lim20 (a0 a1 a2 a3 a4 a5 a6 a7 a8 a9 a10 a11 a12 a13 a14 a15 a16 a17 a18 a19 : D) : lim [a0, a1, a2, a3, a4, a5, a6, a7, a8, a9, a10, a11, a12, a13, a14, a15, a16, a17, a18, a19] = some [a0, a1, a2, a3, a4, a5, a6, a7, a8, a9, a10, a11, a12, a13, a14, a15, a16, a17, a18, a19] := if_pos (show 20 ≤ sizeLine by decide)
@[simp] theorem r_tup20 (a0 a1 a2 a3 a4 a5 a6 a7 a8 a9 a10 a11 a12 a13 a14 a15 a16 a17 a18 a19 : D) : tupD [a0, a1, a2, a3, a4, a5, a6, a7, a8, a9, a10, a11, a12, a13, a14, a15, a16, a17, a18, a19] = some (.tuple [a0, a1, a2, a3, a4, a5, a6, a7, a8, a9, a10, a11, a12, a13, a14, a15, a16, a17, a18, a19]) := r_tupD [a0, a1, a2, a3, a4, a5, a6, a7, a8, a9, a10, a11, a12, a13, a14, a15, a16, a17, a18, a19] (show 20 ≤ sizeLine by decide)
@[simp] theorem r_lim21 (a0 a1 a2 a3 a4 a5 a6 a7 a8 a9 a10 a11 a12 a13 a14 a15 a16 a17 a18 a19 a20 : D) : lim [a0, a1, a2, a3, a4, a5, a6, a7, a8, a9, a10, a11, a12, a13, a14, a15, a16, a17, a18, a19, a20] = some [a0, a1, a2, a3, a4, a5, a6, a7, a8, a9, a10, a11, a12, a13, a14, a15, a16, a17, a18, a19, a20] := if_pos (show 21 ≤ sizeLine by decide)
@[simp] theorem r_tup21 (a0 a1 a2 a3 a4 a5 a6 a7 a8 a9 a10 a11 a12 a13 a14 a15 a16 a17 a18 a19 a20 : D) : tupD [a0, a1, a2, a3, a4, a5, a6, a7, a8, a9, a10, a11, a12, a13, a14, a15, a16, a17, a18, a19, a20] = some (.tuple [a0, a1, a2, a3, a4, a5, a6, a7, a8, a9, a10, a11, a12, a13, a14, a15, a16, a17, a18, a19, a20]) := r_tupD [a0, a1, a2, a3, a4, a5, a6, a7, a8, a9, a10, a11, a12, a13, a14, a15, a16, a17, a18, a19, a20] (show 21 ≤ sizeLine by decide)
@[simp] theorem r_lim22 (a0 a1 a2 a3 a4 a5 a6 a7 a8 a9 a10 a11 a12 a13 a14 a15 a16 a17 a18 a19 a20 a21 : D) : lim [a0, a1, a2, a3, a4, a5, a6, a7, a8, a9, a10, a11, a12, a13, a14, a15, a16, a17, a18, a19, a20, a21] = some [a0, a1, a2, a3, a4, a5, a6, a7, a8, a9, a10, a11, a12, a13, a14, a15, a16, a17, a18, a19, a20, a21] := if_pos (show 22 ≤ sizeLine by decide)
@[simp] theorem r_tup22 (a0 a1 a2 a3 a4 a5 a6 a7 a8 a9 a10 a11 a12 a13 a14 a15 a16 a17 a18 a19 a20 a21 : D) : tupD [a0, a1, a2, a3, a4, a5, a6, a7, a8, a9, a10, a11, a12, a13, a14, a15, a16, a17, a18, a19, a20, a21] = some (.tuple [a0, a1, a2, a3, a4, a5, a6, a7, a8, a9, a10, a11, a12, a13, a14, a15, a16, a17, a18, a19, a20, a21]) := r_tupD [a0, a1, a2, a3, a4, a5, a6, a7, a8, a9, a10, a11, a12, a13, a14, a15, a16, a17, a18, a19, a20, a21] (show 22 ≤ sizeLine by decide)
@[simp] theorem r_lim23 (a0 a1 a2 a3 a4 a5 a6 a7 a8 a9 a10 a11 a12 a13 a14 a15 a16 a17 a18 a19 a20 a21 a22 : D) : lim [a0, a1, a2, a3, a4, a5, a6, a7, a8, a9, a10, a11, a12, a13, a14, a15, a16, a17, a18, a19, a20, a21, a22] = some [a0, a1, a2, a3, a4, a5, a6, a7, a8, a9, a10, a11, a12, a13, a14, a15, a16, a17, a18, a19, a20, a21, a22] := if_pos (show 23 ≤ sizeLine by decide)
@[simp] theorem r_tup23 (a0 a1 a2 a3 a4 a5 a6 a7 a8 a9 a10 a11 a12 a13 a14 a15 a16 a17 a18 a19 a20 a21 a22 : D) : tupD [a0, a1, a2, a3, a4, a5, a6, a7, a8, a9, a10, a11, a12, a13, a14, a15, a16, a17, a18, a19, a20, a21, a22] = some (.tuple [a0, a1, a2, a3, a4, a5, a6, a7, a8, a9, a10, a11, a12, a13, a14, a15, a16, a17, a18, a19, a20, a21, a22]) := r_tupD [a0, a1, a2, a3, a4, a5, a6, a7, a8, a9, a10, a11, a12, a13, a14, a15, a16, a17, a18, a19, a20, a21, a22] (show 23 ≤ sizeLine by decide)
@[simp] theorem r_lim24 (a0 a1 a2 a3 a4 a5 a6 a7 a8 a9 a10 a11 a12 a13 a14 a15 a16 a17 a18 a19 a20 a21 a22 a23 : D) : lim [a0, a1, a2, a3, a4, a5, a6, a7, a8, a9, a10, a11, a12, a13, a14, a15, a16, a17, a18, a19, a20, a21, a22, a23] = some [a0, a1, a2, a3, a4, a5, a6, a7, a8, a9, a10, a11, a12, a13, a14, a15, a16, a17, a18, a19, a20, a21, a22, a23] := if_pos (show 24 ≤ sizeLine by decide)
@[simp] theorem r_tup24 (a0 a1 a2 a3 a4 a5 a6 a7 a8 a9 a10 a11 a12 a13 a14 a15 a16 a17 a18 a19 a20 a21 a22 a23 : D) : tupD [a0, a1, a2, a3, a4, a5, a6, a7, a8, a9, a10, a11, a12, a13, a14, a15, a16, a17, a18, a19, a20, a21, a22, a23] = some (.tuple [a0, a1, a2, a3, a4, a5, a6, a7, a8, a9, a10, a11, a12, a13, a14, a15, a16, a17, a18, a19, a20, a21, a22, a23]) := r_tupD [a0, a1, a2, a3, a4, a5, a6, a7, a8, a9, a10, a11, a12, a13, a14, a15, a16, a17, a18, a19, a20, a21, a22, a23] (show 24 ≤ sizeLine by decide)
@[simp] theorem r_tru_b : truD (.bool b) = some b := id rfl
@[simp] theorem r_tru_i : truD (.int x) = some (x != 0) := id rfl
@[simp] theorem r_tru_l : truD (.list l) = some (!l.isEmpty) := id rfl
@[simp] theorem r_tru_t : truD (.tuple l) = some (!l.isEmpty) := id rfl
@[simp] theorem r_tru_n : truD .none = some false := id rfl
@[simp] theorem r_bOf : bOf (.bool b) = some b := id rfl
@[simp] theorem r_add : addD (.int x) (.int y) = some (.int (x + y)) := id rfl
@[simp] theorem r_addL : addD (.list l) (.list m) = (catD l m).map .list := id rfl
@[simp] theorem r_addO : addO (.list l) (.list m) = catD l m := id rfl
@[simp] theorem r_cat (h : l.length + m.length ≤ sizeLine) : catD l m = some (l ++ m) := if_pos h
@[simp] theorem r_sub : subD (.int x) (.int y) = some (.int (x - y)) := id rfl
@[simp] theorem r_mul (h : okMul x y = true) : mulD (.int x) (.int y) = some (.int (x * y)) := if_pos h
@[simp] theorem r_imul (h : okMul x y = true) : imulD (.int x) (.int y) = some (.int (x * y)) := if_pos h
@[simp] theorem r_mulL : mulD (.list l) (.int x) = (repD l x).map .list := id rfl
@[simp] theorem r_mulO : mulO (.list l) (.int x) = repD l x := id rfl
@[simp] theorem r_iadd : iaddD (.int x) (.int y) = some (.int (x + y)) := id rfl
@[simp] theorem r_fdiv (h : okDiv x y = true) : fdivD (.int x) (.int y) = some (.int (x.fdiv y)) := if_pos h
@[simp] theorem r_mod (h : y ≠ 0) : modD (.int x) (.int y) = some (.int (x.fmod y)) := if_pos h
@[simp] theorem r_pow (h : okPow x y = true) : powD (.int x) (.int y) = some (.int (x ^ y.toNat)) := if_pos h
@[simp] theorem r_lt : ltD (.int x) (.int y) = some (.bool (decide (x < y))) := id rfl
@[simp] theorem r_le : leD (.int x) (.int y) = some (.bool (decide (x ≤ y))) := id rfl
@[simp] theorem r_gt : gtD (.int x) (.int y) = some (.bool (decide (y < x))) := id rfl
@[simp] theorem r_ge : geD (.int x) (.int y) = some (.bool (decide (y ≤ x))) := id rfl
@[simp] theorem r_neg : negD (.int x) = some (.int (-x)) := id rfl
@[simp] theorem r_not : notD d = (truD d).map fun k => .bool (!k) := id rfl
@[simp] theorem r_len_l : lenD [.list l] = some (.int l.length) := id rfl
@[simp] theorem r_len_t : lenD [.tuple l] = some (.int l.length) := id rfl
@[simp] theorem r_int_i : intD [.int x] = some (.int x) := id rfl
@[simp] theorem r_int_b : intD [.bool b] = some (.int (if b then 1 else 0)) := id rfl
@[simp] theorem r_abs : absD [.int x] = some (.int (if x < 0 then -x else x)) := id rfl
@[simp] theorem r_gcd : gcdD [.int x, .int y] = some (.int ((Nat.gcd x.natAbs y.natAbs : Nat) : Int)) := id rfl
@[simp] theorem r_all : allD [.list l] = (blsD l).map fun bs => .bool (bs.all id) := id rfl
@[simp] theorem r_any : anyD [.list l] = (blsD l).map fun bs => .bool (bs.any id) := id rfl
@[simp] theorem r_sum : sumD [.list l] = (intsD l).map fun bs => .int bs.sum := id rfl
@[simp] theorem r_bls (bs : List Bool) : blsD (bs.map .bool) = some bs := blsD_map bs
@[simp] theorem r_ints (bs : List Int) : intsD (bs.map .int) = some bs := intsD_map bs
@[simp] theorem r_bls_nil : blsD [] = some [] := id rfl
@[simp] theorem r_bls_cons : blsD (.bool b :: l) = (blsD l).map (b :: ·) := id rfl
@[simp] theorem r_ints_nil : intsD [] = some [] := id rfl
@[simp] theorem r_ints_cons : intsD (.int x :: l) = (intsD l).map (x :: ·) := id rfl
@[simp] theorem r_listO : listO [.list l] = some l := id rfl
@[simp] theorem r_listOt : listO [.tuple l] = some l := id rfl
@[simp] theorem r_tupleD : tupleD [.list l] = some (.tuple l) := id rfl
@[simp] theorem r_tupleDt : tupleD [.tuple l] = some (.tuple l) := id rfl
@[simp] theorem r_sPopX : sPopX j ρ = onOw j ρ fun l => match l.getLast? with
  | some _ => .nx (ρ.set j (.ow l.dropLast))
  | none => .bad := id rfl
@[simp] theorem r_strI (h : x.natAbs.log2 < 1920) : strD [.int x] = some (.str (toString x)) := if_pos h
@[simp] theorem r_strS (u : Str) : strD [.str u] = some (.str u) := id rfl
@[simp] theorem r_eDSel (ks : List Str) (fs : Ev → R (List D)) (fk : Ev → R D) : eDSel ks fs fk ρ = (fs ρ).bind fun ds => (fk ρ).bind fun k => ofO (selD ks ds k) := id rfl
@[simp] theorem r_seq_l : seqD (.list l) = some l := id rfl
@[simp] theorem r_seq_t : seqD (.tuple l) = some l := id rfl
@[simp] theorem r_enu : enuD [.list l] = some (enuL l) := id rfl
@[simp] theorem r_zip : zipD [.list l, .list m] = some (zipL l m) := id rfl
@[simp] theorem r_intOf : intOf (.int x) = some (some x) := id rfl
@[simp] theorem r_slice (o o' : Option Int) : sliceD (.list l) o o' = some (.list (cutL l o o')) := id rfl
@[simp] theorem r_sliceT (o o' : Option Int) : sliceD (.tuple l) o o' = some (.tuple (cutL l o o')) := id rfl
@[simp] theorem r_sliceO (o o' : Option Int) : sliceO (.list l) o o' = some (cutL l o o') := id rfl
@[simp] theorem r_revO : revO (.list l) = some l.reverse := id rfl
@[simp] theorem r_ix_l : ixD (.list l) (.int x) = atI l x := id rfl
@[simp] theorem r_ix_t : ixD (.tuple l) (.int x) = atI l x := id rfl
theorem r_at (n : Nat) : atI l (n : Int) = l[n]? := by
  unfold atI ixN
  by_cases h : n < l.length
  · rw [if_pos (by omega), if_pos (by omega)]; simp
  · rw [if_pos (by omega), if_neg (by omega), List.getElem?_eq_none (by omega)]; rfl
@[simp] theorem r_atI (h0 : 0 ≤ x) : atI l x = l[x.toNat]? := by
  have := r_at (l := l) x.toNat
  rwa [Int.toNat_of_nonneg h0] at this
@[simp] theorem r_at_last : atI (l ++ [d]) (-1 : Int) = some d := by
  unfold atI ixN
  have e : ((-1 : Int) + ((l ++ [d]).length : Nat)).toNat = l.length := by simp; omega
  rw [if_neg (by decide), if_pos (by simp; omega), e]
  simp
theorem range1_ok (h : x < 2 ^ 62) (h0 : -(2 ^ 62) ≤ x) : range1D [.int x] = some (rngL 0 1 x.toNat) := by
  show (if in62 x then _ else _) = _
  rw [if_pos (show in62 x = true from decide_eq_true ⟨h0, h⟩)]
end

/-! ### sizes -/
/-- |i| < 2^k -/
structure Sz (k : Nat) (i : Int) : Prop where
  lt : i.natAbs < 2 ^ k
section
variable {a b k m : Nat} {i j : Int}
theorem Sz.mono (h : Sz a i) (l : a ≤ b) : Sz b i := ⟨Nat.lt_of_lt_of_le h.lt (Nat.pow_le_pow_right (by decide) l)⟩
theorem Sz.neg (h : Sz a i) : Sz a (-i) := ⟨by rw [Int.natAbs_neg]; exact h.lt⟩
theorem Sz.mul (h : Sz a i) (h' : Sz b j) : Sz (a + b) (i * j) := ⟨by
  rw [Int.natAbs_mul, Nat.pow_add]
  exact Nat.mul_lt_mul'' h.lt h'.lt⟩
theorem Sz.add (h : Sz a i) (h' : Sz a j) : Sz (a + 1) (i + j) := ⟨by
  rw [Nat.pow_succ]
  have := Int.natAbs_add_le i j
  have := h.lt
  have := h'.lt
  omega⟩
theorem Sz.sub (h : Sz a i) (h' : Sz a j) : Sz (a + 1) (i - j) := by
  rw [Int.sub_eq_add_neg]; exact h.add h'.neg
theorem Sz.of_le (h : Sz a i) (l : j.natAbs ≤ i.natAbs) : Sz a j := ⟨Nat.lt_of_le_of_lt l h.lt⟩
theorem fdiv_abs (i j : Int) : (i.fdiv j).natAbs ≤ i.natAbs := Int.natAbs_fdiv_le_natAbs i j
theorem Sz.fdiv (h : Sz a i) : Sz a (i.fdiv j) := h.of_le (fdiv_abs i j)
theorem Sz.lit (h : decide (i.natAbs < 2 ^ a) = true) : Sz a i := ⟨(of_decide_eq_true h : i.natAbs < 2 ^ a)⟩
theorem bits_le (h : Sz k i) : Builtin.Int.intBits i ≤ k := by
  unfold Builtin.Int.intBits
  have := h.lt
  split
  · omega
  · rename_i z
    have hz : i.natAbs ≠ 0 := by simpa using z
    have := (Nat.log2_lt hz).mpr this
    omega
theorem sz_bits (h : Builtin.Int.intBits i ≤ k) : Sz k i := by
  unfold Builtin.Int.intBits at h
  split at h
  · rename_i e
    simp at e; subst e
    exact ⟨Nat.two_pow_pos _⟩
  · rename_i e
    exact ⟨(Nat.log2_lt (by simpa using e)).mp (by omega)⟩
theorem okMul_of (h : Sz a i) (h' : Sz b j) (l : a + b ≤ 134217728) : okMul i j = true := by
  have e1 := bits_le h
  have e2 := bits_le h'
  unfold okMul
  exact decide_eq_true (by omega)
theorem okDiv_of (h : Sz 9000 j) (hj : j ≠ 0) : okDiv i j = true := by
  have hz : j.natAbs ≠ 0 := by omega
  have := (Nat.log2_lt hz).mpr h.lt
  unfold okDiv Builtin.divisionGoesByPylong
  have e : ¬ (300 < j.natAbs.log2 / 30 + 1) := by omega
  simp [hj, e]
theorem okDiv_lit (h : decide (j.natAbs < 2 ^ 64) = true) (hj : j ≠ 0) : okDiv i j = true := okDiv_of ((Sz.lit (a := 64) h).mono (by decide)) hj
end

/-- for omega -/
theorem Sz.of {k : Nat} {i : Int} (c : Nat) (h : -(c : Int) < i) (h' : i < c) (hc : decide (c ≤ 2 ^ k) = true) : Sz k i := ⟨Nat.lt_of_lt_of_le (by omega : i.natAbs < c) (of_decide_eq_true hc)⟩
/-! ### draws -/
structure IsDraws (c : Nat) (xs : List Int) : Prop where
  len : xs.length = c
  lo : ∀ x ∈ xs, 0 ≤ x
  hi : ∀ x ∈ xs, x < 1000
def gI (xs : List Int) (i : Nat) : Int := xs.getD i 0
section
variable {c : Nat} {xs : List Int}
theorem IsDraws.get (h : IsDraws c xs) (i : Nat) (hi : i < c) : xs[i]? = some (gI xs i) := by
  unfold gI
  rw [List.getD_eq_getElem?_getD, List.getElem?_eq_getElem (by rw [h.len]; exact hi)]; rfl
theorem IsDraws.sub (h : IsDraws c xs) (a b : Nat) (hb : b ≤ c) (hab : a ≤ b) : IsDraws (b - a) ((xs.drop a).take (b - a)) := ⟨by simp [h.len]; omega, fun x hx => h.lo x (List.mem_of_mem_drop (List.mem_of_mem_take hx)), fun x hx => h.hi x (List.mem_of_mem_drop (List.mem_of_mem_take hx))⟩
end
@[simp] theorem kit_bool_bool : kitB "bool" "bool" = some true := by decide +kernel
@[simp] theorem kit_bool_int : kitB "bool" "int" = some true := by decide +kernel
@[simp] theorem kit_bool_str : kitB "bool" "str" = some false := by decide +kernel
@[simp] theorem kit_bool_list : kitB "bool" "list" = some false := by decide +kernel
@[simp] theorem kit_bool_tuple : kitB "bool" "tuple" = some false := by decide +kernel
@[simp] theorem kit_int_bool : kitB "int" "bool" = some false := by decide +kernel
@[simp] theorem kit_int_int : kitB "int" "int" = some true := by decide +kernel
@[simp] theorem kit_int_str : kitB "int" "str" = some false := by decide +kernel
@[simp] theorem kit_int_list : kitB "int" "list" = some false := by decide +kernel
@[simp] theorem kit_int_tuple : kitB "int" "tuple" = some false := by decide +kernel
@[simp] theorem kit_str_bool : kitB "str" "bool" = some false := by decide +kernel
@[simp] theorem kit_str_int : kitB "str" "int" = some false := by decide +kernel
@[simp] theorem kit_str_str : kitB "str" "str" = some true := by decide +kernel
@[simp] theorem kit_str_list : kitB "str" "list" = some false := by decide +kernel
@[simp] theorem kit_str_tuple : kitB "str" "tuple" = some false := by decide +kernel
@[simp] theorem kit_list_bool : kitB "list" "bool" = some false := by decide +kernel
@[simp] theorem kit_list_int : kitB "list" "int" = some false := by decide +kernel
@[simp] theorem kit_list_str : kitB "list" "str" = some false := by decide +kernel
@[simp] theorem kit_list_list : kitB "list" "list" = some true := by decide +kernel
@[simp] theorem kit_list_tuple : kitB "list" "tuple" = some false := by decide +kernel
@[simp] theorem kit_tuple_bool : kitB "tuple" "bool" = some false := by decide +kernel
@[simp] theorem kit_tuple_int : kitB "tuple" "int" = some false := by decide +kernel
@[simp] theorem kit_tuple_str : kitB "tuple" "str" = some false := by decide +kernel
@[simp] theorem kit_tuple_list : kitB "tuple" "list" = some false := by decide +kernel
@[simp] theorem kit_tuple_tuple : kitB "tuple" "tuple" = some true := by decide +kernel
@[simp] theorem kit_NoneType_bool : kitB "NoneType" "bool" = some false := by decide +kernel
@[simp] theorem kit_NoneType_int : kitB "NoneType" "int" = some false := by decide +kernel
@[simp] theorem kit_NoneType_str : kitB "NoneType" "str" = some false := by decide +kernel
@[simp] theorem kit_NoneType_list : kitB "NoneType" "list" = some false := by decide +kernel
@[simp] theorem kit_NoneType_tuple : kitB "NoneType" "tuple" = some false := by decide +kernel
@[simp] theorem isi_bool (n : String) (b : Bool) : isiD n (.bool b) = (kitB "bool" n).map .bool := rfl
@[simp] theorem isi_int (n : String) (b : Int) : isiD n (.int b) = (kitB "int" n).map .bool := rfl
@[simp] theorem isi_str (n : String) (b : Str) : isiD n (.str b) = (kitB "str" n).map .bool := rfl
@[simp] theorem isi_list (n : String) (b : List D) : isiD n (.list b) = (kitB "list" n).map .bool := rfl
@[simp] theorem isi_tup (n : String) (b : List D) : isiD n (.tuple b) = (kitB "tuple" n).map .bool := rfl
@[simp] theorem isi_none (n : String) : isiD n .none = (kitB "NoneType" n).map .bool := rfl

/-! ### loops -/
theorem forO_gen {F : D → Ev → Out} (J : Out → Prop) : ∀ {l : List D} (I : Nat → Ev → Prop) {ρ : Ev}, I 0 ρ →
    (∀ i d ρ, l[i]? = some d → I i ρ → (∃ ρ', (F d ρ = .nx ρ' ∨ F d ρ = .ct ρ') ∧ I (i + 1) ρ') ∨ (∃ ρ', F d ρ = .bk ρ' ∧ J (.nx ρ')) ∨ (∃ r, F d ρ = .rt r ∧ J (.rt r)) ∨ (∃ r ρ', F d ρ = .rtB r ρ' ∧ J (.rtB r ρ')) ∨ (∃ x ρ', F d ρ = .ex x ρ' ∧ J (.ex x ρ'))) →
    (∀ ρ, I l.length ρ → J (.nx ρ)) → J (forO F l ρ)
  | [], I, ρ, h0, _, e => e ρ h0
  | d :: l, I, ρ, h0, st, e => by
    have ih : ∀ ρ', I 1 ρ' → J (forO F l ρ') := fun ρ' h => forO_gen J (fun i => I (i + 1)) h (fun i d ρ hd hi => st (i + 1) d ρ (by simpa using hd) hi) (fun ρ h => e ρ (by simpa using h))
    unfold forO
    rcases st 0 d ρ (by simp) h0 with ⟨ρ', h | h, hi⟩ | ⟨ρ', h, hj⟩ | ⟨r, h, hj⟩ | ⟨r, ρ', h, hj⟩ | ⟨x, ρ', h, hj⟩
    · rw [h]; exact ih ρ' hi
    · rw [h]; exact ih ρ' hi
    · rw [h]; exact hj
    · rw [h]; exact hj
    · rw [h]; exact hj
    · rw [h]; exact hj
theorem forO_inv {F : D → Ev → Out} {l : List D} (I : Nat → Ev → Prop) {ρ : Ev} (h0 : I 0 ρ) (st : ∀ i d ρ, l[i]? = some d → I i ρ → ∃ ρ', (F d ρ = .nx ρ' ∨ F d ρ = .ct ρ') ∧ I (i + 1) ρ') : ∃ ρ', forO F l ρ = .nx ρ' ∧ I l.length ρ' :=
  forO_gen (fun o => ∃ ρ', o = .nx ρ' ∧ I l.length ρ') I h0 (fun i d ρ hd hi => .inl (st i d ρ hd hi)) fun ρ h => ⟨ρ, rfl, h⟩
theorem rng0_get {n i : Nat} {d : D} (h : (rngL 0 1 n)[i]? = some d) : i < n ∧ d = .int (i : Nat) := by
  obtain ⟨h1, rfl⟩ := rngL_get h
  exact ⟨h1, by simp⟩
theorem compR_map {step : D → R (Option D)} (φ : D → D) : ∀ {l : List D}, (∀ d ∈ l, step d = .ok (some (φ d))) → compR step l = .ok (l.map φ)
  | [], _ => rfl
  | d :: l, h => by
    unfold compR
    rw [h d (by simp), compR_map φ (l := l) fun e he => h e (by simp [he])]
    rfl
theorem compR_map' {α : Type} {step : D → R (Option D)} {F : α → D} {φ : α → D} : ∀ {l : List α}, (∀ a ∈ l, step (F a) = .ok (some (φ a))) → compR step (l.map F) = .ok (l.map φ)
  | [], _ => rfl
  | a :: l, h => by
    rw [List.map_cons]
    unfold compR
    rw [h a (by simp), compR_map' (l := l) fun e he => h e (by simp [he])]
    rfl
/-! ### data without dicts, of a small depth -/
mutual
def okD : Nat → D → Bool
  | _, .none => true
  | _, .bool _ => true
  | _, .int _ => true
  | _, .str x => PyData.strOk x
  | 0, _ => false
  | n + 1, .list l => okL n l
  | n + 1, .tuple l => okL n l
  | _, .dict _ => false
def okL : Nat → List D → Bool
  | _, [] => true
  | n, d :: l => okD n d && okL n l
end
mutual
theorem okD_spec : ∀ (n : Nat) (d : D), okD n d = true → d.canLay0 = true ∧ d.depth ≤ n
  | _, .none, _ => ⟨rfl, Nat.zero_le _⟩
  | _, .bool _, _ => ⟨rfl, Nat.zero_le _⟩
  | _, .int _, _ => ⟨rfl, Nat.zero_le _⟩
  | 0, .str x, h => ⟨by simpa [okD, PyData.canLay0] using h, Nat.zero_le _⟩
  | n + 1, .str x, h => ⟨by simpa [okD, PyData.canLay0] using h, Nat.zero_le _⟩
  | 0, .list _, h => by simp [okD] at h
  | 0, .tuple _, h => by simp [okD] at h
  | 0, .dict _, h => by simp [okD] at h
  | n + 1, .dict _, h => by simp [okD] at h
  | n + 1, .list l, h => by
    obtain ⟨h1, h2⟩ := okL_spec n l (by simpa [okD] using h)
    exact ⟨by simpa [PyData.canLay0] using h1, by simpa [PyData.depth] using h2⟩
  | n + 1, .tuple l, h => by
    obtain ⟨h1, h2⟩ := okL_spec n l (by simpa [okD] using h)
    exact ⟨by simpa [PyData.canLay0] using h1, by simpa [PyData.depth] using h2⟩
theorem okL_spec : ∀ (n : Nat) (l : List D), okL n l = true → PyData.canLayAll0 l = true ∧ PyData.depthAll l ≤ n
  | _, [], _ => ⟨rfl, Nat.zero_le _⟩
  | n, d :: l, h => by
    have h' : okD n d = true ∧ okL n l = true := by simpa [okL] using h
    obtain ⟨h1, h2⟩ := okD_spec n d h'.1
    obtain ⟨h3, h4⟩ := okL_spec n l h'.2
    exact ⟨by simp [PyData.canLayAll0, h1, h3], by simp [PyData.depthAll]; omega⟩
end
theorem okL_iff : ∀ {n : Nat} {l : List D}, okL n l = true ↔ ∀ d ∈ l, okD n d = true
  | n, [] => by simp [okL]
  | n, d :: l => by simp [okL, okL_iff (l := l)]
@[simp] theorem okD_int (n : Nat) (i : Int) : okD n (.int i) = true := by cases n <;> rfl
@[simp] theorem okD_bool (n : Nat) (i : Bool) : okD n (.bool i) = true := by cases n <;> rfl
@[simp] theorem okD_none (n : Nat) : okD n .none = true := by cases n <;> rfl
@[simp] theorem okD_list (n : Nat) (l : List D) : okD (n + 1) (.list l) = okL n l := rfl
@[simp] theorem okD_tuple (n : Nat) (l : List D) : okD (n + 1) (.tuple l) = okL n l := rfl
@[simp] theorem okL_nil (n : Nat) : okL n [] = true := rfl
@[simp] theorem okL_cons (n : Nat) (d : D) (l : List D) : okL n (d :: l) = (okD n d && okL n l) := rfl
@[simp] theorem okL_ints (n : Nat) (l : List Int) : okL n (l.map .int) = true := okL_iff.mpr fun d h => by
  obtain ⟨i, _, rfl⟩ := List.mem_map.mp h
  exact okD_int n i
theorem shaped_of {d : D} (h : okD 64 d = true) : SeqAt.shaped d = true := by
  obtain ⟨h1, h2⟩ := okD_spec _ _ h
  unfold SeqAt.shaped
  simp [h1, h2]
theorem r_eqD {a b : D} (h : okD 64 a = true) (h' : okD 64 b = true) : eqD a b = some (.bool (PyData.eqv a b)) := by
  unfold eqD; rw [shaped_of h, shaped_of h']; rfl
@[simp] theorem r_eq_s (x y : Str) : eqD (.str x) (.str y) = some (.bool (decide (x = y))) := by
  unfold eqD
  split
  · show some (PyData.bool (x == y)) = _
    by_cases h : x = y
    · subst h; simp
    · simp [h]
  · rfl
@[simp] theorem r_ne_s (x y : Str) : neD (.str x) (.str y) = some (.bool (!decide (x = y))) := by
  unfold neD
  split
  · show some (PyData.bool (!(x == y))) = _
    by_cases h : x = y
    · subst h; simp
    · simp [h]
  · rfl
theorem r_neD {a b : D} (h : okD 64 a = true) (h' : okD 64 b = true) : neD a b = some (.bool (!PyData.eqv a b)) := by
  unfold neD; rw [shaped_of h, shaped_of h']; rfl
theorem eqv_self {d : D} (h : okD 64 d = true) : PyData.eqv d d = true := SeqAt.eqv_refl d (okD_spec _ _ h).1
theorem r_eq_self {d : D} (h : okD 64 d = true) : eqD d d = some (.bool true) := by rw [r_eqD h h, eqv_self h]
@[simp] theorem r_eq_i (i j : Int) : eqD (.int i) (.int j) = some (.bool (decide (i = j))) := by rw [r_eqD (by simp) (by simp)]; rfl
@[simp] theorem r_ne_i (i j : Int) : neD (.int i) (.int j) = some (.bool (!decide (i = j))) := by rw [r_neD (by simp) (by simp)]; rfl
/-! ### repr: sizes -/
structure Sw (w : Nat) (d : D) : Prop where
  sh : d.showable = true
  le : d.shown.length ≤ w
theorem Sw.mono {w w' : Nat} {d : D} (h : Sw w d) (e : w ≤ w') : Sw w' d := ⟨h.sh, Nat.le_trans h.le e⟩
end VL

set_option Elab.async false
set_option linter.all false
set_option maxRecDepth 100000
set_option autoImplicit false
namespace W
open PySem PySem.Spec PyProof.Rows L2 VL
noncomputable def b__law_draws_1 : Ev → Out := sSeq (sSet 6 (cst (.int 0))) (sSeq (sIf (e1 bOf (e2 gtD (e1 lenD (eCons (eOwn 2) (cst []))) (cst (.int 0)))) (sSeq (sSet 7 (e2 modD (e1 intD (eCons (eOwn 5) (cst []))) (e1 lenD (eCons (eOwn 2) (cst []))))) (sIf (e1 bOf (e2 geD (e2 ixD (eOwn 2) (eOwn 7)) (e2 powD (cst (.int 10)) (cst (.int 18))))) (sSeq (sSet 6 (e2 modD (e1 intD (eCons (e2 ixD (eOwn 2) (eOwn 7)) (cst []))) (cst (.int 1000)))) (sStore 2 (eVar 7) (e2 fdivD (e2 ixD (eOwn 2) (eOwn 7)) (cst (.int 1000))))) (sSeq (sSet 8 (e2 modD (e1 intD (eCons (e2 addD (e2 addD (e2 mulD (e2 ixD (eOwn 2) (eOwn 7)) (cst (.int 48271))) (e2 mulD (eOwn 5) (cst (.int 69621)))) (cst (.int 11))) (cst []))) (cst (.int 2147483647)))) (sSeq (sSet 8 (e2 modD (e1 intD (eCons (e2 addD (e2 mulD (eOwn 8) (cst (.int 16807))) (eOwn 7)) (cst []))) (cst (.int 2147483629)))) (sSet 6 (e2 modD (e1 intD (eCons (e2 fdivD (eOwn 8) (cst (.int 7))) (cst []))) (cst (.int 1000)))))))) (sNil)) (sApp 4 (eVar 6)))
noncomputable def c__law_draws : Ev → Out := sSeq (sSetO 2 (eComp [3] (e1 seqD (eVar 0)) (gSet 3) (cst true) (eVar 3))) (sSeq (sSetO 4 (e1 lim (cst []))) (sSeq (sFor (e1 range1D (eCons (eOwn 1) (cst []))) (gSet 5) b__law_draws_1) (sRetV 4)))
noncomputable def m__law_draws : List D → R SD := runD 2 9 c__law_draws
/-! ### draws -/
theorem slB {n : Nat} (h : n ≤ 100000) : n ≤ sizeLine := Nat.le_trans h (by decide)
theorem idD_ok (l : List D) (ρ : Ev) (k : Nat) (hk : k < ρ.length) : compR (compS [k] (gSet k) (cst true) (eVar k) ρ) l = .ok l := by
  have := compR_map (step := compS [k] (gSet k) (cst true) (eVar k) ρ) (fun d => d) (l := l) fun d _ => by
    simp [compS, hk]
  rw [this, List.map_id']
theorem fmod_rng {a b : Int} (h : 0 < b) : 0 ≤ a.fmod b ∧ a.fmod b < b := ⟨Int.fmod_nonneg_of_pos a h, Int.fmod_lt_of_pos a h⟩
theorem draws_app {c : Nat} {xs : List Int} (hx : IsDraws c xs) (x : Int) (h1 : 0 ≤ x) (h2 : x < 1000) : IsDraws (c + 1) (xs ++ [x]) := ⟨by simp [hx.len], fun y hy => by
  rcases List.mem_append.mp hy with h | h
  · exact hx.lo y h
  · simp at h; subst h; exact h1, fun y hy => by
  rcases List.mem_append.mp hy with h | h
  · exact hx.hi y h
  · simp at h; subst h; exact h2⟩
theorem draws_step {a b : SD} {rs xs : List Int} {j3 j5 j6 j7 j8 : SD} {i : Nat} (hi : i < 100000) (hrl : rs.length ≤ 63) (hrz : ∀ z ∈ rs, Sz 1048577 z) (hx : IsDraws i xs) :
    ∃ (rs' : List Int) (x : Int) (k5 k6 k7 k8 : SD), gTo (gSet 5) b__law_draws_1 (.int (i : Nat)) [a, b, .ow (rs.map .int), j3, .ow (xs.map .int), j5, j6, j7, j8] = .nx [a, b, .ow (rs'.map .int), j3, .ow ((xs ++ [x]).map .int), k5, k6, k7, k8] ∧ rs'.length = rs.length ∧ (∀ z ∈ rs', Sz 1048577 z) ∧ 0 ≤ x ∧ x < 1000 := by
  have hxl : xs.length < sizeLine := by rw [hx.len]; exact Nat.lt_of_lt_of_le hi (by decide)
  by_cases he : 0 < rs.length
  · have hne : (rs.length : Int) ≠ 0 := by omega
    obtain ⟨a1, a2⟩ := fmod_rng (a := ((i : Nat) : Int)) (b := rs.length) (by omega)
    generalize hk : (((i : Nat) : Int).fmod rs.length) = k at a1 a2
    have hm : modD (.int (i : Nat)) (.int rs.length) = some (.int k) := by rw [r_mod hne, hk]
    obtain ⟨v, hv⟩ : ∃ v, rs[k.toNat]? = some v := ⟨_, List.getElem?_eq_getElem (by omega)⟩
    have hvz : Sz 1048577 v := hrz v (List.mem_of_getElem? hv)
    by_cases hbig : 1000000000000000000 ≤ v
    · have hd : okDiv v 1000 = true := okDiv_lit (by decide) (by decide)
      have hix : ixN rs.length k = some k.toNat := by unfold ixN; rw [if_pos a1, if_pos a2]
      refine ⟨rs.set k.toNat (v.fdiv 1000), v.fmod 1000, .sh (.int (i : Nat)), .sh (.int (v.fmod 1000)), .sh (.int k), j8, ?_, by simp, fun z hz => ?_, (fmod_rng (by decide)).1, (fmod_rng (by decide)).2⟩
      · simp [b__law_draws_1, he, hm, a1, hv, hbig, hd, hix, hxl, okPow]
      · rcases List.mem_or_eq_of_mem_set hz with h | h
        · exact hrz z h
        · subst h; exact hvz.fdiv
    · have h1 : okMul v 48271 = true := okMul_of hvz (b := 100) (.lit (by decide)) (by decide)
      have hi2 : Sz 100 (i : Nat) := (Sz.lit (i := 100000) (a := 100) (by decide)).of_le (by omega)
      have h2 : okMul (i : Nat) 69621 = true := okMul_of hi2 (b := 100) (.lit (by decide)) (by decide)
      have h3 : okMul ((v * 48271 + (i : Nat) * 69621 + 11).fmod 2147483647) 16807 = true := by
        obtain ⟨b1, b2⟩ := fmod_rng (a := v * 48271 + (i : Nat) * 69621 + 11) (b := 2147483647) (by decide)
        exact okMul_of (a := 100) (b := 100) ((Sz.lit (i := 2147483647) (a := 100) (by decide)).of_le (by omega)) (.lit (by decide)) (by decide)
      have h4 : ∀ x : Int, okDiv x 7 = true := fun x => okDiv_lit (by decide) (by decide)
      exact ⟨rs, _, _, _, _, _, by simp [b__law_draws_1, he, hm, a1, hv, hbig, h1, h2, h3, h4, hxl, okPow]; exact ⟨rfl, rfl, rfl, rfl, rfl⟩, rfl, hrz, (fmod_rng (by decide)).1, (fmod_rng (by decide)).2⟩
  · have h0 : rs = [] := by cases rs with | nil => rfl | cons _ _ => simp at he
    subst h0
    exact ⟨[], 0, _, _, _, _, by simp [b__law_draws_1, hxl]; exact ⟨rfl, rfl, rfl, rfl⟩, rfl, hrz, by decide, by decide⟩
theorem draws_ok (ns : List Int) (hn : ns.length ≤ 63) (hb : ∀ z ∈ ns, Builtin.Int.intBits z ≤ 1048576) (z : Int) (c : Nat) (hz : z = c) (hc : c ≤ 100000) : ∃ xs : List Int, m__law_draws [.list (ns.map .int), .int z] = .ok (.ow (xs.map .int)) ∧ IsDraws c xs := by
  subst hz
  obtain ⟨ρ', e, hρ⟩ := forO_inv (F := gTo (gSet 5) b__law_draws_1) (l := rngL 0 1 c)
    (fun i ρ => ∃ rs xs : List Int, ∃ j3 j5 j6 j7 j8 : SD, ρ = [.sh (.list (ns.map .int)), .sh (.int c), .ow (rs.map .int), j3, .ow (xs.map .int), j5, j6, j7, j8] ∧ rs.length ≤ 63 ∧ (∀ z ∈ rs, Sz 1048577 z) ∧ IsDraws i xs)
    (ρ := [.sh (.list (ns.map .int)), .sh (.int c), .ow (ns.map .int), .no, .ow [], .no, .no, .no, .no])
    ⟨ns, [], _, _, _, _, _, rfl, hn, fun z hz => sz_bits (Nat.le_trans (hb z hz) (by decide)), ⟨rfl, by simp, by simp⟩⟩
    (fun i d ρ hd hi => by
      obtain ⟨hic, rfl⟩ := rng0_get hd
      obtain ⟨rs, xs, j3, j5, j6, j7, j8, rfl, hrl, hrz, hx⟩ := hi
      obtain ⟨rs', x, k5, k6, k7, k8, e, h1, h2, h3, h4⟩ := draws_step (a := .sh (.list (ns.map .int))) (b := .sh (.int c)) (j3 := j3) (j5 := j5) (j6 := j6) (j7 := j7) (j8 := j8) (Nat.lt_of_lt_of_le hic hc) hrl hrz hx
      exact ⟨_, .inl e, rs', xs ++ [x], _, _, _, _, _, rfl, by omega, h2, draws_app hx x h3 h4⟩)
  rw [rngL_length] at hρ
  obtain ⟨rs, xs, j3, j5, j6, j7, j8, rfl, _, _, hx⟩ := hρ
  refine ⟨xs, ?_, hx⟩
  simp [m__law_draws, c__law_draws, slB (Nat.le_trans hn (by decide)), range1_ok (x := (c : Nat)) (by omega) (by omega), idD_ok, e]
/-! ### gcd -/
/-! ### numbers -/
def qD (q : Int × Int) : D := .tuple [.int q.1, .int q.2]
def mkQ (n d : Int) : Int × Int := if d < 0 then ((-n).fdiv (Nat.gcd n.natAbs d.natAbs : Nat), (-d).fdiv (Nat.gcd n.natAbs d.natAbs : Nat)) else (n.fdiv (Nat.gcd n.natAbs d.natAbs : Nat), d.fdiv (Nat.gcd n.natAbs d.natAbs : Nat))
structure Nm (q : Int × Int) : Prop where
  pos : 1 ≤ q.2
  low : Nat.gcd q.1.natAbs q.2.natAbs = 1
theorem fdiv_of_dvd {a g : Int} (hg : g ∣ a) (h0 : g ≠ 0) : a.fdiv g * g = a := by
  obtain ⟨k, rfl⟩ := hg
  rw [Int.mul_fdiv_cancel_left k h0, Int.mul_comm]
theorem mkQ_key (x y : Int) (hp : 0 < y) : Nm (x.fdiv (Nat.gcd x.natAbs y.natAbs : Nat), y.fdiv (Nat.gcd x.natAbs y.natAbs : Nat)) ∧ x.fdiv (Nat.gcd x.natAbs y.natAbs : Nat) * y = x * y.fdiv (Nat.gcd x.natAbs y.natAbs : Nat) := by
  have hgp := Nat.gcd_pos_of_pos_right x.natAbs (show 0 < y.natAbs by omega)
  have hg0 : (Nat.gcd x.natAbs y.natAbs : Int) ≠ 0 := by omega
  have d1 : (Nat.gcd x.natAbs y.natAbs : Int) ∣ x := Int.ofNat_dvd_left.mpr (Nat.gcd_dvd_left _ _)
  have d2 : (Nat.gcd x.natAbs y.natAbs : Int) ∣ y := Int.ofNat_dvd_left.mpr (Nat.gcd_dvd_right _ _)
  have e1 := fdiv_of_dvd d1 hg0
  have e2 := fdiv_of_dvd d2 hg0
  generalize hu : x.fdiv (Nat.gcd x.natAbs y.natAbs : Nat) = u at *
  generalize hv : y.fdiv (Nat.gcd x.natAbs y.natAbs : Nat) = v at *
  generalize hg : Nat.gcd x.natAbs y.natAbs = g at *
  have hvp : 0 < v := by
    rcases Int.lt_or_le 0 v with h | h
    · exact h
    · have : v * g ≤ 0 := Int.mul_nonpos_of_nonpos_of_nonneg h (by omega)
      omega
  refine ⟨⟨hvp, ?_⟩, ?_⟩
  · have e3 : 1 * g = Nat.gcd u.natAbs v.natAbs * g := by
      rw [← Nat.gcd_mul_right]
      have a1 : u.natAbs * g = x.natAbs := by rw [← e1, Int.natAbs_mul]; rfl
      have a2 : v.natAbs * g = y.natAbs := by rw [← e2, Int.natAbs_mul]; rfl
      rw [a1, a2, hg, Nat.one_mul]
    exact (Nat.eq_of_mul_eq_mul_right hgp e3).symm
  · rw [← e1, ← e2]; grind
theorem mkQ_spec (n d : Int) (hd : d ≠ 0) : Nm (mkQ n d) ∧ (mkQ n d).1 * d = n * (mkQ n d).2 := by
  unfold mkQ
  by_cases h : d < 0
  · rw [if_pos h]
    obtain ⟨k1, k2⟩ := mkQ_key (-n) (-d) (by omega)
    rw [Int.natAbs_neg, Int.natAbs_neg] at k1 k2
    exact ⟨k1, by dsimp only at *; grind⟩
  · rw [if_neg h]
    exact mkQ_key n d (by omega)
theorem mkQ_nm {n d : Int} (hd : d ≠ 0) : Nm (mkQ n d) := (mkQ_spec n d hd).1
theorem mkQ_sz1 {n d : Int} {k : Nat} (h : Sz k n) : Sz k (mkQ n d).1 := by
  unfold mkQ; split
  · exact (h.neg).fdiv
  · exact h.fdiv
theorem mkQ_sz2 {n d : Int} {k : Nat} (h : Sz k d) : Sz k (mkQ n d).2 := by
  unfold mkQ; split
  · exact (h.neg).fdiv
  · exact h.fdiv
theorem s2 : (2 : Nat) ≤ sizeLine := by decide
@[simp] theorem ix_q0 (q : Int × Int) : ixD (qD q) (.int 0) = some (.int q.1) := by simp [qD]
@[simp] theorem ix_q1 (q : Int × Int) : ixD (qD q) (.int 1) = some (.int q.2) := by simp [qD]
@[simp] theorem okD_q (n : Nat) (q : Int × Int) : okD (n + 1) (qD q) = true := by simp [qD]
/-- a number within 2^k -/
structure Nk (k : Nat) (q : Int × Int) : Prop where
  nm : Nm q
  s1 : Sz k q.1
  s2 : Sz k q.2
theorem Nk.mono {k l : Nat} {q : Int × Int} (h : Nk k q) (e : k ≤ l) : Nk l q := ⟨h.nm, h.s1.mono e, h.s2.mono e⟩
theorem Nk.ne {k : Nat} {q : Int × Int} (h : Nk k q) : q.2 ≠ 0 := by have := h.nm.pos; omega
theorem mkQ_nk {n d : Int} {k : Nat} (hd : d ≠ 0) (h1 : Sz k n) (h2 : Sz k d) : Nk k (mkQ n d) := ⟨mkQ_nm hd, mkQ_sz1 h1, mkQ_sz2 h2⟩
def addQ (p q : Int × Int) : Int × Int := mkQ (p.1 * q.2 + q.1 * p.2) (p.2 * q.2)
def mulQ (p q : Int × Int) : Int × Int := mkQ (p.1 * q.1) (p.2 * q.2)
def subQ (p q : Int × Int) : Int × Int := mkQ (p.1 * q.2 - q.1 * p.2) (p.2 * q.2)
def negQ (p : Int × Int) : Int × Int := (-p.1, p.2)
theorem Nm.neg {p : Int × Int} (h : Nm p) : Nm (negQ p) := ⟨h.pos, by show Nat.gcd (-p.1).natAbs _ = 1; rw [Int.natAbs_neg]; exact h.low⟩
section
variable {p q : Int × Int} {k l : Nat}
theorem Nk.neg (h : Nk k p) : Nk k (negQ p) := ⟨h.nm.neg, h.s1.neg, h.s2⟩
theorem Nk.mulne (hp : Nk k p) (hq : Nk l q) : p.2 * q.2 ≠ 0 := Int.mul_ne_zero hp.ne hq.ne
theorem Nk.add (hp : Nk k p) (hq : Nk l q) : Nk (k + l + 1) (addQ p q) := mkQ_nk (hp.mulne hq) ((hp.s1.mul hq.s2).add (Nat.add_comm l k ▸ hq.s1.mul hp.s2)) ((hp.s2.mul hq.s2).mono (by omega))
theorem Nk.sub (hp : Nk k p) (hq : Nk l q) : Nk (k + l + 1) (subQ p q) := mkQ_nk (hp.mulne hq) ((hp.s1.mul hq.s2).sub (Nat.add_comm l k ▸ hq.s1.mul hp.s2)) ((hp.s2.mul hq.s2).mono (by omega))
theorem Nk.mul (hp : Nk k p) (hq : Nk l q) : Nk (k + l) (mulQ p q) := mkQ_nk (hp.mulne hq) (hp.s1.mul hq.s1) (hp.s2.mul hq.s2)
end

/-! ### looks at numbers -/
end W

set_option Elab.async false
set_option linter.all false
set_option maxRecDepth 100000
set_option maxHeartbeats 1000000
set_option autoImplicit false
namespace VL
open PySem PySem.Spec PySem.Calls PyProof.Rows L2

/-! ### an own exception over ValueError whose __init__ says super().__init__(text) -/
abbrev supBody (txt : Str) (p0 p1 p2 p3 p4 pos : Pos) (k0 : Nat) : List Stmt := [.Expr (.Call (.Attribute (.Call (.Name "super" p0) [] [] p1) "__init__" p2) [.Constant (.str txt) k0 p3] [] p4) pos]
section
open PySem.W
variable {prog : Program} {w : World} {M : Model} {A : Around} {E : Value → Shared → Prop} {h : Heap} {g : Array GenState} {d : Drawn} {t : Nat} {os : OsState}
/-- the bound __init__, called -/
theorem call_mw {K : Frag} {C u x t0 : Addr} {rest : List Value} {Q : Value → Shared → Prop} (X : K.In h) (q : excInitIn K C PySem.HandSPX.veTail "ValueError.__new__" = true)
    (hu : h.get? u = some (kxs_mw "ValueError.__init__" x)) (he : h.get? x = some (PySem.HandSPX.excO C t0)) (hz : rest.length ≤ sizeLine)
    (hq : ∀ h' t1, (∀ b o, b ≠ x → h.get? b = some o → h'.get? b = some o) → h'.get? x = some (PySem.HandSPX.excO C t1) → Q .none ⟨h', g, d, t, os⟩) :
    wpAny (model prog w) A (call (.ref u) rest) Q E ⟨h, g, d, t, os⟩ := by
  obtain ⟨nm, N', qn, bs, bm, hdct, sn, sub, ab, col, dd, k0, k1, k2, k3, k5, hC, hT⟩ := excInit_of X q
  refine wpAny_call (codeAny_of_tree ?_)
  show wpAny _ A.in1 (callAny (.ref u) ⟨rest, []⟩) _ _ _
  simp only [callAny]
  refine wpAny_bind (wpAny_load hu ?_)
  simp only [kxs_mw, show (Value.type "method-wrapper" == Value.type "method" || Value.type "method-wrapper" == Value.type "builtin_function_or_method" || Value.type "method-wrapper" == Value.type "method-wrapper") = true by decide, if_true]
  refine KFB.if_so (by decide) ?_
  refine wpAny_bind (check_bound_init F.excBase_ValueError.toExcCallFacts hC he rfl ?_)
  refine wpAny_bind (wpAny_pure (wpAny_pure ?_))
  refine ⟨plainId_quiet F.excBase_ValueError.init.plain _, codeAny_builtin F.excBase_ValueError.initEntry ?_⟩
  rw [Around.under_plainId F.excBase_ValueError.init.plain _]
  wp_walk
  refine hq _ h.objs.size (fun b o hb ho => ?_) ?_
  · rw [Heap.get?_update_other _ _ (Ne.symm hb)]
    exact Heap.get?_push_of_some _ ho
  · rw [Heap.get?_update_self _ (Heap.get?_push_of_some _ he) rfl]
    rfl
theorem boot_super : bootBuiltins "super" = some (.type "super") := by decide +kernel
/-- how the call reads, its places known -/
abbrev SupCall (txt : Str) (p0 p1 p2 p3 p4 : Pos) (k0 : Nat) : Prop := ∀ env : Env, ∃ pl : Sem Bool, eval (.Call (.Attribute (.Call (.Name "super" p0) [] [] p1) "__init__" p2) [.Constant (.str txt) k0 p3] [] p4) env = (do
      let ov ← attributeBase (.Call (.Name "super" p0) [] [] p1) "__init__" env (eval (.Call (.Name "super" p0) [] [] p1) env)
      standAt p2.atName
      let (f, first) ← holding [ov] (getMethod ov "__init__" pl)
      callWith p4 f first (backTo p4 (starEach [.Constant (.str txt) k0 p3] env)) [])
end
/-- what the written part says of such a class -/
structure SupC (P : Program) (K : Fg) (C fI cc cda : Addr) (name qual : Str) (params : Arguments) (scope : Scope) (txt : Str) (p0 p1 p2 p3 p4 pos : Pos) (k0 : Nat) : Prop where
  ini : PySem.W.excInitIn K C PySem.HandSPX.veTail "ValueError.__new__" = true
  fun_ : ∃ (oc kV doc pm ct : Value) (od an : Option Addr) (osl : Array (Option Value)), K.lookup fI = some ⟨oc, od, .func (PySem.W.ksFn name qual params (supBody txt p0 p1 p2 p3 p4 pos k0) scope .none kV doc pm an (.ref cda) ct cc), osl⟩
  code : PySem.W.codeIn K (.ref cda) qual = true
  par : (params.posonlyargs ++ params.args).head?.map (·.arg) = some "self"
  binds : ∀ (kV doc pm ct : Value) (an : Option Addr) (e : Addr) (s : Shared), BindsTo s (PySem.W.ksFn name qual params (supBody txt p0 p1 p2 p3 p4 pos k0) scope .none kV doc pm an (.ref cda) ct cc) ⟨[.ref e], []⟩ [("self", .ref e)]
  file : ∃ (ccl : Value) (cdd : Option Addr) (vs : Array Value) (ccs : Array (Option Value)) (file : Str) (tf : Tok), K.lookup cda = some ⟨ccl, cdd, .fields vs, ccs⟩ ∧ vs[2]? = some (.str file tf) ∧ ((P.main.file : Str) == file) = true
  cell : ∃ (cl : Value) (cld : Option Addr) (csl : Array (Option Value)), K.lookup cc = some ⟨cl, cld, .cell (some (.ref C)), csl⟩
  cls : ∃ cd, PySem.W.clsIn K C = some cd
  sub : PySem.W.mroIn K C (.ref C) = some true
  sup : PySem.W.ks_superIn K C C "__init__" = some (some (.builtin "ValueError.__init__"))
  subB : PySem.W.subIn K (.ref C) (.type "ValueError") = some true
  exC : PySem.W.subIn K (.ref C) (.type "BaseException") = some true
  tyC : PySem.W.typeIn K (.ref C) = some (.type "type")
  iC : PySem.W.findIn K (.ref C) "__init__" = some (some (.ref fI))
  tI : PySem.W.typeIn K (.ref fI) = some (.type "function")
  kC : PySem.W.keepIn K (.ref C) = true
  op : PySem.W.nsIn K cStatics "thirdparty.any" = some none
  ks : scope.names.lookup ("super" : Str) = some .globalImplicit
  kc : scope.names.lookup ("__class__" : Str) = some .free
  ka : scope.names.lookup ("self" : Str) = some .local
  kind : scope.kind = .function
  co : scope.isCoroutine = false
  gen : scope.isGenerator = false
  nc : ∀ x ∈ scope.names, x.2 ≠ .cell
  top : (P.main.scope.names.lookup ("super" : Str)).isSome = false
  ev : SupCall txt p0 p1 p2 p3 p4 k0
section
variable {X : Cx} {x : Str} {C fI cc cda : Addr} {name qual : Str} {params : Arguments} {scope : Scope} {txt : Str} {p0 p1 p2 p3 p4 pos p cpos : Pos} {k0 : Nat}
end
end VL

set_option Elab.async false
set_option linter.all false
set_option maxRecDepth 100000
set_option maxHeartbeats 1000000
set_option autoImplicit false
namespace VL
open PySem PySem.Spec PyProof.Rows L2

/-! ### raise C() -/
def sRaise (n : Str) : Ev → Out := fun ρ => .ex ⟨n, []⟩ ρ
/-! ### try: .. except K as e: .. -/
/-- the slot of the caught error is forgotten at the suite's end -/
def offO (i : Nat) : Out → Out
  | .nx ρ => .nx (ρ.set i .no)
  | .bk ρ => .bk (ρ.set i .no)
  | .ct ρ => .ct (ρ.set i .no)
  | .rt r => .rt r
  | _ => .bad
open Classical in
/-- the suite's end, which must not depend on where the error lies -/
noncomputable def anyA (g : Addr → Out) : Out := if (∀ a, g a = g 0) then g 0 else .bad
theorem anyA_const (o : Out) : anyA (fun _ => o) = o := if_pos fun _ => rfl
/-- what an except suite knows -/
structure InnH (X : Cx) (W : WX) (k : Nat) : Prop where
  hr : L2H.RoomH k X.A
  gd : X.A.guards = some []
  tk : L2N.Takes X W
  hp : PassesOwn (model X.prog X.w) X.A X.env X.xe
theorem takesN {X : Cx} : L2N.Takes X WF := fun _ _ ⟨_, _, _, _, _, _, _, _, _, _, _, _, _, _, _, _, w⟩ => w.elim
theorem Inn.suite {X : Cx} {W : WX} {k : Nat} (I : Inn X W k) (a : Addr) (oe : Obj) (pn : List (Addr × Obj)) : InnH (X.suite a ((a, oe) :: pn)) WF k := ⟨⟨I.hr.dp, I.hr.un⟩, I.gd, takesN, .never⟩
/-! ### isinstance(e, C) in the suite -/
def isEx (n : Str) (a : Addr) : D → Bool
  | .dict [(.int 2, .str m), (.int 3, .int c)] => decide (m = n) && decide (c = (a : Int))
  | _ => false
theorem isEx_self (n : Str) (a : Addr) : isEx n a (exD n a) = true := by simp [isEx, exD]
def eIsE (n : Str) (a : Addr) (b : Bool) (f : Ev → R D) : Ev → R D := fun ρ => (f ρ).bind fun d => if isEx n a d = true then .ok (.bool b) else .bad
/-- the classes of an error of that name -/
def isaX (t : List (Str × List Str)) (n c : Str) : Bool := t.any fun p => decide (p.1 = n) && decide (c ∈ p.2)
/-- what the written part says of an own class that is raised -/
structure ExK (P : Program) (K : Fg) (C : Addr) : Prop where
  sup : ∃ (fI cc cda : Addr) (name qual : Str) (params : Arguments) (scope : Scope) (txt : Str) (p0 p1 p2 p3 p4 pos : Pos) (k0 : Nat), SupC P K C fI cc cda name qual params scope txt p0 p1 p2 p3 p4 pos k0
  exc : ExcC K C
end VL

set_option Elab.async false
set_option linter.all false
set_option maxRecDepth 100000
set_option maxHeartbeats 1000000
set_option autoImplicit false
namespace VL
open PySem PySem.Spec PyProof.Rows L2 L2H

/-! ### a list comprehension while an exception is handled -/
section
variable {X : Cx} {elt tg iter : Expr} {ifs : List Expr} {scope : Scope} {own : List (Str × Nat)} {pos pos' : Pos} {wi : TI} {g : TG} {tt : TT} {te : TE}
end

/-! ### in the value layer -/
section
variable {X : Cx} {W : WX} {elt tg iter a : Expr} {ifs : List Expr} {scope : Scope} {own : List (Str × Nat)} {pos p : Pos} {ts : List Nat} {fi fl : Ev → R (List D)} {g : D → Ev → Option Ev} {ft : Ev → R Bool} {fe : Ev → R D}
end
end VL

set_option Elab.async false
set_option linter.all false
set_option maxRecDepth 100000
set_option maxHeartbeats 1000000
set_option autoImplicit false
namespace VL
open PySem PySem.Spec PyProof.Rows L2
theorem b_ValueError : bootBuiltins "ValueError" = some (.type "ValueError") := by decide +kernel
section
variable {P : Program} {K : Fg} {C fI cc cda : Addr} {name qual : Str} {params : Arguments} {scope : Scope} {txt : Str} {p0 p1 p2 p3 p4 pos : Pos} {k0 : Nat}
  {oc kV doc pm ct ccl ccv : Value} {od an cdd cld : Option Addr} {osl ccs csl : Array (Option Value)} {vs : Array Value} {file : Str} {tf : Tok} {cd : ClassData}
end

/-! ### rows -/
@[simp] theorem r_raise (n : Str) (ρ : Ev) : sRaise n ρ = .ex ⟨n, []⟩ ρ := rfl
@[simp] theorem r_anyA (o : Out) : anyA (fun _ => o) = o := anyA_const o
@[simp] theorem r_offR (i : Nat) (r : SD) : offO i (.rt r) = .rt r := rfl
@[simp] theorem r_offN (i : Nat) (ρ : Ev) : offO i (.nx ρ) = .nx (ρ.set i .no) := rfl
@[simp] theorem r_isEx (n : Str) (a : Addr) : isEx n a (exD n a) = true := isEx_self n a
@[simp] theorem r_eIsE (n : Str) (a : Addr) (b : Bool) (f : Ev → R D) (ρ : Ev) : eIsE n a b f ρ = (f ρ).bind fun d => if isEx n a d = true then .ok (.bool b) else .bad := rfl
@[simp] theorem r_eAppX (n k : Nat) (f g : Ev → R (List D)) (ρ : Ev) : eApp n k f g ρ = (f ρ).bind fun a => (g ρ).bind fun b => if a.length = n ∧ b.length = k then .ok (a ++ b) else .bad := id rfl
@[simp] theorem r_is_nn : isD .none .none = some (.bool true) := id rfl
end VL

set_option Elab.async false
set_option linter.all false
set_option maxRecDepth 100000
set_option autoImplicit false
namespace VL
open PySem PySem.Spec PyProof.Rows L2

def eStr {γ : Type} (F : Str → D → Option γ) (f g : Ev → R D) : Ev → R γ := fun ρ => (f ρ).bind fun x => match x with
  | .str a => (g ρ).bind fun y => ofO (F a y)
  | _ => .bad
section
variable {X : Cx} {W : WX} {o e : Expr} {apos pos : Pos} {f g : Ev → R D}
end
@[simp] theorem r_eStrE {γ : Type} (F : Str → D → Option γ) (f g : Ev → R D) (ρ : Ev) {a : Str} {y : D} (h1 : f ρ = .ok (.str a)) (h2 : g ρ = .ok y) : eStr F f g ρ = ofO (F a y) := by
  unfold eStr; rw [h1]; show (g ρ).bind _ = _; rw [h2]; rfl
end VL

set_option Elab.async false
set_option linter.all false
set_option maxRecDepth 100000
set_option autoImplicit false
namespace VL
open PySem PySem.Spec PyProof.Rows L2

/-! ### comprehensions of two clauses -/
def compF (f : D → R (List D)) : List D → R (List D)
  | [] => .ok []
  | d :: ds => (f d).bind fun a => (compF f ds).bind fun r => .ok (a ++ r)
def compI (vs : List Nat) (g : D → Ev → Option Ev) (ft : Ev → R Bool) (vs1 : List Nat) (fi1 : Ev → R (List D)) (g1 : D → Ev → Option Ev) (ft1 : Ev → R Bool) (fe : Ev → R D) (ρ : Ev) : D → R (List D) := fun d => match g d (wipeE ρ vs) with
  | some ρ' => (noex (ft ρ')).bind fun b => if b then (noex (fi1 ρ')).bind fun l1 => compR (compS vs1 g1 ft1 fe ρ') l1 else .ok []
  | none => .bad
def eComp2 (vs : List Nat) (fi : Ev → R (List D)) (g : D → Ev → Option Ev) (ft : Ev → R Bool) (vs1 : List Nat) (fi1 : Ev → R (List D)) (g1 : D → Ev → Option Ev) (ft1 : Ev → R Bool) (fe : Ev → R D) : Ev → R (List D) := fun ρ =>
  (fi ρ).bind fun l => (noex (compF (compI vs g ft vs1 fi1 g1 ft1 fe ρ) l)).bind fun r => if r.length ≤ sizeLine then .ok r else .bad
section
variable {X : Cx} {W : WX} {elt tg iter tg1 iter1 : Expr} {ifs ifs1 : List Expr} {scope : Scope} {own : List (Str × Nat)} {pos : Pos} {ts ts1 vs1 : List Nat} {fi fi1 : Ev → R (List D)} {g g1 : D → Ev → Option Ev} {ft ft1 : Ev → R Bool} {fe : Ev → R D}
end
@[simp] theorem r_eComp2 (vs : List Nat) (fi : Ev → R (List D)) (g : D → Ev → Option Ev) (ft : Ev → R Bool) (vs1 : List Nat) (fi1 : Ev → R (List D)) (g1 : D → Ev → Option Ev) (ft1 : Ev → R Bool) (fe : Ev → R D) (ρ : Ev) : eComp2 vs fi g ft vs1 fi1 g1 ft1 fe ρ = (fi ρ).bind fun l => (noex (compF (compI vs g ft vs1 fi1 g1 ft1 fe ρ) l)).bind fun r => if r.length ≤ sizeLine then .ok r else .bad := id rfl
end VL

set_option Elab.async false
set_option linter.all false
set_option maxRecDepth 100000
set_option autoImplicit false
namespace VL
open PySem PySem.Spec PyProof.Rows L2

/-! ### defs whose first two parameters are lists that are lent -/
inductive RC where
  | ok (r : SD) (l l2 : List D)
  | bad
def startC (n : Nat) (l l2 : List D) (ds : List D) : Ev := .bo l :: .bo l2 :: (ds.map .sh ++ List.replicate (n - 2 - ds.length) .no)
def finC : Out → RC
  | .rtB r ρ => match (ρ[0]? : Option SD), (ρ[1]? : Option SD) with
    | some (.bo l), some (.bo l2) => .ok r l l2
    | _, _ => .bad
  | .nx ρ => match (ρ[0]? : Option SD), (ρ[1]? : Option SD) with
    | some (.bo l), some (.bo l2) => .ok (.sh .none) l l2
    | _, _ => .bad
  | _ => .bad
def runC (np n : Nat) (F : Ev → Out) : List D → List D → List D → RC := fun l l2 ds => if ds.length + 2 = np then finC (F (startC n l l2 ds)) else .bad
def spC (K : Fg) (n : Nat) (m : List D → List D → List D → RC) : Sp := fun vs H Q _ => vs.length = n ∧ ∃ Hs l us p l2 us2 q ds vs', vs = .ref p :: .ref q :: vs' ∧ p ≠ q ∧ Same Hs H ∧ Hs p = none ∧ H p = some (.lst us) ∧ RpL K Hs l us ∧ Hs q = none ∧ H q = some (.lst us2) ∧ RpL K Hs l2 us2 ∧ RpL K Hs ds vs' ∧ (match m l l2 ds with
  | .ok r l' l2' => ∀ Hs' H' v us' us2', Same Hs Hs' → Same Hs' H' → (∀ a o, a ≠ p → a ≠ q → H a = some o → H' a = some o) → (∀ a o, Hs' a = some o → Hs a = none → H a = none) → Hs' p = none → H' p = some (.lst us') → RpL K Hs' l' us' → Hs' q = none → H' q = some (.lst us2') → RpL K Hs' l2' us2' → RpO K H Hs' H' r v → Q v H'
  | .bad => False)
section
variable {P : Program} {w : World} {K : Fg} {mg : Str → Option Value} {base : Heap}
structure COk (P : Program) (w : World) (K : Fg) (mg : Str → Option Value) (base : Heap) (k : Nat) (f : Addr) (fd : FuncData) (ps : List Str) (m : List D → List D → List D → RC) : Prop where
  fn : FnG P w K mg base k f fd ps (spC K ps.length m)
  ar : ∀ l l2 ds, m l l2 ds ≠ .bad → ds.length + 2 = ps.length
structure ClC (P : Program) (w : World) (K : Fg) (mg : Str → Option Value) (base : Heap) (k : Nat) (x : Str) (ps : List Str) (m : List D → List D → List D → RC) : Prop where
  ex : ∃ f fd, COk P w K mg base k f fd ps m ∧ mg x = some (.ref f) ∧ PySem.W.keepIn K (.ref f) = true ∧ Binds K fd ps []
end
/-! calls -/
def xCallC (m : List D → List D → List D → RC) (i j : Nat) (f : Ev → RX (List D)) : Ev → RX D := fun ρ => match lstAt ρ i, lstAt ρ j with
  | some _, some _ => (f ρ).bind fun ds ρ => match lstAt ρ i, lstAt ρ j with
    | some (l, k), some (l2, k2) => match m l l2 ds with
      | .ok r l' l2' => ofX (toD r) ((ρ.set i (mkL k l')).set j (mkL k2 l2'))
      | .bad => .bad
    | _, _ => .bad
  | _, _ => .bad
section
variable {X : Cx} {W : WX} {es : List Expr} {pos p : Pos} {fl : Ev → RX (List D)} {x : Str}
end
/-! rows -/
@[simp] theorem rx_xCallC (m : List D → List D → List D → RC) (i j : Nat) (f : Ev → RX (List D)) (ρ : Ev) : xCallC m i j f ρ = (match lstAt ρ i, lstAt ρ j with
  | some _, some _ => (f ρ).bind fun ds ρ => match lstAt ρ i, lstAt ρ j with
    | some (l, k), some (l2, k2) => match m l l2 ds with
      | .ok r l' l2' => ofX (toD r) ((ρ.set i (mkL k l')).set j (mkL k2 l2'))
      | .bad => .bad
    | _, _ => .bad
  | _, _ => .bad) := id rfl
@[simp] theorem rx_fin_C (s : SD) (l l2 : List D) (ρ : Ev) : finC (.rtB s (.bo l :: .bo l2 :: ρ)) = .ok s l l2 := id rfl
@[simp] theorem rx_fin_CN (l l2 : List D) (ρ : Ev) : finC (.nx (.bo l :: .bo l2 :: ρ)) = .ok (.sh .none) l l2 := id rfl
@[simp] theorem rx_runC0 (n : Nat) (F : Ev → Out) (l l2 : List D) : runC 2 n F l l2 [] = finC (F (.bo l :: .bo l2 :: List.replicate (n - 2) .no)) := if_pos rfl
@[simp] theorem rx_runC1 (n : Nat) (F : Ev → Out) (l l2 : List D) (a : D) : runC 3 n F l l2 [a] = finC (F (.bo l :: .bo l2 :: .sh a :: List.replicate (n - 2 - 1) .no)) := if_pos rfl
end VL

set_option Elab.async false
set_option linter.all false
set_option maxRecDepth 100000
set_option autoImplicit false
namespace VL
open PySem PySem.Spec PyProof.Rows L2

/-! ### lists that are made for a call alone -/
def eCallCT (m : List D → List D → List D → RC) (f1 f2 fl : Ev → R (List D)) : Ev → R D := fun ρ => (noex (f1 ρ)).bind fun l1 => (noex (f2 ρ)).bind fun l2 => (noex (fl ρ)).bind fun ds => match m l1 l2 ds with
  | .ok r _ _ => ofO (toD r)
  | .bad => .bad
/-- .. the second of two arguments -/
def eCallB1 (m : List D → List D → RB) (f : Ev → R D) (f1 : Ev → R (List D)) : Ev → R D := fun ρ => (noex (f ρ)).bind fun d => (noex (f1 ρ)).bind fun l => match m l [d, .none] with
  | .ok r _ => ofO (toD r)
  | .bad => .bad
section
variable {X : Cx} {W : WX} {e1 e2 e : Expr} {es : List Expr} {pos p : Pos} {f : Ev → R D} {f1 f2 fl : Ev → R (List D)} {x : Str}
end
/-! ### a choice out of a display by a key that changes a list -/
theorem RelE.drop {K : Fg} {S Hs H : Hp} {G : Gx} {σ : Sg} {ρ : Ev} {D : Addr} {o : HO} (r : RelE K S (G.plus D o) Hs H σ ρ) (hg : G.h D = none) : RelE K S G Hs H σ ρ := by
  have hG : ∀ {p : Addr}, (G.plus D o).h p = none → G.h p = none := fun {p} e => by
    have e' : upd G.h D o p = none := e
    by_cases hp : p = D
    · subst hp; rw [upd_same] at e'; cases e'
    · rw [upd_ne hp] at e'; exact e'
  refine ⟨r.sub, fun b u e => ?_, r.ext, fun p u e n => hG (r.new p u e n), r.len, fun i s hi => ?_, fun j p hp => ?_, r.one, r.dis⟩
  · refine r.old b u ?_
    show upd G.h D o b = some u
    rw [upd_ne (ne_of_none e hg)]; exact e
  · have q := r.slot i s hi
    cases s with
    | no => trivial
    | sh d => exact q
    | ow l =>
      obtain ⟨p, vs, e1, e2, e3⟩ := q
      exact ⟨p, vs, e1, hG e2, e3⟩
    | bo l => exact q
  · obtain ⟨h1, h2⟩ := r.bor j p hp
    exact ⟨hG h1, h2⟩
def xDSel (ks : List Str) (fs : Ev → R (List D)) (fk : Ev → RX D) : Ev → RX D := fun ρ => match fs ρ with
  | .ok ds => (fk ρ).bind fun k ρ => ofX (selD ks ds k) ρ
  | _ => .bad
@[simp] theorem rx_dsel (ks : List Str) (fs : Ev → R (List D)) (fk : Ev → RX D) (ρ : Ev) : xDSel ks fs fk ρ = (match fs ρ with
  | .ok ds => (fk ρ).bind fun k ρ => ofX (selD ks ds k) ρ
  | _ => .bad) := id rfl
/-! ### repr, of truths and None as well -/
section
variable {X : Cx}
def reprA : List D → Option D
  | [.bool b] => some (.str (if b then "True" else "False"))
  | [.none] => some (.str "None")
  | ds => reprL ds
end
@[simp] theorem r_reprA_b (b : Bool) : reprA [.bool b] = some (.str (if b then "True" else "False")) := id rfl
@[simp] theorem r_reprA_n : reprA [.none] = some (.str "None") := id rfl
@[simp] theorem r_reprA_t (l : List D) : reprA [.tuple l] = reprL [.tuple l] := id rfl
@[simp] theorem r_reprA_l (l : List D) : reprA [.list l] = reprL [.list l] := id rfl
@[simp] theorem r_callCT (m : List D → List D → List D → RC) (f1 f2 fl : Ev → R (List D)) (ρ : Ev) : eCallCT m f1 f2 fl ρ = (noex (f1 ρ)).bind fun l1 => (noex (f2 ρ)).bind fun l2 => (noex (fl ρ)).bind fun ds => match m l1 l2 ds with
  | .ok r _ _ => ofO (toD r)
  | .bad => .bad := id rfl
@[simp] theorem r_callB1 (m : List D → List D → RB) (f : Ev → R D) (f1 : Ev → R (List D)) (ρ : Ev) : eCallB1 m f f1 ρ = (noex (f ρ)).bind fun d => (noex (f1 ρ)).bind fun l => match m l [d, .none] with
  | .ok r _ => ofO (toD r)
  | .bad => .bad := id rfl
end VL

set_option Elab.async false
set_option linter.all false
set_option maxRecDepth 100000
set_option autoImplicit false
namespace VL
open PySem PySem.Spec PyProof.Rows L2

/-! ### f'{x}' -/
section
variable {X : Cx} {W : WX} {e : Expr} {p1 p2 : Pos} {f : Ev → R D}
end
/-! ### a list that is lent, and one that is made for the call -/
def xCallCM (m : List D → List D → List D → RC) (i : Nat) (f2 fl : Ev → R (List D)) : Ev → RX D := fun ρ => match lstAt ρ i with
  | some (l, k) => match f2 ρ, fl ρ with
    | .ok l2, .ok ds => match m l l2 ds with
      | .ok r l' _ => ofX (toD r) (ρ.set i (mkL k l'))
      | .bad => .bad
    | _, _ => .bad
  | none => .bad
section
variable {X : Cx} {W : WX} {e2 : Expr} {es : List Expr} {pos p : Pos} {f2 fl : Ev → R (List D)} {x : Str}
end
@[simp] theorem rx_callCM (m : List D → List D → List D → RC) (i : Nat) (f2 fl : Ev → R (List D)) (ρ : Ev) : xCallCM m i f2 fl ρ = (match lstAt ρ i with
  | some (l, k) => match f2 ρ, fl ρ with
    | .ok l2, .ok ds => match m l l2 ds with
      | .ok r l' _ => ofX (toD r) (ρ.set i (mkL k l'))
      | .bad => .bad
    | _, _ => .bad
  | none => .bad) := id rfl
end VL

set_option Elab.async false
set_option linter.all false
set_option maxRecDepth 100000
set_option autoImplicit false
namespace VL
open PySem PySem.Spec PyProof.Rows L2

/-! ### a dict of the top, text keys, flat values -/
structure GD (K : Fg) (w : World) (mg : Str → Option Value) (x : Str) (ks : List Str) (ds : List D) : Prop where
  ex : ∃ a, mg x = some (.ref a) ∧ ∀ k d, selD ks ds (.str k) = some d → ∃ v, KDct K w a k v ∧ ∀ H, Rp K H d v
def eGSel (ks : List Str) (ds : List D) (fk : Ev → R D) : Ev → R D := fun ρ => (fk ρ).bind fun k => ofO (selD ks ds k)
@[simp] theorem r_eGSel (ks : List Str) (ds : List D) (fk : Ev → R D) (ρ : Ev) : eGSel ks ds fk ρ = (fk ρ).bind fun k => ofO (selD ks ds k) := id rfl
section
variable {X : Cx} {W : WX} {i : Expr} {g : Ev → R D} {ks : List Str} {ds : List D}
end
end VL

set_option Elab.async false
set_option linter.all false
set_option maxRecDepth 100000
set_option autoImplicit false
namespace VL
open PySem PySem.Spec PyProof.Rows L2

/-! ### tags -/
mutual
def un : D → D
  | .list l => .list (unL l)
  | .tuple l => .tuple (unL l)
  | .dict [(.int _, .list l)] => .list (unL l)
  | .none => .none
  | .bool b => .bool b
  | .int i => .int i
  | .str s => .str s
  | .dict k => .dict k
def unL : List D → List D
  | [] => []
  | d :: l => un d :: unL l
end
mutual
def old : D → D
  | .list l => tf (oldL l)
  | .tuple l => .tuple (oldL l)
  | .none => .none
  | .bool b => .bool b
  | .int i => .int i
  | .str s => .str s
  | .dict k => .dict k
def oldL : List D → List D
  | [] => []
  | d :: l => old d :: oldL l
end
mutual
def isOld : D → Bool
  | .list _ => false
  | .tuple l => isOldL l
  | .dict [(.int 1, .list l)] => isOldL l
  | .dict _ => false
  | _ => true
def isOldL : List D → Bool
  | [] => true
  | d :: l => isOld d && isOldL l
end
theorem un_tg (l : List D) : un (tg l) = .list (unL l) := by simp [un, tg]
theorem un_tf (l : List D) : un (tf l) = .list (unL l) := by simp [un, tf]
theorem isOld_tf (l : List D) : isOld (tf l) = isOldL l := by simp [isOld, tf]
theorem isOld_tg (l : List D) : isOld (tg l) = false := by simp [isOld, tg]
section
variable {K : Fg} {H : Hp}
mutual
theorem Rp.un : ∀ {d : D} {v : V}, Rp K H d v → Rp K H (un d) v
  | _, _, .non => by simp only [VL.un]; exact .non
  | _, _, .bl b => by simp only [VL.un]; exact .bl b
  | _, _, .int i => by simp only [VL.un]; exact .int i
  | _, _, .str x => by simp only [VL.un]; exact .str x
  | _, _, .lst h r => by simp only [VL.un]; exact .lst h (RpL.un r)
  | _, _, .tup h r => by simp only [VL.un]; exact .tup h (RpL.un r)
  | _, _, .nl h r => by rw [un_tg]; exact .lst (.inl (.inl h)) (RpL.un r)
  | _, _, .fl h r => by rw [un_tf]; exact .lst h.seq (RpL.un r)
  | _, _, .dk h l r => by simp only [dkD, VL.un]; exact .dk h l r
  | _, _, .exn a n => by simp only [exD, VL.un]; exact .exn a n
  | _, _, .xob c h f l r => by simp only [xoD, VL.un]; exact .xob c h f l r
theorem RpL.un : ∀ {d : List D} {v : List V}, RpL K H d v → RpL K H (unL d) v
  | _, _, .nil => by simp only [VL.unL]; exact .nil
  | _, _, .cons h r => by simp only [VL.unL]; exact .cons (Rp.un h) (RpL.un r)
end
end
/-- read without tags -/
def eUn (f : Ev → R D) : Ev → R D := fun ρ => (f ρ).bind fun d => .ok (un d)
/-- a new list, frozen at once, known to be new -/
def eLstN (f : Ev → R (List D)) : Ev → R D := fun ρ => (f ρ).bind fun l => .ok (tg l)
section
variable {X : Cx} {W : WX} {e : Expr} {f : Ev → R D} {fl : Ev → R (List D)} {st : Stmt} {F : Ev → Out}
theorem VE.un (h : VE X W e f) : VE X W e (eUn f) := PE.imp h fun σ H Q ⟨S, G, Hs, ρ, r, p⟩ => ⟨S, G, Hs, ρ, r, (Post.bind p).imp fun d Hs' H' e q v hv => q.now e.sub v (Rp.un hv)⟩
theorem VP.un (h : VP X W e f) : VP X W e (eUn f) := PE.imp h fun σ H Q ⟨S, G, Hs, ρ, r, p⟩ => ⟨S, G, Hs, ρ, r, (Post.bind p).imp fun d Hs' H' e q v hv => q.now e.sub v (by
  rcases hv with hv | ⟨l, a, xs, rfl, rfl, h3, h4⟩
  · exact .inl (Rp.un hv)
  · exact .inr ⟨unL l, a, xs, by simp [VL.un], rfl, h3, RpL.un h4⟩)⟩
theorem VO.vn (h : VO X W e fl) : VE X W e (eLstN fl) := PE.imp h fun σ H Q ⟨S, G, Hs, ρ, r, p⟩ => ⟨S, G, Hs, ρ, r, by
  unfold eLstN at p
  cases q : fl ρ with
  | bad => rw [q] at p; exact p
  | ex x => rw [q] at p; exact p
  | ok l =>
    rw [q] at p
    refine fun Hs' H' e p' vs h0 h1 h2 h3 => ?_
    exact p _ _ (e.frz h0 h2 h1) _ (.nl upd_same (h3.mono fun b u z => by rw [upd_ne (ne_of_none z h1)]; exact z))⟩
end

/-! ### all that stands is coloured: what is new afterwards can be told -/
def colH (h : Heap) (Hs H : Hp) : Hp := fun a => match Hs a with
  | some (.lst xs) => (match h.get? a with
    | some o => some (.frz o (.lst xs))
    | none => H a)
  | _ => H a
theorem colH_lst {h : Heap} {Hs H : Hp} {a : Addr} {xs : List V} {o : Obj} (e : Hs a = some (.lst xs)) (e2 : h.get? a = some o) : colH h Hs H a = some (.frz o (.lst xs)) := by
  unfold colH; rw [e]; simp only [e2]
theorem colH_ne {h : Heap} {Hs H : Hp} {a : Addr} (e : ∀ xs, Hs a ≠ some (.lst xs)) : colH h Hs H a = H a := by
  unfold colH
  split
  · rename_i xs q; exact (e xs q).elim
  · rfl
/-- the lists of Hs lie in h -/
def LstIn (h : Heap) (Hs : Hp) : Prop := ∀ a xs, Hs a = some (.lst xs) → ∃ o, h.get? a = some o
section
variable {K : Fg} {h : Heap} {Hs : Hp}
mutual
theorem Rp.col (c : LstIn h Hs) : ∀ {d : D} {v : V}, Rp K Hs d v → d.hasDict = false → Rp K (colH h Hs Hs) (old d) v
  | _, _, .non, _ => by simp only [old]; exact .non
  | _, _, .bl b, _ => by simp only [old]; exact .bl b
  | _, _, .int i, _ => by simp only [old]; exact .int i
  | _, _, .str x, _ => by simp only [old]; exact .str x
  | _, _, .lst q r, n => by
    simp only [old]
    refine .fl ?_ (RpL.col c r (by unfold PyData.hasDict at n; exact n))
    rcases q with (q | ⟨o, q⟩) | q
    · obtain ⟨o, ho⟩ := c _ _ q
      exact .inl ⟨o, colH_lst q ho⟩
    · exact .inl ⟨o, by rw [colH_ne (fun xs z => by rw [q] at z; cases z)]; exact q⟩
    · exact .inr q
  | _, _, .tup q r, n => by
    simp only [old]
    refine .tup ?_ (RpL.col c r (by unfold PyData.hasDict at n; exact n))
    rcases q with (q | ⟨o, q⟩) | q
    · exact .inl (.inl (by rw [colH_ne (fun xs z => by rw [q] at z; cases z)]; exact q))
    · exact .inl (.inr ⟨o, by rw [colH_ne (fun xs z => by rw [q] at z; cases z)]; exact q⟩)
    · exact .inr q
  | _, _, .nl q r, n => by simp [tg, PyData.hasDict] at n
  | _, _, .fl q r, n => by simp [tf, PyData.hasDict] at n
  | _, _, .dk q l r, n => by simp [dkD, PyData.hasDict] at n
theorem RpL.col (c : LstIn h Hs) : ∀ {d : List D} {v : List V}, RpL K Hs d v → PyData.hasDictAll d = false → RpL K (colH h Hs Hs) (oldL d) v
  | _, _, .nil, _ => by simp only [oldL]; exact .nil
  | _, _, .cons q r, n => by
    unfold PyData.hasDictAll at n
    rw [Bool.or_eq_false_iff] at n
    simp only [oldL]
    exact .cons (Rp.col c q n.1) (RpL.col c r n.2)
end
end
def colS : SD → SD
  | .sh d => if d.hasDict then .no else .sh (old d)
  | .ow l => if PyData.hasDictAll l then .no else .ow (oldL l)
  | _ => .no
def colE (ρ : Ev) : Ev := ρ.map colS
def IsOwn (σ : Sg) (ρ : Ev) (a : Addr) : Prop := ∃ (i : Nat) (l : List D), ρ[i]? = some (.ow l) ∧ σ[i]? = some (some (.ref a))
open Classical in
noncomputable def noOwn (σ : Sg) (ρ : Ev) (H : Hp) : Hp := fun a => if IsOwn σ ρ a then none else H a
theorem RelE.col {K : Fg} {S Hs H : Hp} {G : Gx} {σ : Sg} {ρ : Ev} {h : Heap} (c : LstIn h Hs) (r : RelE K S G Hs H σ ρ) :
    RelE K (colH h Hs Hs) ⟨noOwn σ ρ (colH h Hs H), fun _ => none⟩ (colH h Hs Hs) (colH h Hs H) σ (colE ρ) where
  sub := fun b u q => by
    by_cases z : ∃ xs, Hs b = some (.lst xs)
    · obtain ⟨xs, z⟩ := z
      obtain ⟨o, ho⟩ := c _ _ z
      rw [colH_lst z ho] at q ⊢; exact q
    · rw [colH_ne (fun xs y => z ⟨xs, y⟩)] at q ⊢; exact r.sub b u q
  old := fun b u q => by
    show colH h Hs H b = some u
    have q : noOwn σ ρ (colH h Hs H) b = some u := q
    unfold noOwn at q
    split at q
    · cases q
    · exact q
  ext := .refl _
  new := fun p o a b => by rw [a] at b; cases b
  len := by rw [← r.len]; simp [colE]
  slot := fun i s hs => by
    unfold colE at hs
    rw [List.getElem?_map] at hs
    obtain ⟨s0, e1, rfl⟩ := Option.map_eq_some_iff.mp hs
    cases s0 with
    | no => trivial
    | bo l => trivial
    | sh d =>
      by_cases z : d.hasDict = true
      · rw [show colS (.sh d) = .no from if_pos z]; trivial
      · rw [show colS (.sh d) = .sh (VL.old d) from if_neg z]
        obtain ⟨v, e2, e3⟩ := r.get e1
        exact ⟨v, e2, Rp.col c e3 (by simpa using z)⟩
    | ow l =>
      by_cases z : PyData.hasDictAll l = true
      · rw [show colS (.ow l) = .no from if_pos z]; trivial
      · rw [show colS (.ow l) = .ow (oldL l) from if_neg z]
        obtain ⟨p, vs, f1, f2, f3, f4, f5, _⟩ := r.own' e1
        have n : ∀ xs, Hs p ≠ some (.lst xs) := fun xs y => by rw [f3] at y; cases y
        refine ⟨p, vs, f1, ?_, by rw [colH_ne n]; exact f3, by rw [colH_ne n]; exact f4, RpL.col c f5 (by simpa using z), fun j y => by cases y⟩
        show noOwn σ ρ (colH h Hs H) p = none
        unfold noOwn
        rw [if_pos ⟨i, l, e1, f1⟩]
  bor := fun i p hp => by cases hp
  one := fun i j p hp => by cases hp
  dis := fun i j l m p a b x y => by
    have go : ∀ (k : Nat) (n : List D), (colE ρ)[k]? = some (.ow n) → ∃ n', ρ[k]? = some (.ow n') := fun k n q => by
      unfold colE at q
      rw [List.getElem?_map] at q
      obtain ⟨s0, e1, e2⟩ := Option.map_eq_some_iff.mp q
      cases s0 with
      | ow l => exact ⟨l, e1⟩
      | no => cases e2
      | bo l => cases e2
      | sh d =>
        by_cases z : d.hasDict = true
        · rw [show colS (.sh d) = .no from if_pos z] at e2; cases e2
        · rw [show colS (.sh d) = .sh (VL.old d) from if_neg z] at e2; cases e2
    obtain ⟨l', a'⟩ := go i l a
    obtain ⟨m', b'⟩ := go j m b
    exact r.dis i j l' m' p a' b' x y

/-! ### the rule: from here on what is new can be told; it must end with flat data -/
def NoLst (S : Hp) : Prop := ∀ a xs, S a ≠ some (.lst xs)
def flat : D → Bool
  | .none => true
  | .bool _ => true
  | .int _ => true
  | .str _ => true
  | _ => false
section
variable {X : Cx} {W : WX} {st : Stmt} {sts rest : List Stmt} {F F' : Ev → Out}
theorem colH_no {h : Heap} {Hs H : Hp} {b : Addr} (s : Same Hs H) (e : H b = none) : colH h Hs H b = none := by
  rw [colH_ne fun xs z => by rw [s _ _ z] at e; cases e]; exact e
theorem Inv.col {pins : List (Addr × Obj)} {σ : Sg} {H Hs : Hp} {s : Shared} (s1 : Same Hs H) (I : Inv X pins σ H s) : Inv X pins σ (colH s.heap Hs H) s := by
  have keepT : ∀ b u, H b = some u → (∀ xs, u ≠ .lst xs) → colH s.heap Hs H b = some u := fun b u e n => by
    rw [colH_ne fun xs z => by rw [s1 _ _ z] at e; cases e; exact n xs rfl]; exact e
  refine I.un (t' := s.toks) (h' := s.heap) ⟨fun b o e _ _ _ => e, fun b o e _ _ _ => ⟨o.slots, e⟩, fun b o e n _ => colH_no s1 n, fun b o e _ => ⟨o, e⟩, fun b xs e => keepT b _ e (fun _ z => by cases z), fun b o u e => keepT b _ e (fun _ z => by cases z), fun b ps e => ⟨#[], by rw [keepT b _ e (fun _ z => by cases z)]; simp⟩⟩ fun a u e => ?_
  by_cases z : ∃ xs, Hs a = some (.lst xs)
  · obtain ⟨xs, z⟩ := z
    have ok := I.hok a _ (s1 _ _ z)
    obtain ⟨q1, its, n, q2, q3⟩ := ok
    rw [colH_lst z q3] at e
    cases e
    exact ⟨q3, q1, its, n, q2, q3⟩
  · rw [colH_ne fun xs y => z ⟨xs, y⟩] at e
    exact (I.hok a u e).stay (fun b o _ e => e) (fun b e => keepT b _ e (fun _ z => by cases z)) (fun b xs e => keepT b _ e (fun _ z => by cases z))
end
end VL

set_option Elab.async false
set_option linter.all false
set_option maxRecDepth 100000
set_option autoImplicit false
namespace VL
open PySem PySem.Spec PyProof.Rows L2

/-! ### lists that are changed, told by kinds -/
inductive Kd where
  | po | co | ro
/-- what stays; the kinds of the lists that are changed; how often the first ones may still grow; how long the second ones are -/
structure Gh where
  B : Hp
  κ : Addr → Option Kd
  f : Nat
  nc : Nat
def TRow (K : Fg) (g : Gh) (x : V) : Prop := ∃ p c q s, x = .ref p ∧ SqT K g.B p [.ref c, .ref q, s] ∧ g.κ c = some .co ∧ g.κ q = some .po
def TAt (K : Fg) (g : Gh) (x : V) : Prop := (∃ p q s, x = .ref p ∧ SqT K g.B p [.str "sign", .ref q, s] ∧ g.κ q = some .po) ∨ (∃ p m r, x = .ref p ∧ SqT K g.B p [.str "some", m, .ref r] ∧ g.κ r = some .ro)
structure TH (K : Fg) (g : Gh) (H : Hp) : Prop where
  sub : Same g.B H
  off : ∀ a k, g.κ a = some k → g.B a = none
  po : ∀ a, g.κ a = some .po → ∃ xs, H a = some (.lst xs) ∧ xs.length + g.f ≤ sizeLine
  co : ∀ a, g.κ a = some .co → ∃ xs, H a = some (.lst xs) ∧ xs.length ≤ g.nc ∧ ∀ x ∈ xs, ∃ b, x = .ref b ∧ g.κ b = some .po
  ro : ∀ a, g.κ a = some .ro → ∃ xs, H a = some (.lst xs) ∧ xs.length ≤ 5 ∧ ∀ x ∈ xs, TRow K g x
  fu : g.f + 10 ≤ sizeLine
  nb : g.nc ≤ 1000
structure Le (g g' : Gh) : Prop where
  b : Same g.B g'.B
  k : ∀ a k, g.κ a = some k → g'.κ a = some k
theorem Le.refl (g : Gh) : Le g g := ⟨.refl _, fun _ _ h => h⟩
theorem Le.trans {a b c : Gh} (x : Le a b) (y : Le b c) : Le a c := ⟨x.b.trans y.b, fun i k h => y.k i k (x.k i k h)⟩
section
variable {K : Fg} {g g' : Gh} {H : Hp}
theorem TRow.mono {x : V} (l : Le g g') (h : TRow K g x) : TRow K g' x := by
  obtain ⟨p, c, q, s, e, h1, h2, h3⟩ := h
  exact ⟨p, c, q, s, e, SqT.mono l.b h1, l.k _ _ h2, l.k _ _ h3⟩
theorem TAt.mono {x : V} (l : Le g g') (h : TAt K g x) : TAt K g' x := by
  rcases h with ⟨p, q, s, e, h1, h2⟩ | ⟨p, m, r, e, h1, h2⟩
  · exact .inl ⟨p, q, s, e, SqT.mono l.b h1, l.k _ _ h2⟩
  · exact .inr ⟨p, m, r, e, SqT.mono l.b h1, l.k _ _ h2⟩
/-! ### def _law_spoil_atom -/
end
end VL

set_option Elab.async false
set_option linter.all false
set_option maxRecDepth 100000
set_option autoImplicit false
namespace VL
open PySem PySem.Spec PyProof.Rows L2

/-! ### kinds, from tagged data -/
def hPo (Hs : Hp) (a : Addr) : Prop := ∃ xs : List V, Hs a = some (.lst xs) ∧ xs.length ≤ 100 ∧ ∀ x ∈ xs, ∃ i : Int, x = .int i
def hCo (Hs : Hp) (a : Addr) : Prop := ∃ xs : List V, Hs a = some (.lst xs) ∧ xs ≠ [] ∧ xs.length ≤ 2 ∧ ∀ x ∈ xs, ∃ b, x = .ref b ∧ hPo Hs b
def hRo (K : Fg) (Hs : Hp) (a : Addr) : Prop := ∃ xs : List V, Hs a = some (.lst xs) ∧ xs ≠ [] ∧ xs.length ≤ 5 ∧ ∀ x ∈ xs, ∃ p c q s, x = .ref p ∧ SqT K Hs p [.ref c, .ref q, s] ∧ hCo Hs c ∧ hPo Hs q
/-- what the written part and the heap say together -/
structure NoK (K : Fg) (H : Hp) : Prop where
  lt : ∀ p xs ys, H p = some (.lst ys) → ¬ SqT K H p xs
  ut : ∀ p xs ys, SqT K H p xs → SqT K H p ys → ∃ us, Vals xs us ∧ Vals ys us
theorem RpL.back {K : Fg} {H : Hp} : ∀ {l : List D} {xs : List V}, RpL K H l xs → ∀ x ∈ xs, ∃ d ∈ l, Rp K H d x
  | _, _, .nil, x, hx => by simp at hx
  | _, _, .cons h r, x, hx => by
    rcases List.mem_cons.mp hx with rfl | hx
    · exact ⟨_, by simp, h⟩
    · obtain ⟨d, hd, h'⟩ := RpL.back r x hx
      exact ⟨d, by simp [hd], h'⟩
section
variable {K : Fg} {Hs : Hp}
theorem RpL.ne {l : List D} {xs : List V} (r : RpL K Hs l xs) (h : l ≠ []) : xs ≠ [] := fun z => by
  subst z
  cases r
  exact h rfl
end
/-! ### the kinds of a heap -/
open Classical in
noncomputable def kOf (K : Fg) (Hs : Hp) : Addr → Option Kd := fun a => if hPo Hs a then some .po else if hCo Hs a then some .co else if hRo K Hs a then some .ro else none
section
variable {K : Fg} {Hs H : Hp}
theorem kOf_back {a : Addr} {q : Kd} (h : kOf K Hs a = some q) : (q = .po ∧ hPo Hs a) ∨ (q = .co ∧ hCo Hs a) ∨ (q = .ro ∧ hRo K Hs a) := by
  unfold kOf at h
  split at h
  · rename_i z; cases h; exact .inl ⟨rfl, z⟩
  · split at h
    · rename_i z; cases h; exact .inr (.inl ⟨rfl, z⟩)
    · split at h
      · rename_i z; cases h; exact .inr (.inr ⟨rfl, z⟩)
      · cases h
theorem kOf_lst {a : Addr} {q : Kd} (h : kOf K Hs a = some q) : ∃ xs, Hs a = some (.lst xs) := by
  rcases kOf_back h with ⟨_, xs, e, _⟩ | ⟨_, xs, e, _⟩ | ⟨_, xs, e, _⟩ <;> exact ⟨xs, e⟩
open Classical in
noncomputable def g0 (K : Fg) (Hs H : Hp) : Gh := ⟨fun a => if kOf K Hs a = none then H a else none, kOf K Hs, sizeLine - 1000, 2⟩
theorem g0_B {a : Addr} {u : HO} (h : kOf K Hs a = none) (e : H a = some u) : (g0 K Hs H).B a = some u := by
  show (if kOf K Hs a = none then H a else none) = some u
  rw [if_pos h]; exact e
end
end VL

set_option Elab.async false
set_option linter.all false
set_option maxRecDepth 100000
set_option autoImplicit false
namespace VL
open PySem PySem.Spec PyProof.Rows L2

/-! ### def _law_spoil_atom: its promise -/
def spY (K : Fg) : Sp := fun vs H Q E => vs.length = 1 ∧ ∃ g v, vs = [v] ∧ TH K g H ∧ TAt K g v ∧ 5000 ≤ g.f ∧ g.nc ≤ 305 ∧ ∀ g' H', Le g g' → TH K g' H' → g.f ≤ g'.f + 2000 → g'.nc ≤ g.nc + 5 → Q .non H'
structure ClY (P : Program) (w : World) (K : Fg) (mg : Str → Option Value) (base : Heap) (k : Nat) (x : Str) (ps : List Str) : Prop where
  ex : ∃ f fd, FnG P w K mg base k f fd ps (spY K) ∧ mg x = some (.ref f) ∧ PySem.W.keepIn K (.ref f) = true ∧ Binds K fd ps []
/-! ### for a in e: _law_spoil_atom(a) -/
def keepS : SD → SD
  | .sh d => if isOld d then .sh d else .no
  | .ow l => if isOldL l then .ow l else .no
  | _ => .no
def keepE (ρ : Ev) : Ev := ρ.map keepS
open Classical in
/-- the shared part without what may change -/
noncomputable def lowH (S Hs : Hp) : Hp := fun a => if S a = none then (match Hs a with
  | some (.lst _) => none
  | o => o) else S a
section
variable {K : Fg} {S Hs : Hp}
theorem lowH_keep {a : Addr} {u : HO} (e : Same S Hs) (h : Hs a = some u) (n : ∀ xs, u ≠ .lst xs) : lowH S Hs a = some u := by
  unfold lowH
  by_cases z : S a = none
  · rw [if_pos z, h]
    cases u <;> first | rfl | exact (n _ rfl).elim
  · rw [if_neg z]
    cases y : S a with
    | none => exact (z y).elim
    | some w => have := e _ _ y; rw [h] at this; cases this; rfl
theorem lowH_back {a : Addr} {u : HO} (nl : NoLst S) (e : Same S Hs) (h : lowH S Hs a = some u) : Hs a = some u ∧ ∀ xs, u ≠ .lst xs := by
  unfold lowH at h
  by_cases z : S a = none
  · rw [if_pos z] at h
    cases y : Hs a with
    | none => rw [y] at h; cases h
    | some w =>
      rw [y] at h
      cases w <;> first | (cases h; exact ⟨rfl, fun xs z => by cases z⟩) | cases h
  · rw [if_neg z] at h
    exact ⟨e _ _ h, fun xs w => by rw [w] at h; exact nl _ _ h⟩
mutual
theorem Rp.low (e : Same S Hs) : ∀ {d : D} {v : V}, Rp K Hs d v → isOld d = true → Rp K (lowH S Hs) d v
  | _, _, .non, _ => .non
  | _, _, .bl b, _ => .bl b
  | _, _, .int i, _ => .int i
  | _, _, .str x, _ => .str x
  | _, _, .lst _ _, n => by simp [isOld] at n
  | _, _, .tup q r, n => by
    refine .tup ?_ (RpL.low e r (by simpa [isOld] using n))
    rcases q with (q | ⟨o, q⟩) | q
    · exact .inl (.inl (lowH_keep e q (fun xs z => by cases z)))
    · exact .inl (.inr ⟨o, lowH_keep e q (fun xs z => by cases z)⟩)
    · exact .inr q
  | _, _, .nl q r, n => by rw [isOld_tg] at n; cases n
  | _, _, .fl q r, n => by
    rw [isOld_tf] at n
    refine .fl ?_ (RpL.low e r n)
    rcases q with ⟨o, q⟩ | q
    · exact .inl ⟨o, lowH_keep e q (fun xs z => by cases z)⟩
    · exact .inr q
  | _, _, .dk q l r, n => by simp [dkD, isOld] at n
theorem RpL.low (e : Same S Hs) : ∀ {d : List D} {v : List V}, RpL K Hs d v → isOldL d = true → RpL K (lowH S Hs) d v
  | _, _, .nil, _ => .nil
  | _, _, .cons q r, n => by
    simp only [isOldL, Bool.and_eq_true] at n
    exact .cons (Rp.low e q n.1) (RpL.low e r n.2)
end
/-- behind the changes -/
theorem RelE.low {H H' : Hp} {G : Gx} {σ σ' : Sg} {ρ : Ev} {i : Nat} {g : Gh} (nl : NoLst S) (r : RelE K S G Hs H σ ρ) (l : Le (g0 K Hs H) g) (t : TH K g H') (hl : σ'.length = σ.length) (hs : ∀ j, j ≠ i → σ'[j]? = σ[j]?) :
    RelE K S G (lowH S Hs) H' σ' (keepE (ρ.set i .no)) := by
  have stay : ∀ {a u}, H a = some u → kOf K Hs a = none → H' a = some u := fun {a u} e k => t.sub _ _ (l.b _ _ (g0_B k e))
  have kno : ∀ {a}, Hs a = none → kOf K Hs a = none := fun {a} e => by
    cases z : kOf K Hs a with
    | none => rfl
    | some q => obtain ⟨xs, y⟩ := kOf_lst z; rw [e] at y; cases y
  have get : ∀ (j : Nat) (s : SD), (keepE (ρ.set i .no))[j]? = some s → s = .no ∨ (j ≠ i ∧ ∃ s0, ρ[j]? = some s0 ∧ s = keepS s0) := fun j s h => by
    unfold keepE at h
    rw [List.getElem?_map] at h
    obtain ⟨s0, h1, rfl⟩ := Option.map_eq_some_iff.mp h
    rcases set_get h1 with ⟨_, _, rfl⟩ | ⟨hj, h1⟩
    · exact .inl rfl
    · exact .inr ⟨hj, s0, h1, rfl⟩
  have ownk : ∀ (s0 : SD) (m : List D), keepS s0 = .ow m → s0 = .ow m := fun s0 m h => by
    cases s0 with
    | ow l =>
      by_cases z : isOldL l = true
      · rw [show keepS (.ow l) = .ow l from if_pos z] at h; exact h
      · rw [show keepS (.ow l) = .no from if_neg z] at h; cases h
    | sh d =>
      by_cases z : isOld d = true
      · rw [show keepS (.sh d) = .sh d from if_pos z] at h; cases h
      · rw [show keepS (.sh d) = .no from if_neg z] at h; cases h
    | no => cases h
    | bo l => cases h
  refine ⟨fun b u e => ?_, fun b u e => ?_, fun b u e => ?_, fun p o e n => ?_, ?_, fun j s h => ?_, fun j p hp => ?_, r.one, fun j k m n p a b c d => ?_⟩
  · obtain ⟨e1, e2⟩ := lowH_back nl r.ext e
    refine stay (r.sub _ _ e1) ?_
    cases z : kOf K Hs b with
    | none => rfl
    | some q => obtain ⟨xs, y⟩ := kOf_lst z; rw [e1] at y; cases y; exact (e2 xs rfl).elim
  · refine stay (r.old _ _ e) ?_
    cases z : kOf K Hs b with
    | none => rfl
    | some q =>
      obtain ⟨xs, y⟩ := kOf_lst z
      have sn : S b = none := by
        cases w : S b with
        | none => rfl
        | some u' => have := r.ext _ _ w; rw [y] at this; cases this; exact (nl _ _ w).elim
      have := r.new _ _ y sn
      rw [e] at this; cases this
  · exact lowH_keep r.ext (r.ext _ _ e) (fun xs z => by subst z; exact nl _ _ e)
  · exact r.new p o (lowH_back nl r.ext e).1 n
  · unfold keepE; rw [List.length_map, List.length_set, r.len, hl]
  · rcases get j s h with rfl | ⟨hj, s0, h0, rfl⟩
    · trivial
    · have q := r.slot j s0 h0
      rw [hs j hj]
      cases s0 with
      | no => trivial
      | bo l => trivial
      | sh d =>
        by_cases z : isOld d = true
        · rw [show keepS (.sh d) = .sh d from if_pos z]
          obtain ⟨v, q1, q2⟩ := q
          exact ⟨v, q1, Rp.low r.ext q2 z⟩
        · rw [show keepS (.sh d) = .no from if_neg z]; trivial
      | ow l =>
        by_cases z : isOldL l = true
        · rw [show keepS (.ow l) = .ow l from if_pos z]
          obtain ⟨p, xs, f1, f2, f3, f4, f5, f6⟩ := q
          refine ⟨p, xs, f1, f2, ?_, stay f4 (kno f3), RpL.low r.ext f5 z, f6⟩
          cases y : lowH S Hs p with
          | none => rfl
          | some u => have := (lowH_back nl r.ext y).1; rw [f3] at this; cases this
        · rw [show keepS (.ow l) = .no from if_neg z]; trivial
  · obtain ⟨h1, h2, h3⟩ := r.bor j p hp
    refine ⟨h1, ?_, ?_⟩
    · cases y : lowH S Hs p with
      | none => rfl
      | some u => have := (lowH_back nl r.ext y).1; rw [h2] at this; cases this
    · cases y : H p with
      | none => exact (h3 y).elim
      | some u => rw [stay y (kno h2)]; simp
  · rcases get j _ a with z | ⟨hj, s0, h0, z⟩
    · cases z
    · rcases get k _ b with z' | ⟨hk, s1, h1, z'⟩
      · cases z'
      · have e0 := ownk s0 m z.symm
        have e1 := ownk s1 n z'.symm
        subst e0; subst e1
        rw [hs j hj] at c
        rw [hs k hk] at d
        exact r.dis j k m n p h0 h1 c d
end
section
variable {X : Cx} {W : WX} {iter : Expr} {rest : List Stmt} {f : Ev → R D} {F : Ev → Out} {i j k : Nat} {x y : Str} {px p1 p2 p3 p4 pos : Pos} {ps : List Str}
end
end VL

set_option Elab.async false
set_option linter.all false
set_option maxRecDepth 100000
set_option autoImplicit false
namespace VL
open PySem PySem.Spec PyProof.Rows L2

/-! ### a dict of text keys, held by a name -/
def keysOf : List (D × D) → Option (List Str × List D)
  | [] => some ([], [])
  | (.str k, d) :: r => (keysOf r).map fun p => (k :: p.1, d :: p.2)
  | _ => none
theorem keysOf_zip : ∀ {ks : List Str} {ds : List D}, ds.length = ks.length → keysOf ((ks.map fun k => PyData.str k).zip ds) = some (ks, ds)
  | [], [], _ => rfl
  | k :: ks, d :: ds, h => by
    rw [List.map_cons, List.zip_cons_cons]
    unfold keysOf
    rw [keysOf_zip (by simpa using h)]; rfl
def eDct (ks : List Str) (fs : Ev → R (List D)) : Ev → R D := fun ρ => (fs ρ).bind fun ds => if ds.length = ks.length then .ok (dkD ks ds) else .bad
section
variable {X : Cx} {W : WX} {e a i : Expr} {f g : Ev → R D} {pos : Pos}
end
@[simp] theorem r_eDct (ks : List Str) (fs : Ev → R (List D)) (ρ : Ev) : eDct ks fs ρ = (fs ρ).bind fun ds => if ds.length = ks.length then .ok (dkD ks ds) else .bad := id rfl
@[simp] theorem r_eUn (f : Ev → R D) (ρ : Ev) : eUn f ρ = (f ρ).bind fun d => .ok (un d) := id rfl
@[simp] theorem r_eLstN (f : Ev → R (List D)) (ρ : Ev) : eLstN f ρ = (f ρ).bind fun l => .ok (tg l) := id rfl
end VL

set_option Elab.async false
set_option linter.all false
set_option maxRecDepth 100000
set_option maxHeartbeats 1000000
set_option autoImplicit false
namespace VL
open PySem PySem.Spec PyProof.Rows L2 L2H

/-! ### any(..) while an exception is handled -/
section
variable {prog : Program} {w : World} {A : Around} {E : Value → Shared → Prop} {s : Shared}
end
/-! ### x in d, d a dict of one's own with text keys -/
def keyIs (x : Str) : D × D → Bool
  | (.str y, _) => decide (y = x)
  | _ => false
def dinD : D → D → Option D
  | .str x, .dict ((.str _, .none) :: l) => some (.bool (l.any (keyIs x)))
  | _, _ => none
def ndinD : D → D → Option D
  | .str x, .dict ((.str _, .none) :: l) => some (.bool (!l.any (keyIs x)))
  | _, _ => none
theorem din_dk {x : Str} : ∀ {ks : List Str} {ds : List D}, ds.length = ks.length → (((ks.map fun k => PyData.str k).zip ds).any (keyIs x)) = decide (x ∈ ks)
  | [], [], _ => rfl
  | k :: ks, d :: ds, h => by
    have ih := din_dk (x := x) (ks := ks) (ds := ds) (by simpa using h)
    simp only [List.map_cons, List.zip_cons_cons, List.any_cons, ih, List.mem_cons, Bool.decide_or]
    show (decide (k = x) || _) = _
    rw [show decide (k = x) = decide (x = k) from by simp [eq_comm]]
@[simp] theorem r_dinD (x : Str) (ks : List Str) (ds : List D) (h : ds.length = ks.length) : dinD (.str x) (dkD ks ds) = some (.bool (decide (x ∈ ks))) := by
  show some (PyData.bool _) = _
  rw [din_dk h]
@[simp] theorem r_ndinD (x : Str) (ks : List Str) (ds : List D) (h : ds.length = ks.length) : ndinD (.str x) (dkD ks ds) = some (.bool (!decide (x ∈ ks))) := by
  show some (PyData.bool _) = _
  rw [din_dk h]

/-! ### x in d, d a dict of the module's top -/
/-- ks its keys; zs the texts that may be asked -/
structure GI (K : Fg) (w : World) (mg : Str → Option Value) (x : Str) (ks zs : List Str) : Prop where
  ex : ∃ a es n, mg x = some (.ref a) ∧ KDict K w a es n ∧ ∀ z ∈ zs, ∃ r : Option Value, PySem.W.nsIn K a z = some r ∧ r.isSome = decide (z ∈ ks)
section
variable {X : Cx} {W : WX} {e : Expr} {f : Ev → R D} {ks zs : List Str} {x : Str} {px pos : Pos}
end

/-! ### a def whose keyword-only parameters have defaults, called without keywords -/
section
variable {X : Cx} {n k j : Nat} {f : Addr} {fd : FuncData} {ps ks : List Str} {sp : Sp} {E : Sg → XK} {x : Str} {p pos : Pos} {e : Expr} {es : List Expr} {t : TA} {dvs : List V} {ds : List Value}
end
def eDfl (dd : List D) (fl : Ev → R (List D)) : Ev → R (List D) := fun ρ => (fl ρ).bind fun ds => .ok (ds ++ dd)
@[simp] theorem r_eDfl (dd : List D) (fl : Ev → R (List D)) (ρ : Ev) : eDfl dd fl ρ = (fl ρ).bind fun ds => .ok (ds ++ dd) := id rfl
structure ClKD (P : Program) (w : World) (K : Fg) (mg : Str → Option Value) (base : Heap) (k : Nat) (x : Str) (ps ks : List Str) (n : Nat) (dd : List D) (m : List D → R SD) : Prop where
  ex : ∃ f fd, DOk P w K mg base k f fd ps m ∧ mg x = some (.ref f) ∧ PySem.W.keepIn K (.ref f) = true ∧ KB K fd ps ks n ∧ ∃ dvs ds, Vals dvs ds ∧ Binds K fd ps ds ∧ ∀ H, RpL K H dd dvs
theorem ClKD.kk {P : Program} {w : World} {K : Fg} {mg : Str → Option Value} {base : Heap} {j n : Nat} {x : Str} {ps ks : List Str} {dd : List D} {m : List D → R SD} (C : ClKD P w K mg base j x ps ks n dd m) : ClK P w K mg base j x ps ks n m := by
  obtain ⟨f, fd, h1, h2, h3, h4, _⟩ := C.ex
  exact ⟨f, fd, h1, h2, h3, h4⟩
structure DfKD (K : Fg) (mg : Str → Option Value) (x : Str) (st : Stmt) (ps ks : List Str) (n : Nat) (dd : List D) : Prop where
  ex : ∃ f fd, Fun K x x st f fd ∧ mg x = some (.ref f) ∧ KB K fd ps ks n ∧ ∃ dvs ds, Vals dvs ds ∧ Binds K fd ps ds ∧ ∀ H, RpL K H dd dvs
section
variable {X : Cx} {W : WX} {e : Expr} {es : List Expr} {pos p : Pos} {x : Str} {fl fk : Ev → R (List D)} {k j n : Nat} {ps ks : List Str} {m : List D → R SD} {dd : List D}
end
/-! ### t + u, tuples too -/
def addA : D → D → Option D
  | .tuple a, .tuple b => if a.length + b.length ≤ sizeLine then some (.tuple (a ++ b)) else none
  | a, b => addD a b
@[simp] theorem r_addA_t (a b : List D) (h : a.length + b.length ≤ sizeLine) : addA (.tuple a) (.tuple b) = some (.tuple (a ++ b)) := if_pos h
@[simp] theorem r_addA_i (a b : Int) : addA (.int a) (.int b) = some (.int (a + b)) := id rfl
@[simp] theorem r_addA_l (a b : List D) : addA (.list a) (.list b) = (catD a b).map .list := id rfl
end VL

set_option Elab.async false
set_option linter.all false
set_option maxRecDepth 100000
set_option maxHeartbeats 1000000
set_option autoImplicit false
namespace VL
open PySem PySem.Spec PySem.Calls PyProof.Rows L2

/-! ### an own exception over ValueError as an object: C(e, ..), where __init__ says super().__init__(text) and then self.f = p, .. -/
abbrev StQ := Str × Str × Pos × Pos × Pos × Pos
abbrev storeS (q : StQ) : Stmt := .Assign [.Attribute (.Name "self" q.2.2.1) q.1 q.2.2.2.1] (.Name q.2.1 q.2.2.2.2.1) q.2.2.2.2.2
abbrev supBodyF (txt : Str) (p0 p1 p2 p3 p4 pos : Pos) (k0 : Nat) (ss : List StQ) : List Stmt := .Expr (.Call (.Attribute (.Call (.Name "super" p0) [] [] p1) "__init__" p2) [.Constant (.str txt) k0 p3] [] p4) pos :: ss.map storeS
/-- names and what is stored there, the last one first -/
def zipR {α : Type} : List Str → List α → List (Str × α) → List (Str × α)
  | k :: ks, a :: as, acc => zipR ks as ((k, a) :: acc)
  | _, _, acc => acc
section
open PySem.W PySem.HandSPX
variable {prog : Program} {w : World} {A : Around} {E : Value → Shared → Prop} {g : Array GenState} {d : Drawn} {os : OsState}
theorem within_lk : ∀ (l : List (Str × Value)), Within (fun y => l.lookup y) (l.map (·.1))
  | [], y, h => absurd rfl h
  | (k, a) :: l, y, h => by
    by_cases e : y = k
    · subst e; exact List.mem_cons_self
    · refine List.mem_cons_of_mem _ (within_lk l y fun z => h ?_)
      show List.lookup y ((k, a) :: l) = none
      rw [List.lookup_cons, show (y == k) = false by simpa using e]
      exact z
theorem put_lk (k : Str) (a : Value) (l : List (Str × Value)) : (fun y => if y = k then some a else l.lookup y) = fun y => ((k, a) :: l).lookup y := by
  funext y
  show _ = List.lookup y ((k, a) :: l)
  rw [List.lookup_cons]
  by_cases e : y = k
  · rw [if_pos e, show (y == k) = true by simpa using e]
  · rw [if_neg e, show (y == k) = false by simpa using e]
/-- the fields of an exception at e: no dict as yet, or one at dx -/
def FlD (h : Heap) (e L : Addr) (dd : Option Addr) (done : List (Str × Value)) : Prop := (dd = none ∧ done = []) ∨ ∃ dx, dd = some dx ∧ L < dx ∧ dx ≠ e ∧ h.Ns1 dx (fun y => done.lookup y)
theorem stores_run {K : Frag} {C e L : Addr} {m : Str → Option Value} {fv : Array Value} {cd : ClassData} {env : Env} {h0 : Heap} {Q : Flow → Shared → Prop}
    (hcd : clsIn K C = some cd)
    (X0 : K.In h0) (hKe : K.lookup e = none) (eL : e ≠ L) (hL : h0.objs.size ≤ L)
    (kf : env.scope.kind = .function) (hfr : env.locals = L) (hself : env.kindOf "self" = some .local) (hs : m "self" = some (.ref e)) :
    ∀ (ss : List StQ) (us : List Value) (done : List (Str × Value)) (dd : Option Addr) (h : Heap) (t : Nat), (ss ≠ [] → refsVE cd.mro = true ∧ cd.hasDict = true ∧ findIn K (.ref C) "__setattr__" = some (some (.builtin "object.__setattr__"))) → ss.length = us.length →
      (∀ q ∈ ss.zip us, findIn K (.ref C) q.1.1 = some none ∧ env.kindOf q.1.2.1 = some .local ∧ m q.1.2.1 = some q.2 ∧ (q.1.2.1 == ("__debug__" : Str)) = false) →
      (∀ b o, b ≠ e → h0.get? b = some o → h.get? b = some o) → h.Ns L m → h.get? e = some { cls := .ref C, dict := dd, data := .fields fv } → FlD h e L dd done → done.length + ss.length ≤ 900 →
      (∀ h' t' dd', (∀ b o, b ≠ e → h0.get? b = some o → h'.get? b = some o) → h'.get? e = some { cls := .ref C, dict := dd', data := .fields fv } → FlD h' e L dd' (zipR (ss.map (·.1)) us done) → Q .next ⟨h', g, d, t', os⟩) →
      wpAny (model prog w) A (execs (ss.map storeS) env) Q E ⟨h, g, d, t, os⟩
  | [], [], done, dd, h, t, _, _, _, k, hn, he, hf, _, hq => wpAny_execs_nil (hq h t dd k he hf)
  | [], _ :: _, _, _, _, _, _, hl, _, _, _, _, _, _, _ => by cases hl
  | _ :: _, [], _, _, _, _, _, hl, _, _, _, _, _, _, _ => by cases hl
  | q :: ss, u :: us, done, dd, h, t, hst, hl, hqs, k, hn, he, hf, hz, hq => by
    obtain ⟨hm, hh, sa⟩ := hst (by simp)
    obtain ⟨n1, n2, n3, n4⟩ := hqs (q, u) (by simp)
    have X : K.In h := fun a o z => k a o (fun y => by rw [y, hKe] at z; cases z) (X0 a o z)
    refine wpAny_execs_cons (plainObj_wpAny_Assign_Attribute ?_)
    refine wpAny_Name (wpAny_loadName_local kf n2 (by rw [hfr]; exact hn) n3 ?_) n4
    refine wpAny_Name (wpAny_loadName_local kf hself (by rw [hfr]; exact hn) hs ?_) (by decide)
    have hs' : ss.length = us.length := by simpa using hl
    have hz' : done.length + 1 + ss.length ≤ 900 := by simp only [List.length_cons] at hz; omega
    rcases hf with ⟨rfl, rfl⟩ | ⟨dx, rfl, f1, f2, f3⟩
    · refine set_plain X (ox := { cls := .ref C, dict := none, data := .fields fv }) (od := none) ⟨he, rfl, rfl, trivial⟩ sa ?_
      refine exc_osa X he hcd hm hh n1 (fun h' tk' dx k' dn dne hx hns => ?_)
      refine stores_run hcd X0 hKe eL hL kf hfr hself hs ss us [(q.1, u)] (some dx) h' _ (fun _ => ⟨hm, hh, sa⟩) hs' (fun p hp => hqs p (by simp [hp])) (fun b o hb z => k' b o hb (k b o hb z)) (hn.at fun o z => k' L o (Ne.symm eL) z) hx (.inr ⟨dx, rfl, Nat.lt_of_lt_of_le hn.lt dn, dne, ?_⟩) (by simpa using hz') hq
      rw [← put_lk]
      exact hns
    · obtain ⟨oD, _, _, hoD, _, _⟩ := f3.count (within_lk done)
      refine set_plain X (ox := { cls := .ref C, dict := some dx, data := .fields fv }) (od := some oD) ⟨he, rfl, rfl, hoD⟩ sa ?_
      refine PySem.OEX.osa_old X he f3 (within_lk done) (by rw [List.length_map]; omega) hcd hm hh n1 (fun h' tk' k' hns => ?_)
      refine stores_run hcd X0 hKe eL hL kf hfr hself hs ss us ((q.1, u) :: done) (some dx) h' _ (fun _ => ⟨hm, hh, sa⟩) hs' (fun p hp => hqs p (by simp [hp])) (fun b o hb z => k' b o ?_ (k b o hb z)) (hn.at fun o z => k' L o (Nat.ne_of_lt f1) z) (k' e _ (Ne.symm f2) he) (.inr ⟨dx, rfl, f1, f2, ?_⟩) (by simpa using hz') hq
      · have hb' : b < h0.objs.size := Heap.lt_size z
        exact Nat.ne_of_lt (Nat.lt_of_lt_of_le hb' (Nat.le_trans hL (Nat.le_of_lt f1)))
      · rw [← put_lk]
        exact hns
variable {h : Heap} {t : Nat}
/-- the own __init__ with its stores, run -/
theorem init_run {K : Frag} {mg : Str → Option Value} {C fI cc cda e t0 : Addr} {name qual : Str} {ar : Arg} {ss : List StQ} {us : List Value} {bs : List (Str × Value)} {params : Arguments} {scope : Scope} {dV kV doc pm ct oc ccl cl : Value} {an od cdd cld : Option Addr} {osl ccs csl : Array (Option Value)} {txt : Str} {p0 p1 p2 p3 p4 pos : Pos} {k0 : Nat}
    {vs : Array Value} {file : Str} {tf : Tok} {cd : ClassData} {R : Result → Shared → Prop} (X : K.In h) (glob : h.Ns mainGlobals mg) (hsup : mg "super" = none) (blt : ∃ mb, h.Ns builtinsNs mb ∧ ∀ x : Str, x ≠ "__name__" → mb x = bootBuiltins x) (lim : h.NoLimit) (hroom : A.depth < recursionLimit)
    (q : excInitIn K C PySem.HandSPX.veTail "ValueError.__new__" = true) (lk : K.lookup fI = some ⟨oc, od, .func (ksFn name qual params (supBodyF txt p0 p1 p2 p3 p4 pos k0 ss) scope dV kV doc pm an (.ref cda) ct cc), osl⟩) (hcd : codeIn K (.ref cda) qual = true)
    (hp : (params.posonlyargs ++ params.args).head? = some ar) (hb : ∀ s : Shared, BindsTo s (ksFn name qual params (supBodyF txt p0 p1 p2 p3 p4 pos k0 ss) scope dV kV doc pm an (.ref cda) ct cc) ⟨.ref e :: us, []⟩ bs)
    (hcode : K.lookup cda = some ⟨ccl, cdd, .fields vs, ccs⟩) (hvs : vs[2]? = some (.str file tf)) (hfile : ((prog.main.file : Str) == file) = true)
    (hcell : K.lookup cc = some ⟨cl, cld, .cell (some (.ref C)), csl⟩) (hC : clsIn K C = some cd) (hsub : mroIn K C (.ref C) = some true) (hm : ks_superIn K C C "__init__" = some (some (.builtin "ValueError.__init__"))) (hB : subIn K (.ref C) (.type "ValueError") = some true)
    (hop : nsIn K cStatics "thirdparty.any" = some none) (hks : scope.names.lookup ("super" : Str) = some .globalImplicit) (hkc : scope.names.lookup ("__class__" : Str) = some .free) (hka : scope.names.lookup ar.arg = some .local) (hk : scope.kind = .function)
    (hco : scope.isCoroutine = false) (hgen : scope.isGenerator = false) (hnc : ∀ x ∈ scope.names, x.2 ≠ .cell) (htop : (prog.main.scope.names.lookup ("super" : Str)).isSome = false)
    (he : h.get? e = some (PySem.HandSPX.excO C t0)) (eC : e ≠ C) (hev : SupCall txt p0 p1 p2 p3 p4 k0)
    (hKe : K.lookup e = none) (har : ar.arg = "self") (hloc : ∀ x ∈ bs, scope.names.lookup x.1 = some .local) (hse : bs.reverse.lookup ("self" : Str) = some (.ref e))
    (hst : ss ≠ [] → PySem.HandSPX.refsVE cd.mro = true ∧ cd.hasDict = true ∧ findIn K (.ref C) "__setattr__" = some (some (.builtin "object.__setattr__"))) (hlen : ss.length = us.length) (hl9 : ss.length ≤ 900)
    (hqs : ∀ q ∈ ss.zip us, findIn K (.ref C) q.1.1 = some none ∧ scope.names.lookup q.1.2.1 = some .local ∧ bs.reverse.lookup q.1.2.1 = some q.2 ∧ (q.1.2.1 == ("__debug__" : Str)) = false)
    (hR : ∀ h' t1 tk dd', (∀ b o, b ≠ e → h.get? b = some o → h'.get? b = some o) → h'.get? e = some { cls := .ref C, dict := dd', data := .fields #[.ref t1, .none, .none, .none, .bool false, .none] } → FlD h' e h.objs.size dd' (zipR (ss.map (·.1)) us []) → R (.ok (.ret .none)) ⟨h', g, d, tk, os⟩) :
    codeAny (model prog w) A (.call (.ref fI) ⟨.ref e :: us, []⟩) R ⟨h, g, d, t, os⟩ := by
  refine ks_codeAny_call_defAt hroom (X _ _ lk) rfl lim (codeRec_of X hcd) rfl (hb _) hnc (fun x hx => ?_) (fun h₀ hns k => ?_) hco hgen hk
  · exact hloc x hx
  · have X₀ : K.In h₀ := X.keeps k
    show PySem.wpAt (model prog w) (A.deeper (ksEnv qual scope h.objs.size fI (.ref cda) cc)) (.func (supBodyF txt p0 p1 p2 p3 p4 pos k0 ss) (ksEnv qual scope h.objs.size fI (.ref cda) cc)) (execs (supBodyF txt p0 p1 p2 p3 p4 pos k0 ss) (ksEnv qual scope h.objs.size fI (.ref cda) cc)) _ _ _
    obtain ⟨pl, hev⟩ := hev (ksEnv qual scope h.objs.size fI (.ref cda) cc)
    have hi : interactive (ksEnv qual scope h.objs.size fI (.ref cda) cc) = false := by
      show (scope.kind == .module && _) = false
      rw [hk]; rfl
    obtain ⟨mb, b1, b2⟩ := blt
    obtain ⟨oC, hC1, hC2⟩ : ∃ oC, h₀.get? C = some oC ∧ oC.data = .cls cd := by
      have hC := hC
      unfold clsIn at hC
      split at hC
      · rename_i c d cd' sl ho
        cases hC
        exact ⟨_, X₀ _ _ ho, rfl⟩
      · cases hC
    have he0 := k _ _ he
    refine ks_wpAt_execs_cons (ks_wpAt_Expr_any (ks_wpAt_MethodCall ?_ hev) hi)
    refine ks_wpAt_super_base (env := ksEnv qual scope h.objs.size fI (.ref cda) cc) hks hkc (by decide) rfl (X₀ _ _ lk) rfl hp rfl (X₀ _ _ hcode) rfl hvs hfile htop ?_
    refine ks_loadName_global hk hks (loadGlobal_builtin (env := ksEnv qual scope h.objs.size fI (.ref cda) cc) (glob.keeps k) hsup (b1.keeps k) ((b2 _ (by decide +kernel)).trans boot_super) ⟨rfl, ?_⟩)
    refine wpAny_loadName_free hk hkc rfl ⟨_, X₀ _ _ hcell, rfl⟩ ?_
    have hv : (fun x => bs.reverse.lookup x) ar.arg = some (.ref e) := by rw [har]; exact hse
    refine wpAny_loadName_local hk hka hns hv ?_
    refine ks_wpAny_isType_cls hC1 hC2 ⟨rfl, ?_⟩
    refine ks_wpAny_call_super hC1 hC2 he0 rfl (fun c z => by cases z) (looks_mroIn X₀ hsub) (fun h1 e1' k1 => ?_)
    have X1 : K.In h1 := X₀.keeps k1
    have KC : ∃ cd', clsIn K C = some cd' := ⟨_, hC⟩
    have hm' : alongIn K "__init__" ((cd.mro.dropWhile (· != .ref C)).drop 1) = some (some (.builtin "ValueError.__init__")) := by
      unfold ks_superIn at hm
      rw [hC] at hm
      exact hm
    have TI : ∀ hh : Heap, hh.get? e = some (PySem.HandSPX.excO C t0) → K.In hh → Looks (model prog w) hh (isInstance (.ref e) (.type "ValueError")) true := fun hh z zX =>
      (InstAt.type (⟨z, rfl, rfl, trivial⟩ : InstAt hh e (PySem.HandSPX.excO C t0) C none)).andThen (looks_subIn zX hB)
    refine kxs_getMethod kxs_ValueError e1' (looks_opaque X1 hop) (l₀ := cd.mro) ?_ rfl X1 hm' (TI h1 (k1 _ _ he0) X1) eC (by decide) ?_
    · exact fun A Q E s k q => wpAny_bind ((looks_clsIn X1 hC) A _ E s k (wpAny_pure q))
    · have k2 : ∀ b o, h1.get? b = some o → (h1.push (kxs_mw "ValueError.__init__" e)).get? b = some o := fun b o z => Heap.get?_push_of_some _ z
      have hu : (h1.push (kxs_mw "ValueError.__init__" e)).get? h1.objs.size = some (kxs_mw "ValueError.__init__" e) := Heap.get?_push_at rfl rfl
      have X2 : K.In (h1.push (kxs_mw "ValueError.__init__" e)) := X1.keeps k2
      have he2 := k2 _ _ (k1 _ _ he0)
      show wpAny (model prog w) _ (callWith p4 (.ref h1.objs.size) [] (backTo p4 (starEach [.Constant (.str txt) k0 p3] _)) []) _ _ _
      refine kxs_callWith (i := "ValueError.__init__") (x := e) rfl (evalArgs_plain (spliced_more (Constant_str (spliced_none ⟨hu, ?_⟩))))
      refine call_mw X2 q hu he2 (by show 1 ≤ sizeLine; decide) fun h' t1 kk ee => ?_
      have eL : e ≠ h.objs.size := Nat.ne_of_lt (Heap.lt_size he)
      refine wpAt_of_wpAny (stores_run (fv := #[.ref t1, .none, .none, .none, .bool false, .none]) (env := ksEnv qual scope h.objs.size fI (.ref cda) cc) (L := h.objs.size) (m := fun x => bs.reverse.lookup x) hC X hKe eL (Nat.le_refl _) hk rfl (by rw [← har]; exact hka) hse ss us [] none h' _ hst hlen hqs (fun b o hb z => kk b o hb (k2 _ _ (k1 _ _ (k _ _ z)))) (hns.at fun o z => kk _ o (Ne.symm eL) (k2 _ _ (k1 _ _ z))) ee (.inl ⟨rfl, rfl⟩) (by simpa using hl9) fun h2 t2 dd2 z1 z2 z3 => ?_)
      exact hR h2 t1 _ dd2 z1 z2 z3
end

/-- what the written part says of such a class -/
structure SupF (P : Program) (K : Fg) (C fI cc cda : Addr) (name qual : Str) (params : Arguments) (scope : Scope) (txt : Str) (p0 p1 p2 p3 p4 pos : Pos) (k0 : Nat) (ss : List StQ) : Prop where
  ini : PySem.W.excInitIn K C PySem.HandSPX.veTail "ValueError.__new__" = true
  fun_ : ∃ (oc kV doc pm ct : Value) (od an : Option Addr) (osl : Array (Option Value)), K.lookup fI = some ⟨oc, od, .func (PySem.W.ksFn name qual params (supBodyF txt p0 p1 p2 p3 p4 pos k0 ss) scope .none kV doc pm an (.ref cda) ct cc), osl⟩
  code : PySem.W.codeIn K (.ref cda) qual = true
  par : (params.posonlyargs ++ params.args).head?.map (·.arg) = some "self"
  binds : ∀ (kV doc pm ct : Value) (an : Option Addr) (a : Value) (us : List Value) (s : Shared), us.length = ss.length → BindsTo s (PySem.W.ksFn name qual params (supBodyF txt p0 p1 p2 p3 p4 pos k0 ss) scope .none kV doc pm an (.ref cda) ct cc) ⟨a :: us, []⟩ ((("self" : Str), a) :: (ss.map (·.2.1)).zip us)
  bself : ∀ (a : Value) (us : List Value), us.length = ss.length → ((("self" : Str), a) :: (ss.map (·.2.1)).zip us).reverse.lookup ("self" : Str) = some a
  bpar : ∀ (a : Value) (us : List Value), us.length = ss.length → ∀ q ∈ ss.zip us, ((("self" : Str), a) :: (ss.map (·.2.1)).zip us).reverse.lookup q.1.2.1 = some q.2
  bloc : ∀ p ∈ ("self" : Str) :: ss.map (·.2.1), scope.names.lookup p = some .local
  bdb : ∀ q ∈ ss, (q.2.1 == ("__debug__" : Str)) = false
  nof : ∀ q ∈ ss, PySem.W.findIn K (.ref C) q.1 = some none
  few : ss.length ≤ 900
  file : ∃ (ccl : Value) (cdd : Option Addr) (vs : Array Value) (ccs : Array (Option Value)) (file : Str) (tf : Tok), K.lookup cda = some ⟨ccl, cdd, .fields vs, ccs⟩ ∧ vs[2]? = some (.str file tf) ∧ ((P.main.file : Str) == file) = true
  cell : ∃ (cl : Value) (cld : Option Addr) (csl : Array (Option Value)), K.lookup cc = some ⟨cl, cld, .cell (some (.ref C)), csl⟩
  cls : ∃ cd, PySem.W.clsIn K C = some cd ∧ (ss ≠ [] → PySem.HandSPX.refsVE cd.mro = true ∧ cd.hasDict = true ∧ PySem.W.findIn K (.ref C) "__setattr__" = some (some (.builtin "object.__setattr__")))
  sub : PySem.W.mroIn K C (.ref C) = some true
  sup : PySem.W.ks_superIn K C C "__init__" = some (some (.builtin "ValueError.__init__"))
  subB : PySem.W.subIn K (.ref C) (.type "ValueError") = some true
  iC : PySem.W.findIn K (.ref C) "__init__" = some (some (.ref fI))
  tI : PySem.W.typeIn K (.ref fI) = some (.type "function")
  kC : PySem.W.keepIn K (.ref C) = true
  op : PySem.W.nsIn K cStatics "thirdparty.any" = some none
  ks : scope.names.lookup ("super" : Str) = some .globalImplicit
  kc : scope.names.lookup ("__class__" : Str) = some .free
  kind : scope.kind = .function
  co : scope.isCoroutine = false
  gen : scope.isGenerator = false
  nc : ∀ x ∈ scope.names, x.2 ≠ .cell
  top : (P.main.scope.names.lookup ("super" : Str)).isSome = false
  ev : SupCall txt p0 p1 p2 p3 p4 k0
/-- an own class as one makes its objects -/
structure ExF (P : Program) (K : Fg) (n : Str) (fs : List Str) (C : Addr) : Prop where
  nm : PySem.W.nsIn K mainGlobals n = some (some (.ref C))
  sup : ∃ (fI cc cda : Addr) (name qual : Str) (params : Arguments) (scope : Scope) (txt : Str) (p0 p1 p2 p3 p4 pos : Pos) (k0 : Nat) (ss : List StQ), SupF P K C fI cc cda name qual params scope txt p0 p1 p2 p3 p4 pos k0 ss ∧ ss.map (·.1) = fs
theorem zipR_keys {α β : Type} : ∀ (fs : List Str) (as : List α) (bs : List β) (x : List (Str × α)) (y : List (Str × β)), as.length = bs.length → x.map (·.1) = y.map (·.1) → (zipR fs as x).map (·.1) = (zipR fs bs y).map (·.1)
  | [], _, _, _, _, _, h => by simpa [zipR] using h
  | _ :: _, [], [], _, _, _, h => by simpa [zipR] using h
  | _ :: _, [], _ :: _, _, _, e, _ => by cases e
  | _ :: _, _ :: _, [], _, _, e, _ => by cases e
  | k :: ks, a :: as, b :: bs, x, y, e, h => by
    simp only [zipR]
    exact zipR_keys ks as bs _ _ (by simpa using e) (by simp [h])
theorem zipR_rp {K : Fg} {H : Hp} : ∀ (fs : List Str) (ds : List D) (vs : List V) (x : List (Str × D)) (y : List (Str × V)), RpL K H ds vs → RpL K H (x.map (·.2)) (y.map (·.2)) → RpL K H ((zipR fs ds x).map (·.2)) ((zipR fs vs y).map (·.2))
  | [], _, _, _, _, _, h => by simpa [zipR] using h
  | _ :: _, _, _, _, _, .nil, h => by simpa [zipR] using h
  | k :: ks, _, _, x, y, .cons r rs, h => by
    simp only [zipR]
    exact zipR_rp ks _ _ _ _ rs (.cons r h)
theorem zipR_rel : ∀ (fs : List Str) (vs : List V) (us : List Value) (x : List (Str × V)) (y : List (Str × Value)), Vals vs us → (∀ f, RelO (x.lookup f) (y.lookup f)) → ∀ f, RelO ((zipR fs vs x).lookup f) ((zipR fs us y).lookup f)
  | [], _, _, _, _, _, h => by simpa [zipR] using h
  | _ :: _, _, _, _, _, .nil, h => by simpa [zipR] using h
  | k :: ks, _, _, x, y, .cons r rs, h => by
    simp only [zipR]
    refine zipR_rel ks _ _ _ _ rs fun f => ?_
    have q := relO_put (f := k) r h f
    exact Eq.mp (congrArg (RelO _) (congrFun (put_lk k _ y) f)) q
theorem zip_self {α : Type} : ∀ l : List (Str × α), (l.map (·.1)).zip (l.map (·.2)) = l
  | [] => rfl
  | p :: l => by simp [zip_self l]
theorem excAt_ok {P : Program} {w : World} {H : Hp} {h : Heap} {e C : Addr} {dd : Option Addr} {vs : Array Value} (he : h.get? e = some { cls := .ref C, dict := dd, data := .fields vs }) : ObjOk P w H h e (.ext (ExcAt e C dd)) :=
  ⟨⟨vs, he⟩, ⟨_, he⟩, fun h1 h2 z k => by
    obtain ⟨t, q⟩ := z
    exact ⟨t, k _ q⟩⟩
section
variable {X : Cx} {pins : List (Addr × Obj)} {σ : Sg} {H : Hp} {s : Shared} {n : Str} {fs : List Str} {C : Addr}
theorem call_new (S0 : ExF X.prog X.K n fs C) (I : Inv X pins σ H s) (hr : Room 1 X.A) (hsup : X.mg "super" = none) {us : List Value} {vs : List V} (r : Vals vs us) (hl : us.length = fs.length) {Q : VK}
    (hq : ∀ a dd H', (∀ Hs, Same Hs H → ∃ Hs', Ext Hs H Hs' H' ∧ Hs' a = some (.ext (ExcAt a C dd)) ∧ FldOk Hs' dd ((zipR fs vs []).map (·.1)) ((zipR fs vs []).map (·.2))) → Q (.ref a) H') :
    wpAny (model X.prog X.w) X.A (call (.ref C) us) (EP X pins σ Q) X.xe s := by
  obtain ⟨fI, cc, cda, name, qual, params, scope, txt, p0, p1, p2, p3, p4, pos, k0, ss, S, rfl⟩ := S0.sup
  have hlu : us.length = ss.length := by simpa using hl
  have few : us.length ≤ sizeLine := by rw [hlu, sizeLine_eq]; have := S.few; omega
  obtain ⟨hp, g, dr, tk, os⟩ := s
  obtain ⟨nm, N', qn, bs, bm, hdct, sn, sub, ab, col, dd0, k0', k1, k2, k3, k5, hC, hT⟩ := PySem.W.excInit_of I.kIn S.ini
  refine wpAny_call (PySem.HandSPX.call_own F.excBase_ValueError hT hC (PySem.W.looks_findIn I.kIn S.iC) (fun self => PySem.W.bind_fn I.kIn self S.tI) few ?_)
  obtain ⟨oc, kV, doc, pm, ct, od, an, osl, lk⟩ := S.fun_
  obtain ⟨ccl, cdd, cvs, ccs, file, tf, f1, f2, f3⟩ := S.file
  obtain ⟨cl, cld, csl, c1⟩ := S.cell
  obtain ⟨cd, hcd, hst⟩ := S.cls
  obtain ⟨ar, ha, har⟩ := Option.map_eq_some_iff.mp S.par
  have kk0 : ∀ b o, hp.get? b = some o → ((hp.push (PySem.W.kdv_tup us)).push (PySem.HandSPX.excO C hp.objs.size)).get? b = some o := fun b o e => Heap.get?_push_of_some _ (Heap.get?_push_of_some _ e)
  have hget : ((hp.push (PySem.W.kdv_tup us)).push (PySem.HandSPX.excO C hp.objs.size)).get? (hp.objs.size + 1) = some (PySem.HandSPX.excO C hp.objs.size) := by heap_get
  have lt : ∀ b o, hp.get? b = some o → b ≠ hp.objs.size + 1 := fun b o e z => by
    have h1 : b < hp.objs.size := Heap.lt_size e
    rw [z] at h1
    exact absurd h1 (Nat.not_lt.mpr (Nat.le_succ _))
  have hKe : X.K.lookup (hp.objs.size + 1) = none := by
    cases z : X.K.lookup (hp.objs.size + 1) with
    | none => rfl
    | some o => exact absurd rfl (lt _ _ (I.kIn _ _ z))
  obtain ⟨mb, b1, b2⟩ := I.mod.blt
  refine init_run (K := X.K) (mg := X.mg) (C := C) (ar := ar) (us := us) (bs := (("self" : Str), .ref (hp.objs.size + 1)) :: (ss.map (·.2.1)).zip us) (I.kIn.keeps kk0) ((I.mod.glob.keeps I.bk).keeps kk0) hsup ⟨mb, (b1.keeps I.bk).keeps kk0, b2⟩ ((I.nolimit).keeps kk0) (hr.make C us []).depth S.ini lk S.code ha (fun s => S.binds _ _ _ _ _ _ _ s hlu) f1 f2 f3 c1 hcd S.sub S.sup S.subB S.op S.ks S.kc (by rw [har]; exact S.bloc _ (by simp)) S.kind S.co S.gen S.nc S.top hget (fun z => lt C _ hC z.symm) S.ev hKe har ?_ (S.bself _ _ hlu) hst hlu.symm S.few ?_ fun h' t1 tk' dd' kk ee fl => ?_
  · intro x hx
    rcases List.mem_cons.mp hx with rfl | hx
    · exact S.bloc _ (by simp)
    · exact S.bloc _ (List.mem_cons_of_mem _ (List.of_mem_zip (show (x.1, x.2) ∈ _ from hx)).1)
  · intro q hq'
    have hm : q.1 ∈ ss := (List.of_mem_zip (show (q.1, q.2) ∈ _ from hq')).1
    exact ⟨S.nof _ hm, S.bloc _ (List.mem_cons_of_mem _ (List.mem_map.mpr ⟨q.1, hm, rfl⟩)), S.bpar _ _ hlu _ hq', S.bdb _ hm⟩
  · refine ⟨rfl, ?_⟩
    have keep : ∀ b o, hp.get? b = some o → h'.get? b = some o := fun b o e => kk b o (lt b o e) (kk0 b o e)
    have hH : H (hp.objs.size + 1) = none := I.hok.fresh (Nat.le_succ _)
    rcases fl with ⟨rfl, fe⟩ | ⟨dx, rfl, d1, d2, d3⟩
    · have J := I.laid (t' := tk') (a := hp.objs.size + 1) (o := .ext (ExcAt (hp.objs.size + 1) C none)) keep (Nat.le_succ _) (excAt_ok ee)
      refine ⟨.ref (hp.objs.size + 1), _, J, rfl, hq _ none _ fun Hs sub => ⟨upd Hs (hp.objs.size + 1) (.ext (ExcAt (hp.objs.size + 1) C none)), .new sub hH, upd_same, .inl ⟨?_, rfl⟩⟩⟩
      have q := congrArg (·.map (·.1)) fe
      rw [zipR_keys (ss.map (·.1)) vs us [] [] (r.length) rfl]
      exact q
    · have hdb : hp.objs.size ≤ dx := by
        have z := d1
        rw [Heap.size_push, Heap.size_push] at z
        exact Nat.le_trans (Nat.le_trans (Nat.le_succ _) (Nat.le_succ _)) (Nat.le_of_lt z)
      have hd : H dx = none := I.hok.fresh hdb
      obtain ⟨G', g1, g2⟩ := restrict h' fun b => decide (b ≠ hp.objs.size + 1)
      have gk : ∀ b, b ≠ hp.objs.size + 1 → G'.get? b = h'.get? b := fun b hb => g1 b (decide_eq_true hb)
      have ge : G'.get? (hp.objs.size + 1) = none := g2 _ (by simp)
      have kv : (((zipR (ss.map (·.1)) vs []).map (·.1)).zip ((zipR (ss.map (·.1)) vs []).map (·.2))) = zipR (ss.map (·.1)) vs [] := zip_self _
      have ob : ObjOk X.prog X.w (upd H dx (.xd (zipR (ss.map (·.1)) vs []))) G' dx (.xd (zipR (ss.map (·.1)) vs [])) :=
        ⟨_, d3.at (fun o q => (gk dx d2).trans q), zipR_rel _ _ _ _ _ r fun f => True.intro⟩
      have J1 := I.laid (t' := tk') (h' := G') (a := dx) (o := .xd (zipR (ss.map (·.1)) vs [])) (fun b o q => (gk b (lt b o q)).trans (keep b o q)) hdb ob
      have hH2 : upd H dx (.xd (zipR (ss.map (·.1)) vs [])) (hp.objs.size + 1) = none := by rw [upd_ne (Ne.symm d2)]; exact hH
      have J := J1.laidN (t' := tk') (h' := h') (a := hp.objs.size + 1) (o := .ext (ExcAt (hp.objs.size + 1) C (some dx))) (fun b o q => by
        by_cases hb : b = hp.objs.size + 1
        · have q' : G'.get? b = some o := q
          rw [hb, ge] at q'; cases q'
        · exact (gk b hb).symm.trans q) ge hH2 (excAt_ok ee)
      refine ⟨.ref (hp.objs.size + 1), _, J, rfl, hq _ (some dx) _ fun Hs sub => ?_⟩
      have e1' := Ext.new (Hs := Hs) (H := H) (p := dx) (o := .xd (zipR (ss.map (·.1)) vs [])) sub hd
      have e2' := Ext.new (p := hp.objs.size + 1) (o := .ext (ExcAt (hp.objs.size + 1) C (some dx))) e1'.sub hH2
      refine ⟨_, e1'.trans e2', upd_same, .inr ⟨dx, rfl, ?_⟩⟩
      rw [kv, upd_ne d2, upd_same]
end
end VL

set_option Elab.async false
set_option linter.all false
set_option maxRecDepth 100000
set_option maxHeartbeats 1000000
set_option autoImplicit false
namespace VL
open PySem PySem.Spec PySem.Calls PyProof.Rows L2

/-! ### C(), C(e, ..) -/
def newD (n : Str) (fs : List Str) (ds : List D) : D := xoD n ((zipR fs ds []).map (·.1)) ((zipR fs ds []).map (·.2))
def eNew (n : Str) (fs : List Str) (g : Ev → R (List D)) : Ev → R D := fun ρ => (g ρ).bind fun ds => if ds.length = fs.length then .ok (newD n fs ds) else .bad
section
variable {X : Cx} {W : WX} {x n : Str} {fs : List Str} {C : Addr} {p pos : Pos} {e : Expr} {es : List Expr} {g : Ev → R (List D)}
theorem new_end (S : ExF X.prog X.K n fs C) (hr : Room 1 X.A) (hsup : X.mg "super" = none) {pins : List (Addr × Obj)} {σ : Sg} {H Hs : Hp} {s : Shared} {Q : VK} (I : Inv X pins σ H s) {us : List Value} {vs : List V} {ds : List D} (r : Vals vs us) (sub : Same Hs H) (hv : RpL X.K Hs ds vs)
    (h : Post X.K X.mg W Hs H σ (if ds.length = fs.length then R.ok (newD n fs ds) else .bad) (fun d Hs' H' => ∀ v, Rp X.K Hs' d v → Q v H')) : wpAny (model X.prog X.w) X.A (call (.ref C) us) (EP X pins σ Q) X.xe s := by
  split at h
  case isFalse => exact h.elim
  case isTrue hl =>
    have lv : vs.length = ds.length := hv.length.symm
    refine call_new S I hr hsup r (r.length.symm.trans (lv.trans hl)) fun a dd H' k => ?_
    obtain ⟨Hs', x1, x2, x3⟩ := k Hs sub
    refine h Hs' H' x1 _ ?_
    unfold newD
    refine .xob (a := a) (vs := (zipR fs vs []).map (·.2)) S.nm x2 ?_ ?_ ?_
    · rw [zipR_keys fs ds vs [] [] hv.length rfl]; exact x3
    · rw [zipR_keys fs ds vs [] [] hv.length rfl, List.length_map, List.length_map]
    · exact zipR_rp fs ds vs [] [] (hv.mono x1.grow) .nil
theorem v_new0 (S : ExF X.prog X.K n [] C) (hm : X.mg n = some (.ref C)) (hsup : X.mg "super" = none) {k : Nat} (hr : Room k X.A) (kC : PySem.W.keepIn X.K (.ref C) = true) (hg : Gl X n := by rfl) (hk : 1 ≤ k := by decide) (hdb : (n == ("__debug__" : Str)) = false := by decide) :
    VE X W (.Call (.Name n p) [] [] pos) (eNew n [] (cst [])) := by
  refine ⟨fun pins s σ H Q I h => ?_⟩
  obtain ⟨S', G, Hs, ρ, r, h⟩ := h
  refine wpAny_Call_Name_kw (ld_glob I hg hm ?_ hdb)
  refine PySem.W.callWith_K0 I.kIn kC ?_
  exact new_end S (hr.mono hk) hsup I (vs := []) (ds := []) .nil r.sub .nil h
theorem v_new (S : ExF X.prog X.K n fs C) (hm : X.mg n = some (.ref C)) (hsup : X.mg "super" = none) {k : Nat} (hr : Room k X.A) (kC : PySem.W.keepIn X.K (.ref C) = true) (ha : VA X W (e :: es) g) (hg : Gl X n := by rfl) (hk : 1 ≤ k := by decide) (hdb : (n == ("__debug__" : Str)) = false := by decide)
    (he : starEach (e :: es) X.env = (false, eval e X.env) :: starEach es X.env := by rfl) (hpl : (backTo pos (starEach es X.env)).any (·.1) = false := by rfl) :
    VE X W (.Call (.Name n p) (e :: es) [] pos) (eNew n fs g) := by
  refine ⟨fun pins s σ H Q I h => ?_⟩
  obtain ⟨S', G, Hs, ρ, r, h⟩ := h
  refine wpAny_Call_Name_kw (ld_glob I hg hm ?_ hdb)
  refine PySem.W.callWith_K (h₀ := X.base) I.ok.mod.kin kC (thn (ha.run pos pins s σ H (fun vs H1 => ∃ Hs1 ds, Same Hs1 H1 ∧ RpL X.K Hs1 ds vs ∧ Post X.K X.mg W Hs1 H1 σ (if ds.length = fs.length then R.ok (newD n fs ds) else .bad) (fun d Hs' H' => ∀ v, Rp X.K Hs' d v → Q v H')) I ⟨S', G, Hs, ρ, r, (Post.bind h).imp fun ds Hs1 H1 e q vs hv => ⟨Hs1, ds, e.sub, hv, q⟩⟩) fun us s1 hh => ?_) he hpl
  obtain ⟨vs, H1, I1, r1, Hs1, ds, sub, hv, q⟩ := hh
  exact ⟨I1.kIn, new_end S (hr.mono hk) hsup I1 r1 sub hv q⟩
end

/-! ### isinstance(x, C), x such an object -/
def xoN : D → Option Str
  | .dict [(.int 4, .str n), (.int 5, .dict _)] => some n
  | _ => none
def eIsO (t : List (Str × List Str)) (c : Str) (f : Ev → R D) : Ev → R D := fun ρ => (f ρ).bind fun d => match xoN d with
  | some n => if n ∈ t.map (·.1) then .ok (.bool (isaX t n c)) else .bad
  | none => .bad
theorem xo_inv {K : Fg} {H : Hp} {d : D} {v : V} {n : Str} (h : Rp K H d v) (e : xoN d = some n) :
    ∃ (a C : Addr) (dd : Option Addr) (ks : List Str) (vs : List V) (ds : List D), d = xoD n ks ds ∧ v = .ref a ∧ PySem.W.nsIn K mainGlobals n = some (some (.ref C)) ∧ H a = some (.ext (ExcAt a C dd)) ∧ FldOk H dd ks vs ∧ vs.length = ks.length ∧ RpL K H ds vs := by
  cases h with
  | xob c h f l r =>
    unfold xoD at e
    cases e
    exact ⟨_, _, _, _, _, _, rfl, rfl, c, h, f, l, r⟩
  | _ => first | cases e | (unfold tg at e; cases e) | (unfold tf at e; cases e) | (unfold exD at e; cases e) | (unfold dkD at e; cases e)
/-- the own dict of such an object, as it lies -/
theorem xo_at {X : Cx} {pins : List (Addr × Obj)} {σ : Sg} {H : Hp} {s : Shared} {a C : Addr} {dd : Option Addr} {ks : List Str} {vs : List V} (I : Inv X pins σ H s) (h : H a = some (.ext (ExcAt a C dd))) (f : FldOk H dd ks vs) :
    ∃ (oe : Obj) (od : Option Obj), PySem.W.InstAt s.heap a oe C od ∧ (∀ k v, (ks.zip vs).lookup k = some v → ∃ o u, od = some o ∧ PySem.W.lookIn k o = some (some u) ∧ RelV v u) := by
  have x : ObjOk X.prog X.w H s.heap a (.ext (ExcAt a C dd)) := I.hok a _ h
  obtain ⟨⟨fv, hx⟩, _, _⟩ := x
  rcases f with ⟨rfl, rfl⟩ | ⟨dx, rfl, hd⟩
  · exact ⟨_, none, ⟨hx, rfl, rfl, trivial⟩, fun k v z => (by cases z)⟩
  · have y : ObjOk X.prog X.w H s.heap dx (.xd (ks.zip vs)) := I.hok dx _ hd
    obtain ⟨mA, hns, hr⟩ := y
    obtain ⟨od, ho, hl⟩ := lookIn_ns hns
    refine ⟨_, some od, ⟨hx, rfl, rfl, ho⟩, fun k v z => ?_⟩
    obtain ⟨u, hu, ru⟩ := RelO.some_of (v := v) (o := mA k) (by rw [← z]; exact hr k)
    exact ⟨od, u, rfl, by rw [hl, hu], ru⟩
/-- isinstance(x, c), x an object of an own exception class -/
def rIsO (K : PySem.W.Frag) : List V → Hp → VK → Prop := fun xs H Q => ∃ (a C : Addr) (dd : Option Addr) (ks : List Str) (vs : List V) (c : V) (cv : Value) (b : Bool), xs = [.ref a, c] ∧ H a = some (.ext (ExcAt a C dd)) ∧ FldOk H dd ks vs ∧ ExcC K C ∧ (∀ u, RelV c u → u = cv) ∧ PySem.W.kitOne K (.ref C) cv = some b ∧ Q (.bl b) H
theorem call_isO {X : Cx} : CallR X (.builtin "isinstance") (rIsO X.K) := by
  intro pins s σ H xs us Q I r h
  obtain ⟨a, C, dd, ks, vs, c, cv, b, rfl, ha, hf, E, hcv, e, q⟩ := h
  cases r with
  | cons rx rr =>
    cases rr with
    | cons rt rr =>
      cases rr
      cases rx
      have ec := hcv _ rt
      subst ec
      obtain ⟨oe, od, J, _⟩ := xo_at I ha hf
      have hcl : (PySem.W.clsIn X.K C).isSome = true := by
        obtain ⟨cd, hc, _⟩ := PySem.W.any_some E.hd
        rw [hc]; rfl
      exact PySem.W.kia_one (PySem.W.kitx_exc hcl E.hg E.hk E.hs E.ha E.hn E.ht E.hm) I.kIn J e (fun z => nomatch z) fun tk => ⟨.bl b, H, I.kept (t' := tk) fun _ _ z => z, rfl, q⟩
theorem v_isO {X : Cx} {W : WX} {t : List (Str × List Str)} {xi cn : Str} {e c : Expr} {p1 pos : Pos} {f : Ev → R VL.D} {cV : V} {cv : Value}
    (hg : Gl X xi) (hm : X.mg xi = none) (hv : bootBuiltins xi = some (.builtin "isinstance"))
    (hk : ∀ n ∈ t.map (·.1), ∀ C, PySem.W.nsIn X.K mainGlobals n = some (some (.ref C)) → ExcC X.K C ∧ PySem.W.kitOne X.K (.ref C) cv = some (isaX t n cn))
    (ha : VP X W e f) (hc : PE X c (tC cV)) (hcv : ∀ u, RelV cV u → u = cv)
    (hn : xi ≠ "__name__" := by decide) (hdb : (xi == ("__debug__" : Str)) = false := by decide)
    (he : starEach [e, c] X.env = (false, eval e X.env) :: starEach [c] X.env := by rfl) (hpl : (backTo pos (starEach [c] X.env)).any (·.1) = false := by rfl) (he2 : starEach [c] X.env = (false, eval c X.env) :: starEach [] X.env := by rfl) :
    VE X W (.Call (.Name xi p1) [e, c] [] pos) (eIsO t cn f) := by
  refine PE.imp (pe_callB call_isO hg hm hv (pa_cons ha (pa_cons hc pa_nil he2) he) hn hdb he hpl) fun σ H Q ⟨S, G, Hs, ρ, r, p⟩ => ?_
  refine ⟨S, G, Hs, ρ, r, (Post.bind p).imp fun d Hs1 H1 e q u hu => ?_⟩
  cases z : xoN d with
  | none => simp only [z] at q; exact q.elim
  | some n =>
    simp only [z] at q
    by_cases hn : n ∈ t.map (·.1)
    · rw [if_pos hn] at q
      have hr : Rp X.K Hs1 d u := by
        rcases hu with hu | ⟨l, _, _, w, _⟩
        · exact hu
        · subst w; cases z
      obtain ⟨a, C, dd, ks, vs, ds, _, rfl, c1, c2, c3, c4, c5⟩ := xo_inv hr z
      obtain ⟨k1, k2⟩ := hk n hn C c1
      exact ⟨a, C, dd, ks, vs, cV, cv, _, rfl, e.sub _ _ c2, c3.mono e.sub, k1, hcv, k2, q.now e.sub _ (.bl _)⟩
    · rw [if_neg hn] at q; exact q.elim

/-! ### x.f -/
def selF : List Str → List D → Str → Option D
  | k :: ks, d :: ds, f => if f = k then some d else selF ks ds f
  | _, _, _ => none
def fldD (n f : Str) (d : D) : Option D := match d with
  | .dict [(.int 4, .str m), (.int 5, .dict l)] => if m = n then (keysOf l).bind fun p => selF p.1 p.2 f else none
  | _ => none
def eFld (n f : Str) (g : Ev → R D) : Ev → R D := fun ρ => (g ρ).bind fun d => match fldD n f d with
  | some x => .ok x
  | none => .bad
theorem selF_rp {K : Fg} {H : Hp} : ∀ {ks : List Str} {ds : List D} {vs : List V} {f : Str} {d : D}, RpL K H ds vs → selF ks ds f = some d → ∃ v, (ks.zip vs).lookup f = some v ∧ Rp K H d v
  | [], _, _, _, _, _, h => by simp [selF] at h
  | _ :: _, _, _, _, _, .nil, h => by simp [selF] at h
  | k :: ks, _, _, f, d, .cons r rs, h => by
    simp only [selF] at h
    simp only [List.zip_cons_cons]
    by_cases e : f = k
    · rw [if_pos e] at h
      cases h
      exact ⟨_, by rw [lookup_put, if_pos e], r⟩
    · rw [if_neg e] at h
      obtain ⟨v, h1, h2⟩ := selF_rp rs h
      exact ⟨v, by rw [lookup_put, if_neg e]; exact h1, h2⟩
theorem v_fld {X : Cx} {W : WX} {n f : Str} {C : Addr} {e : Expr} {pos : Pos} {g : Ev → R VL.D} (hnm : PySem.W.nsIn X.K mainGlobals n = some (some (.ref C))) (E : ExcC X.K C) (nof : PySem.W.findIn X.K (.ref C) f = some none) (he : VP X W e g)
    (hb : attributeBase e f X.env (eval e X.env) = eval e X.env := by rfl) : VE X W (.Attribute e f pos) (eFld n f g) := by
  refine ⟨fun pins s σ H Q I h => ?_⟩
  obtain ⟨S', G, Hs, ρ, r, h⟩ := h
  refine attr_of hb (thn (he.run pins s σ H (fun u H1 => ∃ Hs1 d, Same Hs1 H1 ∧ Pk X.K Hs1 H1 d u ∧ Post X.K X.mg W Hs1 H1 σ (match fldD n f d with | some x => R.ok x | none => .bad) (fun d Hs' H' => ∀ v, Rp X.K Hs' d v → Q v H')) I ⟨S', G, Hs, ρ, r, (Post.bind h).imp fun d Hs1 H1 e q v hv => ⟨Hs1, d, e.sub, hv, q⟩⟩) fun u s1 hh => ?_)
  obtain ⟨v, H1, I1, r1, Hs1, d, sub, hv, q⟩ := hh
  cases z : fldD n f d with
  | none => simp only [z] at q; exact q.elim
  | some x =>
    simp only [z] at q
    unfold fldD at z
    split at z
    case h_2 => cases z
    case h_1 m l =>
      split at z
      case isFalse => cases z
      case isTrue hmn =>
        subst hmn
        have hr : Rp X.K Hs1 (.dict [(.int 4, .str m), (.int 5, .dict l)]) v := by
          rcases hv with hv | ⟨l, _, _, w, _⟩
          · exact hv
          · cases w
        obtain ⟨a, C', dd, ks, vs, ds, ed, rfl, c1, c2, c3, c4, c5⟩ := xo_inv (n := m) hr rfl
        obtain rfl : C' = C := by rw [hnm] at c1; cases c1; rfl
        unfold xoD at ed
        injection ed with ed
        injection ed with _ ed
        injection ed with ed _
        injection ed with _ ed
        injection ed with ed
        subst ed
        rw [keysOf_zip (c5.length.trans c4)] at z
        obtain ⟨w, w1, w2⟩ := selF_rp c5 z
        obtain ⟨oe, od, J, j1⟩ := xo_at I1 (sub _ _ c2) (c3.mono sub)
        obtain ⟨o, u', rfl, hu', ru⟩ := j1 f w w1
        obtain rfl : u = Value.ref a := r1
        exact HandSPX.exc_get I1.kIn J E.hg E.hk E.hs (PySem.W.findObj_own E.hd nof rfl hu') (handed_of ru) ⟨w, H1, I1.tok _, ru, q.now sub _ w2⟩

/-! ### rows -/
@[simp] theorem r_eNew (n : Str) (fs : List Str) (g : Ev → R (List D)) (ρ : Ev) : eNew n fs g ρ = (g ρ).bind fun ds => if ds.length = fs.length then .ok (newD n fs ds) else .bad := rfl
@[simp] theorem r_xoN (n : Str) (fs : List Str) (ds : List D) : xoN (newD n fs ds) = some n := rfl
theorem r_eIsO {t : List (Str × List Str)} {c n : Str} {f : Ev → R D} {ρ : Ev} {d : D} (h : f ρ = .ok d) (hn : xoN d = some n) (ht : n ∈ t.map (·.1)) : eIsO t c f ρ = .ok (.bool (isaX t n c)) := by
  unfold eIsO
  rw [h]
  show (match xoN d with | some n => _ | none => _) = _
  simp only [hn, if_pos ht]
end VL

set_option Elab.async false
set_option linter.all false
set_option maxRecDepth 100000
set_option maxHeartbeats 1000000
set_option autoImplicit false
namespace VL
open PySem PySem.Spec PyProof.Rows L2
/-- an own class as one makes its objects, and asks of what class they are -/
structure ExO (P : Program) (K : Fg) (n : Str) (fs : List Str) (C : Addr) : Prop where
  f : ExF P K n fs C
  exc : ExcC K C
theorem ExO.kC {P : Program} {K : Fg} {n : Str} {fs : List Str} {C : Addr} (S : ExO P K n fs C) : PySem.W.keepIn K (.ref C) = true := by
  obtain ⟨_, _, _, _, _, _, _, _, _, _, _, _, _, _, _, _, s, _⟩ := S.f.sup
  exact s.kC
theorem ExO.nof {P : Program} {K : Fg} {n : Str} {fs : List Str} {C : Addr} (S : ExO P K n fs C) {f : Str} (hf : f ∈ fs) : PySem.W.findIn K (.ref C) f = some none := by
  obtain ⟨_, _, _, _, _, _, _, _, _, _, _, _, _, _, _, ss, s, rfl⟩ := S.f.sup
  obtain ⟨q, hq, rfl⟩ := List.mem_map.mp hf
  exact s.nof q hq
section
variable {P : Program} {K : Fg} {n : Str} {C fI cc cda : Addr} {name qual : Str} {params : Arguments} {scope : Scope} {txt : Str} {p0 p1 p2 p3 p4 pos : Pos} {k0 : Nat} {ss : List StQ}
  {oc kV doc pm ct ccl ccv : Value} {od an cdd cld : Option Addr} {osl ccs csl : Array (Option Value)} {vs : Array Value} {file : Str} {tf : Tok} {cd : ClassData}
theorem exO_mk (nm : PySem.W.nsIn K mainGlobals n = some (some (.ref C))) (iC : PySem.W.findIn K (.ref C) "__init__" = some (some (.ref fI))) (tI : PySem.W.typeIn K (.ref fI) = some (.type "function"))
    (lk : K.lookup fI = some ⟨oc, od, .func (PySem.W.ksFn name qual params (supBodyF txt p0 p1 p2 p3 p4 pos k0 ss) scope .none kV doc pm an (.ref cda) ct cc), osl⟩) (code : PySem.W.codeIn K (.ref cda) qual = true)
    (lc : K.lookup cda = some ⟨ccl, cdd, .fields vs, ccs⟩) (fil : vs[2]? = some (.str file tf)) (fe : ((P.main.file : Str) == file) = true) (lcell : K.lookup cc = some ⟨ccv, cld, .cell (some (.ref C)), csl⟩)
    (ini : PySem.W.excInitIn K C PySem.HandSPX.veTail "ValueError.__new__" = true) (cl : PySem.W.clsIn K C = some cd) (rv : PySem.HandSPX.refsVE cd.mro = true) (hdc : cd.hasDict = true) (sa : PySem.W.findIn K (.ref C) "__setattr__" = some (some (.builtin "object.__setattr__")))
    (sub : PySem.W.mroIn K C (.ref C) = some true) (sup : PySem.W.ks_superIn K C C "__init__" = some (some (.builtin "ValueError.__init__")))
    (subB : PySem.W.subIn K (.ref C) (.type "ValueError") = some true) (exC : PySem.W.subIn K (.ref C) (.type "BaseException") = some true) (kC : PySem.W.keepIn K (.ref C) = true)
    (op : PySem.W.nsIn K cStatics "thirdparty.any" = some none)
    (hg : PySem.W.findIn K (.ref C) "__getattribute__" = some (some (.builtin "BaseException.__getattribute__"))) (hk : PySem.W.findIn K (.ref C) "__getattr__" = some none) (hd : PySem.W.hasDictIn K C = true)
    (ha : PySem.W.findIn K (.ref C) "__class__" = some (some (.builtin "object.__class__"))) (hn : PySem.W.specialIn K (.builtin "object.__class__") "__get__" = some (some (.builtin "getset_descriptor.__get__")))
    (ht : PySem.W.takesIn K (.builtin "object.__class__") = some true) (hm : PySem.W.mroIn K C (.type "object") = some true)
    (nof : ∀ q ∈ ss, PySem.W.findIn K (.ref C) q.1 = some none)
    (par : (params.posonlyargs ++ params.args).head?.map (·.arg) = some "self")
    (binds : ∀ (kV doc pm ct : Value) (an : Option Addr) (a : Value) (us : List Value) (s : Shared), us.length = ss.length → BindsTo s (PySem.W.ksFn name qual params (supBodyF txt p0 p1 p2 p3 p4 pos k0 ss) scope .none kV doc pm an (.ref cda) ct cc) ⟨a :: us, []⟩ ((("self" : Str), a) :: (ss.map (·.2.1)).zip us))
    (bself : ∀ (a : Value) (us : List Value), us.length = ss.length → ((("self" : Str), a) :: (ss.map (·.2.1)).zip us).reverse.lookup ("self" : Str) = some a)
    (bpar : ∀ (a : Value) (us : List Value), us.length = ss.length → ∀ q ∈ ss.zip us, ((("self" : Str), a) :: (ss.map (·.2.1)).zip us).reverse.lookup q.1.2.1 = some q.2)
    (bloc : ∀ p ∈ ("self" : Str) :: ss.map (·.2.1), scope.names.lookup p = some .local)
    (bdb : ∀ q ∈ ss, (q.2.1 == ("__debug__" : Str)) = false) (few : ss.length ≤ 900)
    (ks : scope.names.lookup ("super" : Str) = some .globalImplicit) (kc : scope.names.lookup ("__class__" : Str) = some .free) (kind : scope.kind = .function) (co : scope.isCoroutine = false) (gen : scope.isGenerator = false)
    (nc : ∀ x ∈ scope.names, x.2 ≠ .cell) (top : (P.main.scope.names.lookup ("super" : Str)).isSome = false) (ev : SupCall txt p0 p1 p2 p3 p4 k0) : ExO P K n (ss.map (·.1)) C :=
  ⟨⟨nm, _, _, _, _, _, _, _, _, _, _, _, _, _, _, _, _, ⟨ini, ⟨_, _, _, _, _, _, _, _, lk⟩, code, par, binds, bself, bpar, bloc, bdb, nof, few, ⟨_, _, _, _, _, _, lc, fil, fe⟩, ⟨_, _, _, lcell⟩, ⟨_, cl, fun _ => ⟨rv, hdc, sa⟩⟩, sub, sup, subB, iC, tI, kC, op, ks, kc, kind, co, gen, nc, top, ev⟩, rfl⟩, ⟨hg, hk, exC, hd, ha, hn, ht, hm⟩⟩
theorem exO_mk0 (nm : PySem.W.nsIn K mainGlobals n = some (some (.ref C))) (iC : PySem.W.findIn K (.ref C) "__init__" = some (some (.ref fI))) (tI : PySem.W.typeIn K (.ref fI) = some (.type "function"))
    (lk : K.lookup fI = some ⟨oc, od, .func (PySem.W.ksFn name qual params (supBodyF txt p0 p1 p2 p3 p4 pos k0 ([] : List StQ)) scope .none kV doc pm an (.ref cda) ct cc), osl⟩) (code : PySem.W.codeIn K (.ref cda) qual = true)
    (lc : K.lookup cda = some ⟨ccl, cdd, .fields vs, ccs⟩) (fil : vs[2]? = some (.str file tf)) (fe : ((P.main.file : Str) == file) = true) (lcell : K.lookup cc = some ⟨ccv, cld, .cell (some (.ref C)), csl⟩)
    (ini : PySem.W.excInitIn K C PySem.HandSPX.veTail "ValueError.__new__" = true) (cl : PySem.W.clsIn K C = some cd) (rv : PySem.HandSPX.refsVE cd.mro = true) (hdc : cd.hasDict = true) (sa : PySem.W.findIn K (.ref C) "__setattr__" = some (some (.builtin "object.__setattr__")))
    (sub : PySem.W.mroIn K C (.ref C) = some true) (sup : PySem.W.ks_superIn K C C "__init__" = some (some (.builtin "ValueError.__init__")))
    (subB : PySem.W.subIn K (.ref C) (.type "ValueError") = some true) (exC : PySem.W.subIn K (.ref C) (.type "BaseException") = some true) (kC : PySem.W.keepIn K (.ref C) = true)
    (op : PySem.W.nsIn K cStatics "thirdparty.any" = some none)
    (hg : PySem.W.findIn K (.ref C) "__getattribute__" = some (some (.builtin "BaseException.__getattribute__"))) (hk : PySem.W.findIn K (.ref C) "__getattr__" = some none) (hd : PySem.W.hasDictIn K C = true)
    (ha : PySem.W.findIn K (.ref C) "__class__" = some (some (.builtin "object.__class__"))) (hn : PySem.W.specialIn K (.builtin "object.__class__") "__get__" = some (some (.builtin "getset_descriptor.__get__")))
    (ht : PySem.W.takesIn K (.builtin "object.__class__") = some true) (hm : PySem.W.mroIn K C (.type "object") = some true)
    (nof : ∀ q ∈ ([] : List StQ), PySem.W.findIn K (.ref C) q.1 = some none)
    (par : (params.posonlyargs ++ params.args).head?.map (·.arg) = some "self")
    (binds : ∀ (kV doc pm ct : Value) (an : Option Addr) (a : Value) (us : List Value) (s : Shared), us.length = ([] : List StQ).length → BindsTo s (PySem.W.ksFn name qual params (supBodyF txt p0 p1 p2 p3 p4 pos k0 ([] : List StQ)) scope .none kV doc pm an (.ref cda) ct cc) ⟨a :: us, []⟩ ((("self" : Str), a) :: (([] : List StQ).map (·.2.1)).zip us))
    (bself : ∀ (a : Value) (us : List Value), us.length = ([] : List StQ).length → ((("self" : Str), a) :: (([] : List StQ).map (·.2.1)).zip us).reverse.lookup ("self" : Str) = some a)
    (bpar : ∀ (a : Value) (us : List Value), us.length = ([] : List StQ).length → ∀ q ∈ ([] : List StQ).zip us, ((("self" : Str), a) :: (([] : List StQ).map (·.2.1)).zip us).reverse.lookup q.1.2.1 = some q.2)
    (bloc : ∀ p ∈ ("self" : Str) :: ([] : List StQ).map (·.2.1), scope.names.lookup p = some .local)
    (bdb : ∀ q ∈ ([] : List StQ), (q.2.1 == ("__debug__" : Str)) = false) (few : ([] : List StQ).length ≤ 900)
    (ks : scope.names.lookup ("super" : Str) = some .globalImplicit) (kc : scope.names.lookup ("__class__" : Str) = some .free) (kind : scope.kind = .function) (co : scope.isCoroutine = false) (gen : scope.isGenerator = false)
    (nc : ∀ x ∈ scope.names, x.2 ≠ .cell) (top : (P.main.scope.names.lookup ("super" : Str)).isSome = false) (ev : SupCall txt p0 p1 p2 p3 p4 k0) : ExO P K n [] C :=
  exO_mk (ss := []) nm iC tI lk code lc fil fe lcell ini cl rv hdc sa sub sup subB exC kC op hg hk hd ha hn ht hm nof par binds bself bpar bloc bdb few ks kc kind co gen nc top ev
theorem exO_mk1 {f0 q0 : Str} {x0 y0 z0 w0 : Pos} (nm : PySem.W.nsIn K mainGlobals n = some (some (.ref C))) (iC : PySem.W.findIn K (.ref C) "__init__" = some (some (.ref fI))) (tI : PySem.W.typeIn K (.ref fI) = some (.type "function"))
    (lk : K.lookup fI = some ⟨oc, od, .func (PySem.W.ksFn name qual params (supBodyF txt p0 p1 p2 p3 p4 pos k0 ([(f0, q0, x0, y0, z0, w0)] : List StQ)) scope .none kV doc pm an (.ref cda) ct cc), osl⟩) (code : PySem.W.codeIn K (.ref cda) qual = true)
    (lc : K.lookup cda = some ⟨ccl, cdd, .fields vs, ccs⟩) (fil : vs[2]? = some (.str file tf)) (fe : ((P.main.file : Str) == file) = true) (lcell : K.lookup cc = some ⟨ccv, cld, .cell (some (.ref C)), csl⟩)
    (ini : PySem.W.excInitIn K C PySem.HandSPX.veTail "ValueError.__new__" = true) (cl : PySem.W.clsIn K C = some cd) (rv : PySem.HandSPX.refsVE cd.mro = true) (hdc : cd.hasDict = true) (sa : PySem.W.findIn K (.ref C) "__setattr__" = some (some (.builtin "object.__setattr__")))
    (sub : PySem.W.mroIn K C (.ref C) = some true) (sup : PySem.W.ks_superIn K C C "__init__" = some (some (.builtin "ValueError.__init__")))
    (subB : PySem.W.subIn K (.ref C) (.type "ValueError") = some true) (exC : PySem.W.subIn K (.ref C) (.type "BaseException") = some true) (kC : PySem.W.keepIn K (.ref C) = true)
    (op : PySem.W.nsIn K cStatics "thirdparty.any" = some none)
    (hg : PySem.W.findIn K (.ref C) "__getattribute__" = some (some (.builtin "BaseException.__getattribute__"))) (hk : PySem.W.findIn K (.ref C) "__getattr__" = some none) (hd : PySem.W.hasDictIn K C = true)
    (ha : PySem.W.findIn K (.ref C) "__class__" = some (some (.builtin "object.__class__"))) (hn : PySem.W.specialIn K (.builtin "object.__class__") "__get__" = some (some (.builtin "getset_descriptor.__get__")))
    (ht : PySem.W.takesIn K (.builtin "object.__class__") = some true) (hm : PySem.W.mroIn K C (.type "object") = some true)
    (nof : ∀ q ∈ ([(f0, q0, x0, y0, z0, w0)] : List StQ), PySem.W.findIn K (.ref C) q.1 = some none)
    (par : (params.posonlyargs ++ params.args).head?.map (·.arg) = some "self")
    (binds : ∀ (kV doc pm ct : Value) (an : Option Addr) (a : Value) (us : List Value) (s : Shared), us.length = ([(f0, q0, x0, y0, z0, w0)] : List StQ).length → BindsTo s (PySem.W.ksFn name qual params (supBodyF txt p0 p1 p2 p3 p4 pos k0 ([(f0, q0, x0, y0, z0, w0)] : List StQ)) scope .none kV doc pm an (.ref cda) ct cc) ⟨a :: us, []⟩ ((("self" : Str), a) :: (([(f0, q0, x0, y0, z0, w0)] : List StQ).map (·.2.1)).zip us))
    (bself : ∀ (a : Value) (us : List Value), us.length = ([(f0, q0, x0, y0, z0, w0)] : List StQ).length → ((("self" : Str), a) :: (([(f0, q0, x0, y0, z0, w0)] : List StQ).map (·.2.1)).zip us).reverse.lookup ("self" : Str) = some a)
    (bpar : ∀ (a : Value) (us : List Value), us.length = ([(f0, q0, x0, y0, z0, w0)] : List StQ).length → ∀ q ∈ ([(f0, q0, x0, y0, z0, w0)] : List StQ).zip us, ((("self" : Str), a) :: (([(f0, q0, x0, y0, z0, w0)] : List StQ).map (·.2.1)).zip us).reverse.lookup q.1.2.1 = some q.2)
    (bloc : ∀ p ∈ ("self" : Str) :: ([(f0, q0, x0, y0, z0, w0)] : List StQ).map (·.2.1), scope.names.lookup p = some .local)
    (bdb : ∀ q ∈ ([(f0, q0, x0, y0, z0, w0)] : List StQ), (q.2.1 == ("__debug__" : Str)) = false) (few : ([(f0, q0, x0, y0, z0, w0)] : List StQ).length ≤ 900)
    (ks : scope.names.lookup ("super" : Str) = some .globalImplicit) (kc : scope.names.lookup ("__class__" : Str) = some .free) (kind : scope.kind = .function) (co : scope.isCoroutine = false) (gen : scope.isGenerator = false)
    (nc : ∀ x ∈ scope.names, x.2 ≠ .cell) (top : (P.main.scope.names.lookup ("super" : Str)).isSome = false) (ev : SupCall txt p0 p1 p2 p3 p4 k0) : ExO P K n [f0] C :=
  exO_mk (ss := [(f0, q0, x0, y0, z0, w0)]) nm iC tI lk code lc fil fe lcell ini cl rv hdc sa sub sup subB exC kC op hg hk hd ha hn ht hm nof par binds bself bpar bloc bdb few ks kc kind co gen nc top ev
theorem exO_mk2 {f0 q0 : Str} {x0 y0 z0 w0 : Pos} {f1 q1 : Str} {x1 y1 z1 w1 : Pos} (nm : PySem.W.nsIn K mainGlobals n = some (some (.ref C))) (iC : PySem.W.findIn K (.ref C) "__init__" = some (some (.ref fI))) (tI : PySem.W.typeIn K (.ref fI) = some (.type "function"))
    (lk : K.lookup fI = some ⟨oc, od, .func (PySem.W.ksFn name qual params (supBodyF txt p0 p1 p2 p3 p4 pos k0 ([(f0, q0, x0, y0, z0, w0), (f1, q1, x1, y1, z1, w1)] : List StQ)) scope .none kV doc pm an (.ref cda) ct cc), osl⟩) (code : PySem.W.codeIn K (.ref cda) qual = true)
    (lc : K.lookup cda = some ⟨ccl, cdd, .fields vs, ccs⟩) (fil : vs[2]? = some (.str file tf)) (fe : ((P.main.file : Str) == file) = true) (lcell : K.lookup cc = some ⟨ccv, cld, .cell (some (.ref C)), csl⟩)
    (ini : PySem.W.excInitIn K C PySem.HandSPX.veTail "ValueError.__new__" = true) (cl : PySem.W.clsIn K C = some cd) (rv : PySem.HandSPX.refsVE cd.mro = true) (hdc : cd.hasDict = true) (sa : PySem.W.findIn K (.ref C) "__setattr__" = some (some (.builtin "object.__setattr__")))
    (sub : PySem.W.mroIn K C (.ref C) = some true) (sup : PySem.W.ks_superIn K C C "__init__" = some (some (.builtin "ValueError.__init__")))
    (subB : PySem.W.subIn K (.ref C) (.type "ValueError") = some true) (exC : PySem.W.subIn K (.ref C) (.type "BaseException") = some true) (kC : PySem.W.keepIn K (.ref C) = true)
    (op : PySem.W.nsIn K cStatics "thirdparty.any" = some none)
    (hg : PySem.W.findIn K (.ref C) "__getattribute__" = some (some (.builtin "BaseException.__getattribute__"))) (hk : PySem.W.findIn K (.ref C) "__getattr__" = some none) (hd : PySem.W.hasDictIn K C = true)
    (ha : PySem.W.findIn K (.ref C) "__class__" = some (some (.builtin "object.__class__"))) (hn : PySem.W.specialIn K (.builtin "object.__class__") "__get__" = some (some (.builtin "getset_descriptor.__get__")))
    (ht : PySem.W.takesIn K (.builtin "object.__class__") = some true) (hm : PySem.W.mroIn K C (.type "object") = some true)
    (nof : ∀ q ∈ ([(f0, q0, x0, y0, z0, w0), (f1, q1, x1, y1, z1, w1)] : List StQ), PySem.W.findIn K (.ref C) q.1 = some none)
    (par : (params.posonlyargs ++ params.args).head?.map (·.arg) = some "self")
    (binds : ∀ (kV doc pm ct : Value) (an : Option Addr) (a : Value) (us : List Value) (s : Shared), us.length = ([(f0, q0, x0, y0, z0, w0), (f1, q1, x1, y1, z1, w1)] : List StQ).length → BindsTo s (PySem.W.ksFn name qual params (supBodyF txt p0 p1 p2 p3 p4 pos k0 ([(f0, q0, x0, y0, z0, w0), (f1, q1, x1, y1, z1, w1)] : List StQ)) scope .none kV doc pm an (.ref cda) ct cc) ⟨a :: us, []⟩ ((("self" : Str), a) :: (([(f0, q0, x0, y0, z0, w0), (f1, q1, x1, y1, z1, w1)] : List StQ).map (·.2.1)).zip us))
    (bself : ∀ (a : Value) (us : List Value), us.length = ([(f0, q0, x0, y0, z0, w0), (f1, q1, x1, y1, z1, w1)] : List StQ).length → ((("self" : Str), a) :: (([(f0, q0, x0, y0, z0, w0), (f1, q1, x1, y1, z1, w1)] : List StQ).map (·.2.1)).zip us).reverse.lookup ("self" : Str) = some a)
    (bpar : ∀ (a : Value) (us : List Value), us.length = ([(f0, q0, x0, y0, z0, w0), (f1, q1, x1, y1, z1, w1)] : List StQ).length → ∀ q ∈ ([(f0, q0, x0, y0, z0, w0), (f1, q1, x1, y1, z1, w1)] : List StQ).zip us, ((("self" : Str), a) :: (([(f0, q0, x0, y0, z0, w0), (f1, q1, x1, y1, z1, w1)] : List StQ).map (·.2.1)).zip us).reverse.lookup q.1.2.1 = some q.2)
    (bloc : ∀ p ∈ ("self" : Str) :: ([(f0, q0, x0, y0, z0, w0), (f1, q1, x1, y1, z1, w1)] : List StQ).map (·.2.1), scope.names.lookup p = some .local)
    (bdb : ∀ q ∈ ([(f0, q0, x0, y0, z0, w0), (f1, q1, x1, y1, z1, w1)] : List StQ), (q.2.1 == ("__debug__" : Str)) = false) (few : ([(f0, q0, x0, y0, z0, w0), (f1, q1, x1, y1, z1, w1)] : List StQ).length ≤ 900)
    (ks : scope.names.lookup ("super" : Str) = some .globalImplicit) (kc : scope.names.lookup ("__class__" : Str) = some .free) (kind : scope.kind = .function) (co : scope.isCoroutine = false) (gen : scope.isGenerator = false)
    (nc : ∀ x ∈ scope.names, x.2 ≠ .cell) (top : (P.main.scope.names.lookup ("super" : Str)).isSome = false) (ev : SupCall txt p0 p1 p2 p3 p4 k0) : ExO P K n [f0, f1] C :=
  exO_mk (ss := [(f0, q0, x0, y0, z0, w0), (f1, q1, x1, y1, z1, w1)]) nm iC tI lk code lc fil fe lcell ini cl rv hdc sa sub sup subB exC kC op hg hk hd ha hn ht hm nof par binds bself bpar bloc bdb few ks kc kind co gen nc top ev
end
section
variable {X : Cx} {W : WX} {x n : Str} {fs : List Str} {C : Addr} {p pos : Pos} {e : Expr} {es : List Expr} {g : Ev → R (List D)}
theorem v_newO0 (S : ExO X.prog X.K n [] C) (hm : X.mg n = some (.ref C)) (hsup : X.mg "super" = none) {k : Nat} (hr : Room k X.A) (hg : Gl X n := by rfl) (hk : 1 ≤ k := by decide) (hdb : (n == ("__debug__" : Str)) = false := by decide) :
    VE X W (.Call (.Name n p) [] [] pos) (eNew n [] (cst [])) := v_new0 S.f hm hsup hr S.kC hg hk hdb
theorem v_newO (S : ExO X.prog X.K n fs C) (hm : X.mg n = some (.ref C)) (hsup : X.mg "super" = none) {k : Nat} (hr : Room k X.A) (ha : VA X W (e :: es) g) (hg : Gl X n := by rfl) (hk : 1 ≤ k := by decide) (hdb : (n == ("__debug__" : Str)) = false := by decide)
    (he : starEach (e :: es) X.env = (false, eval e X.env) :: starEach es X.env := by rfl) (hpl : (backTo pos (starEach es X.env)).any (·.1) = false := by rfl) :
    VE X W (.Call (.Name n p) (e :: es) [] pos) (eNew n fs g) := v_new S.f hm hsup hr S.kC ha hg hk hdb he hpl
end
theorem v_fldO {X : Cx} {W : WX} {n f : Str} {fs : List Str} {C : Addr} {e : Expr} {pos : Pos} {g : Ev → R VL.D} (S : ExO X.prog X.K n fs C) (he : VP X W e g) (hf : f ∈ fs := by decide)
    (hb : attributeBase e f X.env (eval e X.env) = eval e X.env := by rfl) : VE X W (.Attribute e f pos) (eFld n f g) := v_fld S.f.nm S.exc (S.nof hf) he hb
theorem hk_of {K : Fg} {enl : List (Str × Addr)} {ask : List (Str × Value)} {t : List (Str × List Str)} {cn : Str} {cv : Value} (e : t.map (·.1) = enl.map (·.1))
    (O : ∀ p ∈ enl, PySem.W.nsIn K mainGlobals p.1 = some (some (.ref p.2)) ∧ ExcC K p.2) (T : ∀ p ∈ enl, ∀ q ∈ ask, PySem.W.kitOne K (.ref p.2) q.2 = some (isaX t p.1 q.1)) (hq : (cn, cv) ∈ ask) :
    ∀ n ∈ t.map (·.1), ∀ C, PySem.W.nsIn K mainGlobals n = some (some (.ref C)) → ExcC K C ∧ PySem.W.kitOne K (.ref C) cv = some (isaX t n cn) := by
  intro n hn C hC
  rw [e] at hn
  obtain ⟨p, hp, rfl⟩ := List.mem_map.mp hn
  obtain ⟨o1, o2⟩ := O p hp
  rw [hC] at o1
  cases o1
  exact ⟨o2, T p hp _ hq⟩
theorem kt_up {K : Fg} {t c : Value} {b : Bool} {tab : List (Str × List Str)} {n q : Str} (h : PySem.W.kitOne K t c = some b) (e : isaX tab n q = b) : PySem.W.kitOne K t c = some (isaX tab n q) := by rw [e]; exact h
end VL

set_option Elab.async false
set_option linter.all false
set_option maxRecDepth 100000
set_option autoImplicit false
set_option maxHeartbeats 4000000
namespace W
open PySem PySem.Spec PyProof.Rows L2 VL
abbrev tabO : List (Str × List Str) := [("BadSize", ["BadSize", "WhereError", "ValueError", "Exception", "BaseException", "object"]), ("BadNumber", ["BadNumber", "WhereError", "ValueError", "Exception", "BaseException", "object"]), ("BadForm", ["BadForm", "WhereError", "ValueError", "Exception", "BaseException", "object"]), ("BadSign", ["BadSign", "WhereError", "ValueError", "Exception", "BaseException", "object"]), ("TooDeep", ["TooDeep", "WhereError", "ValueError", "Exception", "BaseException", "object"]), ("NotFine", ["NotFine", "WhereError", "ValueError", "Exception", "BaseException", "object"]), ("BadName", ["BadName", "WhereError", "ValueError", "Exception", "BaseException", "object"]), ("UnknownName", ["UnknownName", "WhereError", "ValueError", "Exception", "BaseException", "object"]), ("Circle", ["Circle", "WhereError", "ValueError", "Exception", "BaseException", "object"]), ("InUse", ["InUse", "WhereError", "ValueError", "Exception", "BaseException", "object"]), ("NothingToUndo", ["NothingToUndo", "WhereError", "ValueError", "Exception", "BaseException", "object"]), ("NothingToRedo", ["NothingToRedo", "WhereError", "ValueError", "Exception", "BaseException", "object"]), ("BadText", ["BadText", "WhereError", "ValueError", "Exception", "BaseException", "object"]), ("BadEntry", ["BadEntry", "WhereError", "ValueError", "Exception", "BaseException", "object"])]
noncomputable def c__law_marks : Ev → Out := sSeq (sSet 1 (eLst (e1 lim (cst [])))) (sSeq (sSet 1 (e2 addD (eOwn 1) (eLst (e1 lim (eCons (eIsO tabO "BadSize" (eOwn 0)) (eCons (eIsO tabO "BadNumber" (eOwn 0)) (eCons (eIsO tabO "BadForm" (eOwn 0)) (eCons (eIsO tabO "BadSign" (eOwn 0)) (cst []))))))))) (sSeq (sSet 1 (e2 addD (eOwn 1) (eLst (e1 lim (eCons (eIsO tabO "TooDeep" (eOwn 0)) (eCons (eIsO tabO "NotFine" (eOwn 0)) (eCons (eIsO tabO "BadName" (eOwn 0)) (eCons (eIsO tabO "UnknownName" (eOwn 0)) (cst []))))))))) (sSeq (sSet 1 (e2 addD (eOwn 1) (eLst (e1 lim (eCons (eIsO tabO "Circle" (eOwn 0)) (eCons (eIsO tabO "InUse" (eOwn 0)) (eCons (eIsO tabO "NothingToUndo" (eOwn 0)) (eCons (eIsO tabO "NothingToRedo" (eOwn 0)) (cst []))))))))) (sSeq (sSet 1 (e2 addD (eOwn 1) (eLst (e1 lim (eCons (eIsO tabO "BadText" (eOwn 0)) (eCons (eIsO tabO "BadEntry" (eOwn 0)) (cst []))))))) (sRet (eVar 1))))))
noncomputable def m__law_marks : List D → R SD := runD 1 2 c__law_marks
noncomputable def c__law_alone : Ev → Out := sSeq (sIf (eOr (eNot (e1 truD (eIsO tabO "WhereError" (eOwn 0)))) (eNot (e1 truD (eIsO tabO "ValueError" (eOwn 0))))) (sRet (cst (.bool false))) (sNil)) (sSeq (sSet 2 (eCall m__law_marks (eCons (eVar 0) (cst [])))) (sRet (e1 allD (eCons (eLst (eComp [3] (e1 range1D (eCons (e1 lenD (eCons (eOwn 2) (cst []))) (cst []))) (gSet 3) (cst true) (e2 eqD (e2 ixD (eOwn 2) (eOwn 3)) (e2 eqD (eOwn 3) (eOwn 1))))) (cst [])))))
noncomputable def m__law_alone : List D → R SD := runD 2 4 c__law_alone
noncomputable def c__law_plain_errors : Ev → Out := sSeq (sSet 0 (eLst (e1 lim (cst [])))) (sSeq (sSet 0 (e2 addD (eOwn 0) (eLst (e1 lim (eCons (eCall m__law_alone (eCons (eNew "BadSize" [] (cst [])) (eCons (cst (.int 0)) (cst [])))) (eCons (eCall m__law_alone (eCons (eNew "BadNumber" [] (cst [])) (eCons (cst (.int 1)) (cst [])))) (eCons (eCall m__law_alone (eCons (eNew "BadForm" [] (cst [])) (eCons (cst (.int 2)) (cst [])))) (cst [])))))))) (sSeq (sSet 0 (e2 addD (eOwn 0) (eLst (e1 lim (eCons (eCall m__law_alone (eCons (eNew "BadSign" [] (cst [])) (eCons (cst (.int 3)) (cst [])))) (eCons (eCall m__law_alone (eCons (eNew "TooDeep" [] (cst [])) (eCons (cst (.int 4)) (cst [])))) (eCons (eCall m__law_alone (eCons (eNew "NotFine" [] (cst [])) (eCons (cst (.int 5)) (cst [])))) (cst [])))))))) (sSeq (sSet 0 (e2 addD (eOwn 0) (eLst (e1 lim (eCons (eCall m__law_alone (eCons (eNew "BadName" [] (cst [])) (eCons (cst (.int 6)) (cst [])))) (eCons (eCall m__law_alone (eCons (eNew "UnknownName" [] (cst [])) (eCons (cst (.int 7)) (cst [])))) (eCons (eCall m__law_alone (eCons (eNew "Circle" [] (cst [])) (eCons (cst (.int 8)) (cst [])))) (cst [])))))))) (sSeq (sSet 0 (e2 addD (eOwn 0) (eLst (e1 lim (eCons (eCall m__law_alone (eCons (eNew "InUse" [] (cst [])) (eCons (cst (.int 9)) (cst [])))) (eCons (eCall m__law_alone (eCons (eNew "NothingToUndo" [] (cst [])) (eCons (cst (.int 10)) (cst [])))) (eCons (eCall m__law_alone (eCons (eNew "NothingToRedo" [] (cst [])) (eCons (cst (.int 11)) (cst [])))) (cst [])))))))) (sRet (e1 allD (eCons (eOwn 0) (cst []))))))))
noncomputable def m__law_plain_errors : List D → R SD := runD 0 1 c__law_plain_errors
noncomputable def c_law : Ev → Out := sSeq (sSet 1 (eCall m__law_draws (eCons (eVar 0) (eCons (cst (.int 6)) (cst []))))) (sSeq (sSet 2 (eNew "BadText" ["line", "column"] (eCons (e1 intD (eCons (e2 ixD (eOwn 1) (cst (.int 0))) (cst []))) (eCons (e2 addD (e1 intD (eCons (e2 ixD (eOwn 1) (cst (.int 1))) (cst []))) (cst (.int 1))) (cst []))))) (sSeq (sSet 3 (eNew "BadEntry" ["place"] (eCons (e1 intD (eCons (e2 ixD (eOwn 1) (cst (.int 2))) (cst []))) (cst [])))) (sSeq (sIf (eOr (e1 bOf (e2 neD (eFld "BadText" "line" (eOwn 2)) (e1 intD (eCons (e2 ixD (eOwn 1) (cst (.int 0))) (cst []))))) (eOr (e1 bOf (e2 neD (eFld "BadText" "column" (eOwn 2)) (e2 addD (e1 intD (eCons (e2 ixD (eOwn 1) (cst (.int 1))) (cst []))) (cst (.int 1))))) (e1 bOf (e2 neD (eFld "BadEntry" "place" (eOwn 3)) (e1 intD (eCons (e2 ixD (eOwn 1) (cst (.int 2))) (cst []))))))) (sRet (cst (.bool false))) (sNil)) (sSeq (sIf (eOr (eNot (e1 truD (eCall m__law_alone (eCons (eVar 2) (eCons (cst (.int 12)) (cst [])))))) (eNot (e1 truD (eCall m__law_alone (eCons (eVar 3) (eCons (cst (.int 13)) (cst []))))))) (sRet (cst (.bool false))) (sNil)) (sRet (eCall m__law_plain_errors (cst [])))))))
noncomputable def m_law : List D → R SD := runD 1 4 c_law
def nmsX : List Str := tabO.map (·.1)
theorem isO_row {c n : Str} {ks : List Str} {ds : List D} {f : Ev → R D} {ρ : Ev} (h : f ρ = .ok (xoD n ks ds)) (hn : n ∈ nmsX) : eIsO tabO c f ρ = .ok (.bool (isaX tabO n c)) := r_eIsO h rfl hn
theorem catS {l m : List D} (h : l.length + m.length ≤ 1000) : catD l m = some (l ++ m) := r_cat (slB (by omega))
theorem marks_ok {n : Str} {ks : List Str} {ds : List D} (hn : n ∈ nmsX) : m__law_marks [xoD n ks ds] = .ok (.sh (.list (nmsX.map fun c => .bool (isaX tabO n c)))) := by
  have r : ∀ (c : Str) (y : SD), eIsO tabO c (eOwn 0) [.sh (xoD n ks ds), y] = .ok (.bool (isaX tabO n c)) := fun c y => isO_row (ks := ks) (ds := ds) (by simp) hn
  simp [m__law_marks, c__law_marks, r, nmsX, catS]
theorem alone_ok {n : Str} {ks : List Str} {ds : List D} {k : Nat} {z : Int} (hz : z = k) (hn : n ∈ nmsX) (h1 : isaX tabO n "WhereError" = true) (h2 : isaX tabO n "ValueError" = true) (h : ∀ j < 14, ((nmsX[j]?).map fun c => isaX tabO n c) = some (decide (j = k))) :
    m__law_alone [xoD n ks ds, .int z] = .ok (.sh (.bool true)) := by
  subst hz
  have r : ∀ (c : Str) (x y w : SD), eIsO tabO c (eOwn 0) [.sh (xoD n ks ds), x, y, w] = .ok (.bool (isaX tabO n c)) := fun c x y w => isO_row (ks := ks) (ds := ds) (by simp) hn
  have hc := compR_map' (F := fun k : Nat => .int (k : Int)) (step := compS [3] (gSet 3) (cst true) (e2 eqD (e2 ixD (eOwn 2) (eOwn 3)) (e2 eqD (eOwn 3) (eOwn 1))) [.sh (xoD n ks ds), .sh (.int (k : Int)), .sh (.list (nmsX.map fun c => .bool (isaX tabO n c))), .no]) (l := List.range 14) (φ := fun _ => .bool true) fun j hj => by
    have hj' : j < 14 := by simpa using hj
    obtain ⟨c, hc, e⟩ := Option.map_eq_some_iff.mp (h j hj')
    have e1 : (nmsX.map fun c => PyData.bool (isaX tabO n c))[j]? = some (.bool (decide (j = k))) := by rw [List.getElem?_map, hc, ← e]; rfl
    have e2 : decide ((j : Int) = (k : Int)) = decide (j = k) := by exact decide_eq_decide.mpr (by omega)
    have e3 : eqD (PyData.bool (decide (j = k))) (PyData.bool (decide (j = k))) = some (.bool true) := r_eq_self (by simp)
    simp [compS, e1, e2, e3]
  have hl : (nmsX.map fun c => PyData.bool (isaX tabO n c)).length = 14 := by rw [List.length_map]; rfl
  have h14 : 14 ≤ sizeLine := slB (by omega)
  have ln : nmsX.length = 14 := rfl
  have hr : range1D [.int 14] = some ((List.range 14).map fun k : Nat => .int (k : Int)) := by rw [range1_ok (by decide) (by decide)]; rfl
  have hab : allD [.list ((List.range 14).map fun _ => .bool true)] = some (.bool true) := by rw [List.map_const', r_all]; rfl
  simp [m__law_alone, c__law_alone, r, h1, h2, marks_ok hn, ln, hr, hc, hab, h14, -List.map_const]
theorem law_true (ns : List Int) (hn : ns.length ≤ 63) (hb : ∀ z ∈ ns, Builtin.Int.intBits z ≤ 1048576) : m_law [.list (ns.map .int)] = .ok (.sh (.bool true)) := by
  obtain ⟨xs, e, hx⟩ := draws_ok ns hn hb 6 6 rfl (by omega)
  have A : ∀ (n : Str) (k : Nat) (z : Int) (ks : List Str) (ds : List D), z = k → (n ∈ nmsX ∧ isaX tabO n "WhereError" = true ∧ isaX tabO n "ValueError" = true ∧ ∀ j < 14, ((nmsX[j]?).map fun c => isaX tabO n c) = some (decide (j = k))) → m__law_alone [xoD n ks ds, .int z] = .ok (.sh (.bool true)) :=
    fun n k z ks ds hz h => alone_ok hz h.1 h.2.1 h.2.2.1 h.2.2.2
  have a0 := fun ks ds => A "BadSize" 0 0 ks ds rfl (by decide +kernel)
  have a1 := fun ks ds => A "BadNumber" 1 1 ks ds rfl (by decide +kernel)
  have a2 := fun ks ds => A "BadForm" 2 2 ks ds rfl (by decide +kernel)
  have a3 := fun ks ds => A "BadSign" 3 3 ks ds rfl (by decide +kernel)
  have a4 := fun ks ds => A "TooDeep" 4 4 ks ds rfl (by decide +kernel)
  have a5 := fun ks ds => A "NotFine" 5 5 ks ds rfl (by decide +kernel)
  have a6 := fun ks ds => A "BadName" 6 6 ks ds rfl (by decide +kernel)
  have a7 := fun ks ds => A "UnknownName" 7 7 ks ds rfl (by decide +kernel)
  have a8 := fun ks ds => A "Circle" 8 8 ks ds rfl (by decide +kernel)
  have a9 := fun ks ds => A "InUse" 9 9 ks ds rfl (by decide +kernel)
  have a10 := fun ks ds => A "NothingToUndo" 10 10 ks ds rfl (by decide +kernel)
  have a11 := fun ks ds => A "NothingToRedo" 11 11 ks ds rfl (by decide +kernel)
  have a12 := fun ks ds => A "BadText" 12 12 ks ds rfl (by decide +kernel)
  have a13 := fun ks ds => A "BadEntry" 13 13 ks ds rfl (by decide +kernel)
  have p : m__law_plain_errors [] = .ok (.sh (.bool true)) := by
    simp [m__law_plain_errors, c__law_plain_errors, catS, newD, zipR, a0, a1, a2, a3, a4, a5, a6, a7, a8, a9, a10, a11]
  have i0 := hx.get 0 (by omega)
  have i1 := hx.get 1 (by omega)
  have i2 := hx.get 2 (by omega)
  have f1 : ∀ (c l : D), fldD "BadText" "line" (xoD "BadText" ["column", "line"] [c, l]) = some l := fun c l => rfl
  have f2 : ∀ (c l : D), fldD "BadText" "column" (xoD "BadText" ["column", "line"] [c, l]) = some c := fun c l => rfl
  have f3 : ∀ (l : D), fldD "BadEntry" "place" (xoD "BadEntry" ["place"] [l]) = some l := fun l => rfl
  simp [m_law, c_law, e, i0, i1, i2, newD, zipR, f1, f2, f3, a12, a13, p, eFld]
end W

namespace W
open PySem PySem.Spec PyProof.Rows L2 VL
def topS (i : Nat) : Stmt := PySem.Challenge.pw_wheretrue_k00_errors_stand_apart.main.body.getD i (.Pass ⟨0, 0, 0, 0⟩)
/-! _law_draws -/
abbrev ws__law_draws : Stmt := topS 17
abbrev wN__law_draws : List Str := ["_law_script", "_law_count", "_law_rests", "_law_cell", "_law_draws_here", "_law_k", "_law_value", "_law_at", "_law_mixed"]
theorem wsc__law_draws : FnScope wN__law_draws ["_law_script", "_law_count"] (defScope ws__law_draws) := ⟨rfl, rfl, rfl, by decide +kernel, rfl, by decide +kernel, by decide +kernel⟩
theorem wd__law_draws {P : Program} {w : World} {K : Fg} {mg : Str → Option Value} {base : Heap} (Fn : Df K mg "_law_draws" ws__law_draws ["_law_script", "_law_count"]) (z_range : mg "range" = none) (z_len : mg "len" = none) (z_int : mg "int" = none) : Cl P w K mg base 1 "_law_draws" ["_law_script", "_law_count"] m__law_draws :=
  cl_ok Fn wsc__law_draws fun f cdv A outer s H E I => by
    unfold c__law_draws b__law_draws_1
    exact (vss_cons (vs_compO (own := [("_law_cell", 3)]) (ts := [3]) (i := 2) rfl wsc__law_draws.nd rfl rfl (sw_true rfl rfl rfl (by decide +kernel)) (vi_seq (ve_var 0 (pv 0))) (blkOk_by (N := wN__law_draws) (sc := defScope ws__law_draws) (by decide +kernel)) (fun _ _ _ _ _ => vg_name (pg_name (i := 3) wsc__law_draws.nd rfl (by first | exact Or.inl rfl | exact Or.inr rfl))) (fun _ _ _ _ _ => vts_nil) (fun _ _ _ _ _ => ve_var 3 (pv 3))) (vss_cons (vs_setO (i := 4) wsc__law_draws.nd rfl (by first | exact Or.inl rfl | exact Or.inr rfl) (vo_lst (va_nil))) (vss_cons (vs_for I.hp rfl (vi_range1 rfl z_range (vap_cons (vp_var 1 (pv 1)) (vap_nil))) (vg_name (pg_name (i := 5) wsc__law_draws.nd rfl (by first | exact Or.inl rfl | exact Or.inr rfl))) (vss_cons (vs_set (i := 6) wsc__law_draws.nd rfl (by first | exact Or.inl rfl | exact Or.inr rfl) (ve_int)) (vss_cons (vs_if (t_cmp d_gt (VE.vp (v_blt c_len rfl z_len b_len (vap_cons (vp_var 2 (pv 2)) (vap_nil)))) (VE.vp (ve_int))) (vss_cons (vs_set (i := 7) wsc__law_draws.nd rfl (by first | exact Or.inl rfl | exact Or.inr rfl) (v_op d_mod (VE.vp (v_typ c_int rfl z_int b_int (vap_cons (vp_var 5 (pv 5)) (vap_nil)))) (VE.vp (v_blt c_len rfl z_len b_len (vap_cons (vp_var 2 (pv 2)) (vap_nil)))))) (vss_one (vs_if (t_cmp d_ge (VE.vp (v_ix d_ix (vp_var 2 (pv 2)) (vp_var 7 (pv 7)))) (VE.vp (v_op d_pow (VE.vp (ve_int)) (VE.vp (ve_int))))) (vss_cons (vs_set (i := 6) wsc__law_draws.nd rfl (by first | exact Or.inl rfl | exact Or.inr rfl) (v_op d_mod (VE.vp (v_typ c_int rfl z_int b_int (vap_cons (VE.vp (v_ix d_ix (vp_var 2 (pv 2)) (vp_var 7 (pv 7)))) (vap_nil)))) (VE.vp (ve_int)))) (vss_one (vs_store 2 (pv 2) (ve_var 7 (pv 7)) (v_op d_fdiv (VE.vp (v_ix d_ix (vp_var 2 (pv 2)) (vp_var 7 (pv 7)))) (VE.vp (ve_int)))))) (vss_cons (vs_set (i := 8) wsc__law_draws.nd rfl (by first | exact Or.inl rfl | exact Or.inr rfl) (v_op d_mod (VE.vp (v_typ c_int rfl z_int b_int (vap_cons (VE.vp (v_op d_add (VE.vp (v_op d_add (VE.vp (v_op d_mul (VE.vp (v_ix d_ix (vp_var 2 (pv 2)) (vp_var 7 (pv 7)))) (VE.vp (ve_int)))) (VE.vp (v_op d_mul (vp_var 5 (pv 5)) (VE.vp (ve_int)))))) (VE.vp (ve_int)))) (vap_nil)))) (VE.vp (ve_int)))) (vss_cons (vs_set (i := 8) wsc__law_draws.nd rfl (by first | exact Or.inl rfl | exact Or.inr rfl) (v_op d_mod (VE.vp (v_typ c_int rfl z_int b_int (vap_cons (VE.vp (v_op d_add (VE.vp (v_op d_mul (vp_var 8 (pv 8)) (VE.vp (ve_int)))) (vp_var 7 (pv 7)))) (vap_nil)))) (VE.vp (ve_int)))) (vss_one (vs_set (i := 6) wsc__law_draws.nd rfl (by first | exact Or.inl rfl | exact Or.inr rfl) (v_op d_mod (VE.vp (v_typ c_int rfl z_int b_int (vap_cons (VE.vp (v_op d_fdiv (vp_var 8 (pv 8)) (VE.vp (ve_int)))) (vap_nil)))) (VE.vp (ve_int)))))))))) (vss_nil)) (vss_one (vs_app 4 (pv 4) (ve_var 6 (pv 6))))))) (vss_one (vs_retV 4 (pv 4))))))
/-! _law_marks -/
abbrev ws__law_marks : Stmt := topS 19
abbrev wN__law_marks : List Str := ["_law_e", "_law_marks_here"]
theorem wsc__law_marks : FnScope wN__law_marks ["_law_e"] (defScope ws__law_marks) := ⟨rfl, rfl, rfl, by decide +kernel, rfl, by decide +kernel, by decide +kernel⟩
theorem wd__law_marks {P : Program} {w : World} {K : Fg} {mg : Str → Option Value} {base : Heap} (Fn : Df K mg "_law_marks" ws__law_marks ["_law_e"]) {a_BadSign : Addr} (m_BadSign : mg "BadSign" = some (.ref a_BadSign)) {a_BadForm : Addr} (m_BadForm : mg "BadForm" = some (.ref a_BadForm)) {a_BadNumber : Addr} (m_BadNumber : mg "BadNumber" = some (.ref a_BadNumber)) {a_BadSize : Addr} (m_BadSize : mg "BadSize" = some (.ref a_BadSize)) {a_UnknownName : Addr} (m_UnknownName : mg "UnknownName" = some (.ref a_UnknownName)) {a_BadName : Addr} (m_BadName : mg "BadName" = some (.ref a_BadName)) {a_NotFine : Addr} (m_NotFine : mg "NotFine" = some (.ref a_NotFine)) {a_TooDeep : Addr} (m_TooDeep : mg "TooDeep" = some (.ref a_TooDeep)) {a_NothingToRedo : Addr} (m_NothingToRedo : mg "NothingToRedo" = some (.ref a_NothingToRedo)) {a_NothingToUndo : Addr} (m_NothingToUndo : mg "NothingToUndo" = some (.ref a_NothingToUndo)) {a_InUse : Addr} (m_InUse : mg "InUse" = some (.ref a_InUse)) {a_Circle : Addr} (m_Circle : mg "Circle" = some (.ref a_Circle)) {a_BadEntry : Addr} (m_BadEntry : mg "BadEntry" = some (.ref a_BadEntry)) {a_BadText : Addr} (m_BadText : mg "BadText" = some (.ref a_BadText)) (OX : ∀ p ∈ ([("BadSize", a_BadSize), ("BadNumber", a_BadNumber), ("BadForm", a_BadForm), ("BadSign", a_BadSign), ("TooDeep", a_TooDeep), ("NotFine", a_NotFine), ("BadName", a_BadName), ("UnknownName", a_UnknownName), ("Circle", a_Circle), ("InUse", a_InUse), ("NothingToUndo", a_NothingToUndo), ("NothingToRedo", a_NothingToRedo), ("BadText", a_BadText), ("BadEntry", a_BadEntry)] : List (Str × Addr)), PySem.W.nsIn K mainGlobals p.1 = some (some (.ref p.2)) ∧ ExcC K p.2) (OT__law_marks : ∀ p ∈ ([("BadSize", a_BadSize), ("BadNumber", a_BadNumber), ("BadForm", a_BadForm), ("BadSign", a_BadSign), ("TooDeep", a_TooDeep), ("NotFine", a_NotFine), ("BadName", a_BadName), ("UnknownName", a_UnknownName), ("Circle", a_Circle), ("InUse", a_InUse), ("NothingToUndo", a_NothingToUndo), ("NothingToRedo", a_NothingToRedo), ("BadText", a_BadText), ("BadEntry", a_BadEntry)] : List (Str × Addr)), ∀ q ∈ ([("BadSign", .ref a_BadSign), ("BadForm", .ref a_BadForm), ("BadNumber", .ref a_BadNumber), ("BadSize", .ref a_BadSize), ("UnknownName", .ref a_UnknownName), ("BadName", .ref a_BadName), ("NotFine", .ref a_NotFine), ("TooDeep", .ref a_TooDeep), ("NothingToRedo", .ref a_NothingToRedo), ("NothingToUndo", .ref a_NothingToUndo), ("InUse", .ref a_InUse), ("Circle", .ref a_Circle), ("BadEntry", .ref a_BadEntry), ("BadText", .ref a_BadText)] : List (Str × Value)), PySem.W.kitOne K (.ref p.2) q.2 = some (isaX tabO p.1 q.1)) (z_isinstance : mg "isinstance" = none) : Cl P w K mg base 1 "_law_marks" ["_law_e"] m__law_marks :=
  cl_ok Fn wsc__law_marks fun f cdv A outer s H E I => by
    unfold c__law_marks
    exact (vss_cons (vs_set (i := 1) wsc__law_marks.nd rfl (by first | exact Or.inl rfl | exact Or.inr rfl) (VO.ve (vo_lst (va_nil)))) (vss_cons (vs_set (i := 1) wsc__law_marks.nd rfl (by first | exact Or.inl rfl | exact Or.inr rfl) (v_op d_add (vp_var 1 (pv 1)) (VE.vp (VO.ve (vo_lst (va_cons (v_isO (cV := .ref a_BadSize) (cv := .ref a_BadSize) (t := tabO) (cn := "BadSize") rfl z_isinstance b_isinstance (hk_of rfl OX OT__law_marks (.tail _ (.tail _ (.tail _ (.head _))))) (vp_var 0 (pv 0)) (pe_glob rfl m_BadSize rfl) (fun _ h => h)) (va_cons (v_isO (cV := .ref a_BadNumber) (cv := .ref a_BadNumber) (t := tabO) (cn := "BadNumber") rfl z_isinstance b_isinstance (hk_of rfl OX OT__law_marks (.tail _ (.tail _ (.head _)))) (vp_var 0 (pv 0)) (pe_glob rfl m_BadNumber rfl) (fun _ h => h)) (va_cons (v_isO (cV := .ref a_BadForm) (cv := .ref a_BadForm) (t := tabO) (cn := "BadForm") rfl z_isinstance b_isinstance (hk_of rfl OX OT__law_marks (.tail _ (.head _))) (vp_var 0 (pv 0)) (pe_glob rfl m_BadForm rfl) (fun _ h => h)) (va_cons (v_isO (cV := .ref a_BadSign) (cv := .ref a_BadSign) (t := tabO) (cn := "BadSign") rfl z_isinstance b_isinstance (hk_of rfl OX OT__law_marks (.head _)) (vp_var 0 (pv 0)) (pe_glob rfl m_BadSign rfl) (fun _ h => h)) (va_nil)))))))))) (vss_cons (vs_set (i := 1) wsc__law_marks.nd rfl (by first | exact Or.inl rfl | exact Or.inr rfl) (v_op d_add (vp_var 1 (pv 1)) (VE.vp (VO.ve (vo_lst (va_cons (v_isO (cV := .ref a_TooDeep) (cv := .ref a_TooDeep) (t := tabO) (cn := "TooDeep") rfl z_isinstance b_isinstance (hk_of rfl OX OT__law_marks (.tail _ (.tail _ (.tail _ (.tail _ (.tail _ (.tail _ (.tail _ (.head _))))))))) (vp_var 0 (pv 0)) (pe_glob rfl m_TooDeep rfl) (fun _ h => h)) (va_cons (v_isO (cV := .ref a_NotFine) (cv := .ref a_NotFine) (t := tabO) (cn := "NotFine") rfl z_isinstance b_isinstance (hk_of rfl OX OT__law_marks (.tail _ (.tail _ (.tail _ (.tail _ (.tail _ (.tail _ (.head _)))))))) (vp_var 0 (pv 0)) (pe_glob rfl m_NotFine rfl) (fun _ h => h)) (va_cons (v_isO (cV := .ref a_BadName) (cv := .ref a_BadName) (t := tabO) (cn := "BadName") rfl z_isinstance b_isinstance (hk_of rfl OX OT__law_marks (.tail _ (.tail _ (.tail _ (.tail _ (.tail _ (.head _))))))) (vp_var 0 (pv 0)) (pe_glob rfl m_BadName rfl) (fun _ h => h)) (va_cons (v_isO (cV := .ref a_UnknownName) (cv := .ref a_UnknownName) (t := tabO) (cn := "UnknownName") rfl z_isinstance b_isinstance (hk_of rfl OX OT__law_marks (.tail _ (.tail _ (.tail _ (.tail _ (.head _)))))) (vp_var 0 (pv 0)) (pe_glob rfl m_UnknownName rfl) (fun _ h => h)) (va_nil)))))))))) (vss_cons (vs_set (i := 1) wsc__law_marks.nd rfl (by first | exact Or.inl rfl | exact Or.inr rfl) (v_op d_add (vp_var 1 (pv 1)) (VE.vp (VO.ve (vo_lst (va_cons (v_isO (cV := .ref a_Circle) (cv := .ref a_Circle) (t := tabO) (cn := "Circle") rfl z_isinstance b_isinstance (hk_of rfl OX OT__law_marks (.tail _ (.tail _ (.tail _ (.tail _ (.tail _ (.tail _ (.tail _ (.tail _ (.tail _ (.tail _ (.tail _ (.head _))))))))))))) (vp_var 0 (pv 0)) (pe_glob rfl m_Circle rfl) (fun _ h => h)) (va_cons (v_isO (cV := .ref a_InUse) (cv := .ref a_InUse) (t := tabO) (cn := "InUse") rfl z_isinstance b_isinstance (hk_of rfl OX OT__law_marks (.tail _ (.tail _ (.tail _ (.tail _ (.tail _ (.tail _ (.tail _ (.tail _ (.tail _ (.tail _ (.head _)))))))))))) (vp_var 0 (pv 0)) (pe_glob rfl m_InUse rfl) (fun _ h => h)) (va_cons (v_isO (cV := .ref a_NothingToUndo) (cv := .ref a_NothingToUndo) (t := tabO) (cn := "NothingToUndo") rfl z_isinstance b_isinstance (hk_of rfl OX OT__law_marks (.tail _ (.tail _ (.tail _ (.tail _ (.tail _ (.tail _ (.tail _ (.tail _ (.tail _ (.head _))))))))))) (vp_var 0 (pv 0)) (pe_glob rfl m_NothingToUndo rfl) (fun _ h => h)) (va_cons (v_isO (cV := .ref a_NothingToRedo) (cv := .ref a_NothingToRedo) (t := tabO) (cn := "NothingToRedo") rfl z_isinstance b_isinstance (hk_of rfl OX OT__law_marks (.tail _ (.tail _ (.tail _ (.tail _ (.tail _ (.tail _ (.tail _ (.tail _ (.head _)))))))))) (vp_var 0 (pv 0)) (pe_glob rfl m_NothingToRedo rfl) (fun _ h => h)) (va_nil)))))))))) (vss_cons (vs_set (i := 1) wsc__law_marks.nd rfl (by first | exact Or.inl rfl | exact Or.inr rfl) (v_op d_add (vp_var 1 (pv 1)) (VE.vp (VO.ve (vo_lst (va_cons (v_isO (cV := .ref a_BadText) (cv := .ref a_BadText) (t := tabO) (cn := "BadText") rfl z_isinstance b_isinstance (hk_of rfl OX OT__law_marks (.tail _ (.tail _ (.tail _ (.tail _ (.tail _ (.tail _ (.tail _ (.tail _ (.tail _ (.tail _ (.tail _ (.tail _ (.tail _ (.head _))))))))))))))) (vp_var 0 (pv 0)) (pe_glob rfl m_BadText rfl) (fun _ h => h)) (va_cons (v_isO (cV := .ref a_BadEntry) (cv := .ref a_BadEntry) (t := tabO) (cn := "BadEntry") rfl z_isinstance b_isinstance (hk_of rfl OX OT__law_marks (.tail _ (.tail _ (.tail _ (.tail _ (.tail _ (.tail _ (.tail _ (.tail _ (.tail _ (.tail _ (.tail _ (.tail _ (.head _)))))))))))))) (vp_var 0 (pv 0)) (pe_glob rfl m_BadEntry rfl) (fun _ h => h)) (va_nil)))))))) (vss_one (vs_ret (ve_var 1 (pv 1)))))))))
/-! _law_alone -/
abbrev ws__law_alone : Stmt := topS 20
abbrev wN__law_alone : List Str := ["_law_e", "_law_at", "_law_marks_here", "_law_k"]
theorem wsc__law_alone : FnScope wN__law_alone ["_law_e", "_law_at"] (defScope ws__law_alone) := ⟨rfl, rfl, rfl, by decide +kernel, rfl, by decide +kernel, by decide +kernel⟩
theorem wd__law_alone {P : Program} {w : World} {K : Fg} {mg : Str → Option Value} {base : Heap} (Fn : Df K mg "_law_alone" ws__law_alone ["_law_e", "_law_at"]) (C__law_marks : Cl P w K mg base 1 "_law_marks" ["_law_e"] m__law_marks) {a_WhereError : Addr} (m_WhereError : mg "WhereError" = some (.ref a_WhereError)) {a_BadSize : Addr} {a_BadNumber : Addr} {a_BadForm : Addr} {a_BadSign : Addr} {a_TooDeep : Addr} {a_NotFine : Addr} {a_BadName : Addr} {a_UnknownName : Addr} {a_Circle : Addr} {a_InUse : Addr} {a_NothingToUndo : Addr} {a_NothingToRedo : Addr} {a_BadText : Addr} {a_BadEntry : Addr} (OX : ∀ p ∈ ([("BadSize", a_BadSize), ("BadNumber", a_BadNumber), ("BadForm", a_BadForm), ("BadSign", a_BadSign), ("TooDeep", a_TooDeep), ("NotFine", a_NotFine), ("BadName", a_BadName), ("UnknownName", a_UnknownName), ("Circle", a_Circle), ("InUse", a_InUse), ("NothingToUndo", a_NothingToUndo), ("NothingToRedo", a_NothingToRedo), ("BadText", a_BadText), ("BadEntry", a_BadEntry)] : List (Str × Addr)), PySem.W.nsIn K mainGlobals p.1 = some (some (.ref p.2)) ∧ ExcC K p.2) (OT__law_alone : ∀ p ∈ ([("BadSize", a_BadSize), ("BadNumber", a_BadNumber), ("BadForm", a_BadForm), ("BadSign", a_BadSign), ("TooDeep", a_TooDeep), ("NotFine", a_NotFine), ("BadName", a_BadName), ("UnknownName", a_UnknownName), ("Circle", a_Circle), ("InUse", a_InUse), ("NothingToUndo", a_NothingToUndo), ("NothingToRedo", a_NothingToRedo), ("BadText", a_BadText), ("BadEntry", a_BadEntry)] : List (Str × Addr)), ∀ q ∈ ([("ValueError", .type "ValueError"), ("WhereError", .ref a_WhereError)] : List (Str × Value)), PySem.W.kitOne K (.ref p.2) q.2 = some (isaX tabO p.1 q.1)) (z_isinstance : mg "isinstance" = none) (z_ValueError : mg "ValueError" = none) (z_all : mg "all" = none) (z_range : mg "range" = none) (z_len : mg "len" = none) : Cl P w K mg base 2 "_law_alone" ["_law_e", "_law_at"] m__law_alone :=
  cl_ok Fn wsc__law_alone fun f cdv A outer s H E I => by
    unfold c__law_alone
    exact (vss_cons (vs_if (VW.vt (vw_or (vt_not (t_tru (VE.vp (v_isO (cV := .ref a_WhereError) (cv := .ref a_WhereError) (t := tabO) (cn := "WhereError") rfl z_isinstance b_isinstance (hk_of rfl OX OT__law_alone (.tail _ (.head _))) (vp_var 0 (pv 0)) (pe_glob rfl m_WhereError rfl) (fun _ h => h))))) (vw_or1 (vt_not (t_tru (VE.vp (v_isO (cV := .ty "ValueError") (cv := .type "ValueError") (t := tabO) (cn := "ValueError") rfl z_isinstance b_isinstance (hk_of rfl OX OT__law_alone (.head _)) (vp_var 0 (pv 0)) (pe_bltn rfl z_ValueError b_ValueError rfl) (fun _ h => h)))))))) (vss_one (vs_ret (ve_bl))) (vss_nil)) (vss_cons (vs_set (i := 2) wsc__law_alone.nd rfl (by first | exact Or.inl rfl | exact Or.inr rfl) (v_calC C__law_marks I.hr I.gd I.tk (va_cons (ve_var 0 (pv 0)) (va_nil)))) (vss_one (vs_ret (v_blt (c_all rfl) rfl z_all b_all (vap_cons (VE.vp (VO.ve (vo_comp (own := [("_law_k", 3)]) (ts := [3]) rfl wsc__law_alone.nd (vi_range1 rfl z_range (vap_cons (VE.vp (v_blt c_len rfl z_len b_len (vap_cons (vp_var 2 (pv 2)) (vap_nil)))) (vap_nil))) (blkOk_by (N := wN__law_alone) (sc := defScope ws__law_alone) (by decide +kernel)) (fun _ _ _ _ _ => vg_name (pg_name (i := 3) wsc__law_alone.nd rfl (by first | exact Or.inl rfl | exact Or.inr rfl))) (fun _ _ _ _ _ => vts_nil) (fun _ _ _ _ _ => v_cmp (d_eq I.hr.units) (VE.vp (v_ix d_ix (vp_var 2 (pv 2)) (vp_var 3 (pv 3)))) (VE.vp (v_cmp (d_eq I.hr.units) (vp_var 3 (pv 3)) (vp_var 1 (pv 1)))))))) (vap_nil)))))))
/-! _law_plain_errors -/
abbrev ws__law_plain_errors : Stmt := topS 21
abbrev wN__law_plain_errors : List Str := ["_law_good"]
theorem wsc__law_plain_errors : FnScope wN__law_plain_errors [] (defScope ws__law_plain_errors) := ⟨rfl, rfl, rfl, by decide +kernel, rfl, by decide +kernel, by decide +kernel⟩
theorem wd__law_plain_errors {P : Program} {w : World} {K : Fg} {mg : Str → Option Value} {base : Heap} (Fn : Df K mg "_law_plain_errors" ws__law_plain_errors []) (C__law_alone : Cl P w K mg base 2 "_law_alone" ["_law_e", "_law_at"] m__law_alone) {a_BadForm : Addr} (m_BadForm : mg "BadForm" = some (.ref a_BadForm)) {a_BadNumber : Addr} (m_BadNumber : mg "BadNumber" = some (.ref a_BadNumber)) {a_BadSize : Addr} (m_BadSize : mg "BadSize" = some (.ref a_BadSize)) {a_NotFine : Addr} (m_NotFine : mg "NotFine" = some (.ref a_NotFine)) {a_TooDeep : Addr} (m_TooDeep : mg "TooDeep" = some (.ref a_TooDeep)) {a_BadSign : Addr} (m_BadSign : mg "BadSign" = some (.ref a_BadSign)) {a_Circle : Addr} (m_Circle : mg "Circle" = some (.ref a_Circle)) {a_UnknownName : Addr} (m_UnknownName : mg "UnknownName" = some (.ref a_UnknownName)) {a_BadName : Addr} (m_BadName : mg "BadName" = some (.ref a_BadName)) {a_NothingToRedo : Addr} (m_NothingToRedo : mg "NothingToRedo" = some (.ref a_NothingToRedo)) {a_NothingToUndo : Addr} (m_NothingToUndo : mg "NothingToUndo" = some (.ref a_NothingToUndo)) {a_InUse : Addr} (m_InUse : mg "InUse" = some (.ref a_InUse)) (O_BadForm : ExO P K "BadForm" [] a_BadForm) (O_BadNumber : ExO P K "BadNumber" [] a_BadNumber) (O_BadSize : ExO P K "BadSize" [] a_BadSize) (O_NotFine : ExO P K "NotFine" [] a_NotFine) (O_TooDeep : ExO P K "TooDeep" [] a_TooDeep) (O_BadSign : ExO P K "BadSign" [] a_BadSign) (O_Circle : ExO P K "Circle" [] a_Circle) (O_UnknownName : ExO P K "UnknownName" [] a_UnknownName) (O_BadName : ExO P K "BadName" [] a_BadName) (O_NothingToRedo : ExO P K "NothingToRedo" [] a_NothingToRedo) (O_NothingToUndo : ExO P K "NothingToUndo" [] a_NothingToUndo) (O_InUse : ExO P K "InUse" [] a_InUse) (z_super : mg "super" = none) (z_all : mg "all" = none) : Cl P w K mg base 3 "_law_plain_errors" [] m__law_plain_errors :=
  cl_ok Fn wsc__law_plain_errors fun f cdv A outer s H E I => by
    unfold c__law_plain_errors
    exact (vss_cons (vs_set (i := 0) wsc__law_plain_errors.nd rfl (by first | exact Or.inl rfl | exact Or.inr rfl) (VO.ve (vo_lst (va_nil)))) (vss_cons (vs_set (i := 0) wsc__law_plain_errors.nd rfl (by first | exact Or.inl rfl | exact Or.inr rfl) (v_op d_add (vp_var 0 (pv 0)) (VE.vp (VO.ve (vo_lst (va_cons (v_calC C__law_alone I.hr I.gd I.tk (va_cons (v_newO0 O_BadSize m_BadSize z_super I.hr) (va_cons (ve_int) (va_nil)))) (va_cons (v_calC C__law_alone I.hr I.gd I.tk (va_cons (v_newO0 O_BadNumber m_BadNumber z_super I.hr) (va_cons (ve_int) (va_nil)))) (va_cons (v_calC C__law_alone I.hr I.gd I.tk (va_cons (v_newO0 O_BadForm m_BadForm z_super I.hr) (va_cons (ve_int) (va_nil)))) (va_nil))))))))) (vss_cons (vs_set (i := 0) wsc__law_plain_errors.nd rfl (by first | exact Or.inl rfl | exact Or.inr rfl) (v_op d_add (vp_var 0 (pv 0)) (VE.vp (VO.ve (vo_lst (va_cons (v_calC C__law_alone I.hr I.gd I.tk (va_cons (v_newO0 O_BadSign m_BadSign z_super I.hr) (va_cons (ve_int) (va_nil)))) (va_cons (v_calC C__law_alone I.hr I.gd I.tk (va_cons (v_newO0 O_TooDeep m_TooDeep z_super I.hr) (va_cons (ve_int) (va_nil)))) (va_cons (v_calC C__law_alone I.hr I.gd I.tk (va_cons (v_newO0 O_NotFine m_NotFine z_super I.hr) (va_cons (ve_int) (va_nil)))) (va_nil))))))))) (vss_cons (vs_set (i := 0) wsc__law_plain_errors.nd rfl (by first | exact Or.inl rfl | exact Or.inr rfl) (v_op d_add (vp_var 0 (pv 0)) (VE.vp (VO.ve (vo_lst (va_cons (v_calC C__law_alone I.hr I.gd I.tk (va_cons (v_newO0 O_BadName m_BadName z_super I.hr) (va_cons (ve_int) (va_nil)))) (va_cons (v_calC C__law_alone I.hr I.gd I.tk (va_cons (v_newO0 O_UnknownName m_UnknownName z_super I.hr) (va_cons (ve_int) (va_nil)))) (va_cons (v_calC C__law_alone I.hr I.gd I.tk (va_cons (v_newO0 O_Circle m_Circle z_super I.hr) (va_cons (ve_int) (va_nil)))) (va_nil))))))))) (vss_cons (vs_set (i := 0) wsc__law_plain_errors.nd rfl (by first | exact Or.inl rfl | exact Or.inr rfl) (v_op d_add (vp_var 0 (pv 0)) (VE.vp (VO.ve (vo_lst (va_cons (v_calC C__law_alone I.hr I.gd I.tk (va_cons (v_newO0 O_InUse m_InUse z_super I.hr) (va_cons (ve_int) (va_nil)))) (va_cons (v_calC C__law_alone I.hr I.gd I.tk (va_cons (v_newO0 O_NothingToUndo m_NothingToUndo z_super I.hr) (va_cons (ve_int) (va_nil)))) (va_cons (v_calC C__law_alone I.hr I.gd I.tk (va_cons (v_newO0 O_NothingToRedo m_NothingToRedo z_super I.hr) (va_cons (ve_int) (va_nil)))) (va_nil))))))))) (vss_one (vs_ret (v_blt (c_all rfl) rfl z_all b_all (vap_cons (vp_var 0 (pv 0)) (vap_nil))))))))))
/-! law -/
abbrev ws_law : Stmt := topS 22
abbrev wN_law : List Str := ["_law_script", "_law_draws_here", "_law_text", "_law_entry"]
theorem wsc_law : FnScope wN_law ["_law_script"] (defScope ws_law) := ⟨rfl, rfl, rfl, by decide +kernel, rfl, by decide +kernel, by decide +kernel⟩
theorem wd_law {P : Program} {w : World} {K : Fg} {mg : Str → Option Value} {base : Heap} {f : Addr} {fd : FuncData} (Fn : Fun K "law" "law" ws_law f fd) (C__law_draws : Cl P w K mg base 1 "_law_draws" ["_law_script", "_law_count"] m__law_draws) (C__law_alone : Cl P w K mg base 2 "_law_alone" ["_law_e", "_law_at"] m__law_alone) (C__law_plain_errors : Cl P w K mg base 3 "_law_plain_errors" [] m__law_plain_errors) {a_BadText : Addr} (m_BadText : mg "BadText" = some (.ref a_BadText)) {a_BadEntry : Addr} (m_BadEntry : mg "BadEntry" = some (.ref a_BadEntry)) (O_BadText : ExO P K "BadText" ["line", "column"] a_BadText) (O_BadEntry : ExO P K "BadEntry" ["place"] a_BadEntry) (z_super : mg "super" = none) (z_int : mg "int" = none) : DOk P w K mg base 4 f fd ["_law_script"] m_law :=
  def_ok Fn wsc_law fun cdv A outer s H E I => by
    unfold c_law
    exact (vss_cons (vs_set (i := 1) wsc_law.nd rfl (by first | exact Or.inl rfl | exact Or.inr rfl) (v_calC C__law_draws I.hr I.gd I.tk (va_cons (ve_var 0 (pv 0)) (va_cons (ve_int) (va_nil))))) (vss_cons (vs_set (i := 2) wsc_law.nd rfl (by first | exact Or.inl rfl | exact Or.inr rfl) (v_newO O_BadText m_BadText z_super I.hr (va_cons (v_typ c_int rfl z_int b_int (vap_cons (VE.vp (v_ix d_ix (vp_var 1 (pv 1)) (VE.vp (ve_int)))) (vap_nil))) (va_cons (v_op d_add (VE.vp (v_typ c_int rfl z_int b_int (vap_cons (VE.vp (v_ix d_ix (vp_var 1 (pv 1)) (VE.vp (ve_int)))) (vap_nil)))) (VE.vp (ve_int))) (va_nil))))) (vss_cons (vs_set (i := 3) wsc_law.nd rfl (by first | exact Or.inl rfl | exact Or.inr rfl) (v_newO O_BadEntry m_BadEntry z_super I.hr (va_cons (v_typ c_int rfl z_int b_int (vap_cons (VE.vp (v_ix d_ix (vp_var 1 (pv 1)) (VE.vp (ve_int)))) (vap_nil))) (va_nil)))) (vss_cons (vs_if (VW.vt (vw_or (t_cmp (d_ne I.hr.units) (VE.vp (v_fldO (n := "BadText") (f := "line") O_BadText (vp_var 2 (pv 2)))) (VE.vp (v_typ c_int rfl z_int b_int (vap_cons (VE.vp (v_ix d_ix (vp_var 1 (pv 1)) (VE.vp (ve_int)))) (vap_nil))))) (vw_or (t_cmp (d_ne I.hr.units) (VE.vp (v_fldO (n := "BadText") (f := "column") O_BadText (vp_var 2 (pv 2)))) (VE.vp (v_op d_add (VE.vp (v_typ c_int rfl z_int b_int (vap_cons (VE.vp (v_ix d_ix (vp_var 1 (pv 1)) (VE.vp (ve_int)))) (vap_nil)))) (VE.vp (ve_int))))) (vw_or1 (t_cmp (d_ne I.hr.units) (VE.vp (v_fldO (n := "BadEntry") (f := "place") O_BadEntry (vp_var 3 (pv 3)))) (VE.vp (v_typ c_int rfl z_int b_int (vap_cons (VE.vp (v_ix d_ix (vp_var 1 (pv 1)) (VE.vp (ve_int)))) (vap_nil))))))))) (vss_one (vs_ret (ve_bl))) (vss_nil)) (vss_cons (vs_if (VW.vt (vw_or (vt_not (t_tru (VE.vp (v_calC C__law_alone I.hr I.gd I.tk (va_cons (ve_var 2 (pv 2)) (va_cons (ve_int) (va_nil))))))) (vw_or1 (vt_not (t_tru (VE.vp (v_calC C__law_alone I.hr I.gd I.tk (va_cons (ve_var 3 (pv 3)) (va_cons (ve_int) (va_nil)))))))))) (vss_one (vs_ret (ve_bl))) (vss_nil)) (vss_one (vs_ret (v_calC0 C__law_plain_errors I.hr I.gd I.tk))))))))
/-! the end -/
theorem all_mk {P : Program} {w : World} {K : Fg} {h : Heap} {mg : Str → Option Value} {fa : Addr} (X : K.In h) (G : h.Ns mainGlobals mg) (hfa : mg "law" = some (.ref fa))
    {f0 : Addr} {od0 an0 : Option Addr} {sl0 : Array (Option Value)} {oc0 kV0 dc0 pm0 cd0 ct0 : Value}
    (a0 : PySem.W.nsIn K mainGlobals "_law_draws" = some (some (.ref f0))) (l0 : K.lookup f0 = some ⟨oc0, od0, .func (PySem.W.fnOf "_law_draws" "_law_draws" (defArgs ws__law_draws) (defBody ws__law_draws) (defScope ws__law_draws) .none kV0 dc0 pm0 an0 cd0 ct0), sl0⟩) (c0 : PySem.W.codeIn K cd0 "_law_draws" = true) (k0 : PySem.W.keepIn K (.ref f0) = true)
    {f1 : Addr} {od1 an1 : Option Addr} {sl1 : Array (Option Value)} {oc1 kV1 dc1 pm1 cd1 ct1 : Value}
    (a1 : PySem.W.nsIn K mainGlobals "_law_marks" = some (some (.ref f1))) (l1 : K.lookup f1 = some ⟨oc1, od1, .func (PySem.W.fnOf "_law_marks" "_law_marks" (defArgs ws__law_marks) (defBody ws__law_marks) (defScope ws__law_marks) .none kV1 dc1 pm1 an1 cd1 ct1), sl1⟩) (c1 : PySem.W.codeIn K cd1 "_law_marks" = true) (k1 : PySem.W.keepIn K (.ref f1) = true)
    {f2 : Addr} {od2 an2 : Option Addr} {sl2 : Array (Option Value)} {oc2 kV2 dc2 pm2 cd2 ct2 : Value}
    (a2 : PySem.W.nsIn K mainGlobals "_law_alone" = some (some (.ref f2))) (l2 : K.lookup f2 = some ⟨oc2, od2, .func (PySem.W.fnOf "_law_alone" "_law_alone" (defArgs ws__law_alone) (defBody ws__law_alone) (defScope ws__law_alone) .none kV2 dc2 pm2 an2 cd2 ct2), sl2⟩) (c2 : PySem.W.codeIn K cd2 "_law_alone" = true) (k2 : PySem.W.keepIn K (.ref f2) = true)
    {f3 : Addr} {od3 an3 : Option Addr} {sl3 : Array (Option Value)} {oc3 kV3 dc3 pm3 cd3 ct3 : Value}
    (a3 : PySem.W.nsIn K mainGlobals "_law_plain_errors" = some (some (.ref f3))) (l3 : K.lookup f3 = some ⟨oc3, od3, .func (PySem.W.fnOf "_law_plain_errors" "_law_plain_errors" (defArgs ws__law_plain_errors) (defBody ws__law_plain_errors) (defScope ws__law_plain_errors) .none kV3 dc3 pm3 an3 cd3 ct3), sl3⟩) (c3 : PySem.W.codeIn K cd3 "_law_plain_errors" = true) (k3 : PySem.W.keepIn K (.ref f3) = true)
    {f4 : Addr} {od4 an4 : Option Addr} {sl4 : Array (Option Value)} {oc4 kV4 dc4 pm4 cd4 ct4 : Value}
    (a4 : PySem.W.nsIn K mainGlobals "law" = some (some (.ref f4))) (l4 : K.lookup f4 = some ⟨oc4, od4, .func (PySem.W.fnOf "law" "law" (defArgs ws_law) (defBody ws_law) (defScope ws_law) .none kV4 dc4 pm4 an4 cd4 ct4), sl4⟩) (c4 : PySem.W.codeIn K cd4 "law" = true) (k4 : PySem.W.keepIn K (.ref f4) = true)
    {a_BadSign : Addr} (ac_BadSign : PySem.W.nsIn K mainGlobals "BadSign" = some (some (.ref a_BadSign)))
    {a_BadForm : Addr} (ac_BadForm : PySem.W.nsIn K mainGlobals "BadForm" = some (some (.ref a_BadForm)))
    {a_BadNumber : Addr} (ac_BadNumber : PySem.W.nsIn K mainGlobals "BadNumber" = some (some (.ref a_BadNumber)))
    {a_BadSize : Addr} (ac_BadSize : PySem.W.nsIn K mainGlobals "BadSize" = some (some (.ref a_BadSize)))
    {a_UnknownName : Addr} (ac_UnknownName : PySem.W.nsIn K mainGlobals "UnknownName" = some (some (.ref a_UnknownName)))
    {a_BadName : Addr} (ac_BadName : PySem.W.nsIn K mainGlobals "BadName" = some (some (.ref a_BadName)))
    {a_NotFine : Addr} (ac_NotFine : PySem.W.nsIn K mainGlobals "NotFine" = some (some (.ref a_NotFine)))
    {a_TooDeep : Addr} (ac_TooDeep : PySem.W.nsIn K mainGlobals "TooDeep" = some (some (.ref a_TooDeep)))
    {a_NothingToRedo : Addr} (ac_NothingToRedo : PySem.W.nsIn K mainGlobals "NothingToRedo" = some (some (.ref a_NothingToRedo)))
    {a_NothingToUndo : Addr} (ac_NothingToUndo : PySem.W.nsIn K mainGlobals "NothingToUndo" = some (some (.ref a_NothingToUndo)))
    {a_InUse : Addr} (ac_InUse : PySem.W.nsIn K mainGlobals "InUse" = some (some (.ref a_InUse)))
    {a_Circle : Addr} (ac_Circle : PySem.W.nsIn K mainGlobals "Circle" = some (some (.ref a_Circle)))
    {a_BadEntry : Addr} (ac_BadEntry : PySem.W.nsIn K mainGlobals "BadEntry" = some (some (.ref a_BadEntry)))
    {a_BadText : Addr} (ac_BadText : PySem.W.nsIn K mainGlobals "BadText" = some (some (.ref a_BadText)))
    {a_WhereError : Addr} (ac_WhereError : PySem.W.nsIn K mainGlobals "WhereError" = some (some (.ref a_WhereError)))
    (O_BadSize : ExO P K "BadSize" [] a_BadSize)
    (O_BadNumber : ExO P K "BadNumber" [] a_BadNumber)
    (O_BadForm : ExO P K "BadForm" [] a_BadForm)
    (O_BadSign : ExO P K "BadSign" [] a_BadSign)
    (O_TooDeep : ExO P K "TooDeep" [] a_TooDeep)
    (O_NotFine : ExO P K "NotFine" [] a_NotFine)
    (O_BadName : ExO P K "BadName" [] a_BadName)
    (O_UnknownName : ExO P K "UnknownName" [] a_UnknownName)
    (O_Circle : ExO P K "Circle" [] a_Circle)
    (O_InUse : ExO P K "InUse" [] a_InUse)
    (O_NothingToUndo : ExO P K "NothingToUndo" [] a_NothingToUndo)
    (O_NothingToRedo : ExO P K "NothingToRedo" [] a_NothingToRedo)
    (O_BadText : ExO P K "BadText" ["line", "column"] a_BadText)
    (O_BadEntry : ExO P K "BadEntry" ["place"] a_BadEntry)
    (kt_BadSize_BadSign : PySem.W.kitOne K (.ref a_BadSize) (.ref a_BadSign) = some false)
    (kt_BadSize_BadForm : PySem.W.kitOne K (.ref a_BadSize) (.ref a_BadForm) = some false)
    (kt_BadSize_BadNumber : PySem.W.kitOne K (.ref a_BadSize) (.ref a_BadNumber) = some false)
    (kt_BadSize_BadSize : PySem.W.kitOne K (.ref a_BadSize) (.ref a_BadSize) = some true)
    (kt_BadSize_UnknownName : PySem.W.kitOne K (.ref a_BadSize) (.ref a_UnknownName) = some false)
    (kt_BadSize_BadName : PySem.W.kitOne K (.ref a_BadSize) (.ref a_BadName) = some false)
    (kt_BadSize_NotFine : PySem.W.kitOne K (.ref a_BadSize) (.ref a_NotFine) = some false)
    (kt_BadSize_TooDeep : PySem.W.kitOne K (.ref a_BadSize) (.ref a_TooDeep) = some false)
    (kt_BadSize_NothingToRedo : PySem.W.kitOne K (.ref a_BadSize) (.ref a_NothingToRedo) = some false)
    (kt_BadSize_NothingToUndo : PySem.W.kitOne K (.ref a_BadSize) (.ref a_NothingToUndo) = some false)
    (kt_BadSize_InUse : PySem.W.kitOne K (.ref a_BadSize) (.ref a_InUse) = some false)
    (kt_BadSize_Circle : PySem.W.kitOne K (.ref a_BadSize) (.ref a_Circle) = some false)
    (kt_BadSize_BadEntry : PySem.W.kitOne K (.ref a_BadSize) (.ref a_BadEntry) = some false)
    (kt_BadSize_BadText : PySem.W.kitOne K (.ref a_BadSize) (.ref a_BadText) = some false)
    (kt_BadSize_ValueError : PySem.W.kitOne K (.ref a_BadSize) (.type "ValueError") = some true)
    (kt_BadSize_WhereError : PySem.W.kitOne K (.ref a_BadSize) (.ref a_WhereError) = some true)
    (kt_BadNumber_BadSign : PySem.W.kitOne K (.ref a_BadNumber) (.ref a_BadSign) = some false)
    (kt_BadNumber_BadForm : PySem.W.kitOne K (.ref a_BadNumber) (.ref a_BadForm) = some false)
    (kt_BadNumber_BadNumber : PySem.W.kitOne K (.ref a_BadNumber) (.ref a_BadNumber) = some true)
    (kt_BadNumber_BadSize : PySem.W.kitOne K (.ref a_BadNumber) (.ref a_BadSize) = some false)
    (kt_BadNumber_UnknownName : PySem.W.kitOne K (.ref a_BadNumber) (.ref a_UnknownName) = some false)
    (kt_BadNumber_BadName : PySem.W.kitOne K (.ref a_BadNumber) (.ref a_BadName) = some false)
    (kt_BadNumber_NotFine : PySem.W.kitOne K (.ref a_BadNumber) (.ref a_NotFine) = some false)
    (kt_BadNumber_TooDeep : PySem.W.kitOne K (.ref a_BadNumber) (.ref a_TooDeep) = some false)
    (kt_BadNumber_NothingToRedo : PySem.W.kitOne K (.ref a_BadNumber) (.ref a_NothingToRedo) = some false)
    (kt_BadNumber_NothingToUndo : PySem.W.kitOne K (.ref a_BadNumber) (.ref a_NothingToUndo) = some false)
    (kt_BadNumber_InUse : PySem.W.kitOne K (.ref a_BadNumber) (.ref a_InUse) = some false)
    (kt_BadNumber_Circle : PySem.W.kitOne K (.ref a_BadNumber) (.ref a_Circle) = some false)
    (kt_BadNumber_BadEntry : PySem.W.kitOne K (.ref a_BadNumber) (.ref a_BadEntry) = some false)
    (kt_BadNumber_BadText : PySem.W.kitOne K (.ref a_BadNumber) (.ref a_BadText) = some false)
    (kt_BadNumber_ValueError : PySem.W.kitOne K (.ref a_BadNumber) (.type "ValueError") = some true)
    (kt_BadNumber_WhereError : PySem.W.kitOne K (.ref a_BadNumber) (.ref a_WhereError) = some true)
    (kt_BadForm_BadSign : PySem.W.kitOne K (.ref a_BadForm) (.ref a_BadSign) = some false)
    (kt_BadForm_BadForm : PySem.W.kitOne K (.ref a_BadForm) (.ref a_BadForm) = some true)
    (kt_BadForm_BadNumber : PySem.W.kitOne K (.ref a_BadForm) (.ref a_BadNumber) = some false)
    (kt_BadForm_BadSize : PySem.W.kitOne K (.ref a_BadForm) (.ref a_BadSize) = some false)
    (kt_BadForm_UnknownName : PySem.W.kitOne K (.ref a_BadForm) (.ref a_UnknownName) = some false)
    (kt_BadForm_BadName : PySem.W.kitOne K (.ref a_BadForm) (.ref a_BadName) = some false)
    (kt_BadForm_NotFine : PySem.W.kitOne K (.ref a_BadForm) (.ref a_NotFine) = some false)
    (kt_BadForm_TooDeep : PySem.W.kitOne K (.ref a_BadForm) (.ref a_TooDeep) = some false)
    (kt_BadForm_NothingToRedo : PySem.W.kitOne K (.ref a_BadForm) (.ref a_NothingToRedo) = some false)
    (kt_BadForm_NothingToUndo : PySem.W.kitOne K (.ref a_BadForm) (.ref a_NothingToUndo) = some false)
    (kt_BadForm_InUse : PySem.W.kitOne K (.ref a_BadForm) (.ref a_InUse) = some false)
    (kt_BadForm_Circle : PySem.W.kitOne K (.ref a_BadForm) (.ref a_Circle) = some false)
    (kt_BadForm_BadEntry : PySem.W.kitOne K (.ref a_BadForm) (.ref a_BadEntry) = some false)
    (kt_BadForm_BadText : PySem.W.kitOne K (.ref a_BadForm) (.ref a_BadText) = some false)
    (kt_BadForm_ValueError : PySem.W.kitOne K (.ref a_BadForm) (.type "ValueError") = some true)
    (kt_BadForm_WhereError : PySem.W.kitOne K (.ref a_BadForm) (.ref a_WhereError) = some true)
    (kt_BadSign_BadSign : PySem.W.kitOne K (.ref a_BadSign) (.ref a_BadSign) = some true)
    (kt_BadSign_BadForm : PySem.W.kitOne K (.ref a_BadSign) (.ref a_BadForm) = some false)
    (kt_BadSign_BadNumber : PySem.W.kitOne K (.ref a_BadSign) (.ref a_BadNumber) = some false)
    (kt_BadSign_BadSize : PySem.W.kitOne K (.ref a_BadSign) (.ref a_BadSize) = some false)
    (kt_BadSign_UnknownName : PySem.W.kitOne K (.ref a_BadSign) (.ref a_UnknownName) = some false)
    (kt_BadSign_BadName : PySem.W.kitOne K (.ref a_BadSign) (.ref a_BadName) = some false)
    (kt_BadSign_NotFine : PySem.W.kitOne K (.ref a_BadSign) (.ref a_NotFine) = some false)
    (kt_BadSign_TooDeep : PySem.W.kitOne K (.ref a_BadSign) (.ref a_TooDeep) = some false)
    (kt_BadSign_NothingToRedo : PySem.W.kitOne K (.ref a_BadSign) (.ref a_NothingToRedo) = some false)
    (kt_BadSign_NothingToUndo : PySem.W.kitOne K (.ref a_BadSign) (.ref a_NothingToUndo) = some false)
    (kt_BadSign_InUse : PySem.W.kitOne K (.ref a_BadSign) (.ref a_InUse) = some false)
    (kt_BadSign_Circle : PySem.W.kitOne K (.ref a_BadSign) (.ref a_Circle) = some false)
    (kt_BadSign_BadEntry : PySem.W.kitOne K (.ref a_BadSign) (.ref a_BadEntry) = some false)
    (kt_BadSign_BadText : PySem.W.kitOne K (.ref a_BadSign) (.ref a_BadText) = some false)
    (kt_BadSign_ValueError : PySem.W.kitOne K (.ref a_BadSign) (.type "ValueError") = some true)
    (kt_BadSign_WhereError : PySem.W.kitOne K (.ref a_BadSign) (.ref a_WhereError) = some true)
    (kt_TooDeep_BadSign : PySem.W.kitOne K (.ref a_TooDeep) (.ref a_BadSign) = some false)
    (kt_TooDeep_BadForm : PySem.W.kitOne K (.ref a_TooDeep) (.ref a_BadForm) = some false)
    (kt_TooDeep_BadNumber : PySem.W.kitOne K (.ref a_TooDeep) (.ref a_BadNumber) = some false)
    (kt_TooDeep_BadSize : PySem.W.kitOne K (.ref a_TooDeep) (.ref a_BadSize) = some false)
    (kt_TooDeep_UnknownName : PySem.W.kitOne K (.ref a_TooDeep) (.ref a_UnknownName) = some false)
    (kt_TooDeep_BadName : PySem.W.kitOne K (.ref a_TooDeep) (.ref a_BadName) = some false)
    (kt_TooDeep_NotFine : PySem.W.kitOne K (.ref a_TooDeep) (.ref a_NotFine) = some false)
    (kt_TooDeep_TooDeep : PySem.W.kitOne K (.ref a_TooDeep) (.ref a_TooDeep) = some true)
    (kt_TooDeep_NothingToRedo : PySem.W.kitOne K (.ref a_TooDeep) (.ref a_NothingToRedo) = some false)
    (kt_TooDeep_NothingToUndo : PySem.W.kitOne K (.ref a_TooDeep) (.ref a_NothingToUndo) = some false)
    (kt_TooDeep_InUse : PySem.W.kitOne K (.ref a_TooDeep) (.ref a_InUse) = some false)
    (kt_TooDeep_Circle : PySem.W.kitOne K (.ref a_TooDeep) (.ref a_Circle) = some false)
    (kt_TooDeep_BadEntry : PySem.W.kitOne K (.ref a_TooDeep) (.ref a_BadEntry) = some false)
    (kt_TooDeep_BadText : PySem.W.kitOne K (.ref a_TooDeep) (.ref a_BadText) = some false)
    (kt_TooDeep_ValueError : PySem.W.kitOne K (.ref a_TooDeep) (.type "ValueError") = some true)
    (kt_TooDeep_WhereError : PySem.W.kitOne K (.ref a_TooDeep) (.ref a_WhereError) = some true)
    (kt_NotFine_BadSign : PySem.W.kitOne K (.ref a_NotFine) (.ref a_BadSign) = some false)
    (kt_NotFine_BadForm : PySem.W.kitOne K (.ref a_NotFine) (.ref a_BadForm) = some false)
    (kt_NotFine_BadNumber : PySem.W.kitOne K (.ref a_NotFine) (.ref a_BadNumber) = some false)
    (kt_NotFine_BadSize : PySem.W.kitOne K (.ref a_NotFine) (.ref a_BadSize) = some false)
    (kt_NotFine_UnknownName : PySem.W.kitOne K (.ref a_NotFine) (.ref a_UnknownName) = some false)
    (kt_NotFine_BadName : PySem.W.kitOne K (.ref a_NotFine) (.ref a_BadName) = some false)
    (kt_NotFine_NotFine : PySem.W.kitOne K (.ref a_NotFine) (.ref a_NotFine) = some true)
    (kt_NotFine_TooDeep : PySem.W.kitOne K (.ref a_NotFine) (.ref a_TooDeep) = some false)
    (kt_NotFine_NothingToRedo : PySem.W.kitOne K (.ref a_NotFine) (.ref a_NothingToRedo) = some false)
    (kt_NotFine_NothingToUndo : PySem.W.kitOne K (.ref a_NotFine) (.ref a_NothingToUndo) = some false)
    (kt_NotFine_InUse : PySem.W.kitOne K (.ref a_NotFine) (.ref a_InUse) = some false)
    (kt_NotFine_Circle : PySem.W.kitOne K (.ref a_NotFine) (.ref a_Circle) = some false)
    (kt_NotFine_BadEntry : PySem.W.kitOne K (.ref a_NotFine) (.ref a_BadEntry) = some false)
    (kt_NotFine_BadText : PySem.W.kitOne K (.ref a_NotFine) (.ref a_BadText) = some false)
    (kt_NotFine_ValueError : PySem.W.kitOne K (.ref a_NotFine) (.type "ValueError") = some true)
    (kt_NotFine_WhereError : PySem.W.kitOne K (.ref a_NotFine) (.ref a_WhereError) = some true)
    (kt_BadName_BadSign : PySem.W.kitOne K (.ref a_BadName) (.ref a_BadSign) = some false)
    (kt_BadName_BadForm : PySem.W.kitOne K (.ref a_BadName) (.ref a_BadForm) = some false)
    (kt_BadName_BadNumber : PySem.W.kitOne K (.ref a_BadName) (.ref a_BadNumber) = some false)
    (kt_BadName_BadSize : PySem.W.kitOne K (.ref a_BadName) (.ref a_BadSize) = some false)
    (kt_BadName_UnknownName : PySem.W.kitOne K (.ref a_BadName) (.ref a_UnknownName) = some false)
    (kt_BadName_BadName : PySem.W.kitOne K (.ref a_BadName) (.ref a_BadName) = some true)
    (kt_BadName_NotFine : PySem.W.kitOne K (.ref a_BadName) (.ref a_NotFine) = some false)
    (kt_BadName_TooDeep : PySem.W.kitOne K (.ref a_BadName) (.ref a_TooDeep) = some false)
    (kt_BadName_NothingToRedo : PySem.W.kitOne K (.ref a_BadName) (.ref a_NothingToRedo) = some false)
    (kt_BadName_NothingToUndo : PySem.W.kitOne K (.ref a_BadName) (.ref a_NothingToUndo) = some false)
    (kt_BadName_InUse : PySem.W.kitOne K (.ref a_BadName) (.ref a_InUse) = some false)
    (kt_BadName_Circle : PySem.W.kitOne K (.ref a_BadName) (.ref a_Circle) = some false)
    (kt_BadName_BadEntry : PySem.W.kitOne K (.ref a_BadName) (.ref a_BadEntry) = some false)
    (kt_BadName_BadText : PySem.W.kitOne K (.ref a_BadName) (.ref a_BadText) = some false)
    (kt_BadName_ValueError : PySem.W.kitOne K (.ref a_BadName) (.type "ValueError") = some true)
    (kt_BadName_WhereError : PySem.W.kitOne K (.ref a_BadName) (.ref a_WhereError) = some true)
    (kt_UnknownName_BadSign : PySem.W.kitOne K (.ref a_UnknownName) (.ref a_BadSign) = some false)
    (kt_UnknownName_BadForm : PySem.W.kitOne K (.ref a_UnknownName) (.ref a_BadForm) = some false)
    (kt_UnknownName_BadNumber : PySem.W.kitOne K (.ref a_UnknownName) (.ref a_BadNumber) = some false)
    (kt_UnknownName_BadSize : PySem.W.kitOne K (.ref a_UnknownName) (.ref a_BadSize) = some false)
    (kt_UnknownName_UnknownName : PySem.W.kitOne K (.ref a_UnknownName) (.ref a_UnknownName) = some true)
    (kt_UnknownName_BadName : PySem.W.kitOne K (.ref a_UnknownName) (.ref a_BadName) = some false)
    (kt_UnknownName_NotFine : PySem.W.kitOne K (.ref a_UnknownName) (.ref a_NotFine) = some false)
    (kt_UnknownName_TooDeep : PySem.W.kitOne K (.ref a_UnknownName) (.ref a_TooDeep) = some false)
    (kt_UnknownName_NothingToRedo : PySem.W.kitOne K (.ref a_UnknownName) (.ref a_NothingToRedo) = some false)
    (kt_UnknownName_NothingToUndo : PySem.W.kitOne K (.ref a_UnknownName) (.ref a_NothingToUndo) = some false)
    (kt_UnknownName_InUse : PySem.W.kitOne K (.ref a_UnknownName) (.ref a_InUse) = some false)
    (kt_UnknownName_Circle : PySem.W.kitOne K (.ref a_UnknownName) (.ref a_Circle) = some false)
    (kt_UnknownName_BadEntry : PySem.W.kitOne K (.ref a_UnknownName) (.ref a_BadEntry) = some false)
    (kt_UnknownName_BadText : PySem.W.kitOne K (.ref a_UnknownName) (.ref a_BadText) = some false)
    (kt_UnknownName_ValueError : PySem.W.kitOne K (.ref a_UnknownName) (.type "ValueError") = some true)
    (kt_UnknownName_WhereError : PySem.W.kitOne K (.ref a_UnknownName) (.ref a_WhereError) = some true)
    (kt_Circle_BadSign : PySem.W.kitOne K (.ref a_Circle) (.ref a_BadSign) = some false)
    (kt_Circle_BadForm : PySem.W.kitOne K (.ref a_Circle) (.ref a_BadForm) = some false)
    (kt_Circle_BadNumber : PySem.W.kitOne K (.ref a_Circle) (.ref a_BadNumber) = some false)
    (kt_Circle_BadSize : PySem.W.kitOne K (.ref a_Circle) (.ref a_BadSize) = some false)
    (kt_Circle_UnknownName : PySem.W.kitOne K (.ref a_Circle) (.ref a_UnknownName) = some false)
    (kt_Circle_BadName : PySem.W.kitOne K (.ref a_Circle) (.ref a_BadName) = some false)
    (kt_Circle_NotFine : PySem.W.kitOne K (.ref a_Circle) (.ref a_NotFine) = some false)
    (kt_Circle_TooDeep : PySem.W.kitOne K (.ref a_Circle) (.ref a_TooDeep) = some false)
    (kt_Circle_NothingToRedo : PySem.W.kitOne K (.ref a_Circle) (.ref a_NothingToRedo) = some false)
    (kt_Circle_NothingToUndo : PySem.W.kitOne K (.ref a_Circle) (.ref a_NothingToUndo) = some false)
    (kt_Circle_InUse : PySem.W.kitOne K (.ref a_Circle) (.ref a_InUse) = some false)
    (kt_Circle_Circle : PySem.W.kitOne K (.ref a_Circle) (.ref a_Circle) = some true)
    (kt_Circle_BadEntry : PySem.W.kitOne K (.ref a_Circle) (.ref a_BadEntry) = some false)
    (kt_Circle_BadText : PySem.W.kitOne K (.ref a_Circle) (.ref a_BadText) = some false)
    (kt_Circle_ValueError : PySem.W.kitOne K (.ref a_Circle) (.type "ValueError") = some true)
    (kt_Circle_WhereError : PySem.W.kitOne K (.ref a_Circle) (.ref a_WhereError) = some true)
    (kt_InUse_BadSign : PySem.W.kitOne K (.ref a_InUse) (.ref a_BadSign) = some false)
    (kt_InUse_BadForm : PySem.W.kitOne K (.ref a_InUse) (.ref a_BadForm) = some false)
    (kt_InUse_BadNumber : PySem.W.kitOne K (.ref a_InUse) (.ref a_BadNumber) = some false)
    (kt_InUse_BadSize : PySem.W.kitOne K (.ref a_InUse) (.ref a_BadSize) = some false)
    (kt_InUse_UnknownName : PySem.W.kitOne K (.ref a_InUse) (.ref a_UnknownName) = some false)
    (kt_InUse_BadName : PySem.W.kitOne K (.ref a_InUse) (.ref a_BadName) = some false)
    (kt_InUse_NotFine : PySem.W.kitOne K (.ref a_InUse) (.ref a_NotFine) = some false)
    (kt_InUse_TooDeep : PySem.W.kitOne K (.ref a_InUse) (.ref a_TooDeep) = some false)
    (kt_InUse_NothingToRedo : PySem.W.kitOne K (.ref a_InUse) (.ref a_NothingToRedo) = some false)
    (kt_InUse_NothingToUndo : PySem.W.kitOne K (.ref a_InUse) (.ref a_NothingToUndo) = some false)
    (kt_InUse_InUse : PySem.W.kitOne K (.ref a_InUse) (.ref a_InUse) = some true)
    (kt_InUse_Circle : PySem.W.kitOne K (.ref a_InUse) (.ref a_Circle) = some false)
    (kt_InUse_BadEntry : PySem.W.kitOne K (.ref a_InUse) (.ref a_BadEntry) = some false)
    (kt_InUse_BadText : PySem.W.kitOne K (.ref a_InUse) (.ref a_BadText) = some false)
    (kt_InUse_ValueError : PySem.W.kitOne K (.ref a_InUse) (.type "ValueError") = some true)
    (kt_InUse_WhereError : PySem.W.kitOne K (.ref a_InUse) (.ref a_WhereError) = some true)
    (kt_NothingToUndo_BadSign : PySem.W.kitOne K (.ref a_NothingToUndo) (.ref a_BadSign) = some false)
    (kt_NothingToUndo_BadForm : PySem.W.kitOne K (.ref a_NothingToUndo) (.ref a_BadForm) = some false)
    (kt_NothingToUndo_BadNumber : PySem.W.kitOne K (.ref a_NothingToUndo) (.ref a_BadNumber) = some false)
    (kt_NothingToUndo_BadSize : PySem.W.kitOne K (.ref a_NothingToUndo) (.ref a_BadSize) = some false)
    (kt_NothingToUndo_UnknownName : PySem.W.kitOne K (.ref a_NothingToUndo) (.ref a_UnknownName) = some false)
    (kt_NothingToUndo_BadName : PySem.W.kitOne K (.ref a_NothingToUndo) (.ref a_BadName) = some false)
    (kt_NothingToUndo_NotFine : PySem.W.kitOne K (.ref a_NothingToUndo) (.ref a_NotFine) = some false)
    (kt_NothingToUndo_TooDeep : PySem.W.kitOne K (.ref a_NothingToUndo) (.ref a_TooDeep) = some false)
    (kt_NothingToUndo_NothingToRedo : PySem.W.kitOne K (.ref a_NothingToUndo) (.ref a_NothingToRedo) = some false)
    (kt_NothingToUndo_NothingToUndo : PySem.W.kitOne K (.ref a_NothingToUndo) (.ref a_NothingToUndo) = some true)
    (kt_NothingToUndo_InUse : PySem.W.kitOne K (.ref a_NothingToUndo) (.ref a_InUse) = some false)
    (kt_NothingToUndo_Circle : PySem.W.kitOne K (.ref a_NothingToUndo) (.ref a_Circle) = some false)
    (kt_NothingToUndo_BadEntry : PySem.W.kitOne K (.ref a_NothingToUndo) (.ref a_BadEntry) = some false)
    (kt_NothingToUndo_BadText : PySem.W.kitOne K (.ref a_NothingToUndo) (.ref a_BadText) = some false)
    (kt_NothingToUndo_ValueError : PySem.W.kitOne K (.ref a_NothingToUndo) (.type "ValueError") = some true)
    (kt_NothingToUndo_WhereError : PySem.W.kitOne K (.ref a_NothingToUndo) (.ref a_WhereError) = some true)
    (kt_NothingToRedo_BadSign : PySem.W.kitOne K (.ref a_NothingToRedo) (.ref a_BadSign) = some false)
    (kt_NothingToRedo_BadForm : PySem.W.kitOne K (.ref a_NothingToRedo) (.ref a_BadForm) = some false)
    (kt_NothingToRedo_BadNumber : PySem.W.kitOne K (.ref a_NothingToRedo) (.ref a_BadNumber) = some false)
    (kt_NothingToRedo_BadSize : PySem.W.kitOne K (.ref a_NothingToRedo) (.ref a_BadSize) = some false)
    (kt_NothingToRedo_UnknownName : PySem.W.kitOne K (.ref a_NothingToRedo) (.ref a_UnknownName) = some false)
    (kt_NothingToRedo_BadName : PySem.W.kitOne K (.ref a_NothingToRedo) (.ref a_BadName) = some false)
    (kt_NothingToRedo_NotFine : PySem.W.kitOne K (.ref a_NothingToRedo) (.ref a_NotFine) = some false)
    (kt_NothingToRedo_TooDeep : PySem.W.kitOne K (.ref a_NothingToRedo) (.ref a_TooDeep) = some false)
    (kt_NothingToRedo_NothingToRedo : PySem.W.kitOne K (.ref a_NothingToRedo) (.ref a_NothingToRedo) = some true)
    (kt_NothingToRedo_NothingToUndo : PySem.W.kitOne K (.ref a_NothingToRedo) (.ref a_NothingToUndo) = some false)
    (kt_NothingToRedo_InUse : PySem.W.kitOne K (.ref a_NothingToRedo) (.ref a_InUse) = some false)
    (kt_NothingToRedo_Circle : PySem.W.kitOne K (.ref a_NothingToRedo) (.ref a_Circle) = some false)
    (kt_NothingToRedo_BadEntry : PySem.W.kitOne K (.ref a_NothingToRedo) (.ref a_BadEntry) = some false)
    (kt_NothingToRedo_BadText : PySem.W.kitOne K (.ref a_NothingToRedo) (.ref a_BadText) = some false)
    (kt_NothingToRedo_ValueError : PySem.W.kitOne K (.ref a_NothingToRedo) (.type "ValueError") = some true)
    (kt_NothingToRedo_WhereError : PySem.W.kitOne K (.ref a_NothingToRedo) (.ref a_WhereError) = some true)
    (kt_BadText_BadSign : PySem.W.kitOne K (.ref a_BadText) (.ref a_BadSign) = some false)
    (kt_BadText_BadForm : PySem.W.kitOne K (.ref a_BadText) (.ref a_BadForm) = some false)
    (kt_BadText_BadNumber : PySem.W.kitOne K (.ref a_BadText) (.ref a_BadNumber) = some false)
    (kt_BadText_BadSize : PySem.W.kitOne K (.ref a_BadText) (.ref a_BadSize) = some false)
    (kt_BadText_UnknownName : PySem.W.kitOne K (.ref a_BadText) (.ref a_UnknownName) = some false)
    (kt_BadText_BadName : PySem.W.kitOne K (.ref a_BadText) (.ref a_BadName) = some false)
    (kt_BadText_NotFine : PySem.W.kitOne K (.ref a_BadText) (.ref a_NotFine) = some false)
    (kt_BadText_TooDeep : PySem.W.kitOne K (.ref a_BadText) (.ref a_TooDeep) = some false)
    (kt_BadText_NothingToRedo : PySem.W.kitOne K (.ref a_BadText) (.ref a_NothingToRedo) = some false)
    (kt_BadText_NothingToUndo : PySem.W.kitOne K (.ref a_BadText) (.ref a_NothingToUndo) = some false)
    (kt_BadText_InUse : PySem.W.kitOne K (.ref a_BadText) (.ref a_InUse) = some false)
    (kt_BadText_Circle : PySem.W.kitOne K (.ref a_BadText) (.ref a_Circle) = some false)
    (kt_BadText_BadEntry : PySem.W.kitOne K (.ref a_BadText) (.ref a_BadEntry) = some false)
    (kt_BadText_BadText : PySem.W.kitOne K (.ref a_BadText) (.ref a_BadText) = some true)
    (kt_BadText_ValueError : PySem.W.kitOne K (.ref a_BadText) (.type "ValueError") = some true)
    (kt_BadText_WhereError : PySem.W.kitOne K (.ref a_BadText) (.ref a_WhereError) = some true)
    (kt_BadEntry_BadSign : PySem.W.kitOne K (.ref a_BadEntry) (.ref a_BadSign) = some false)
    (kt_BadEntry_BadForm : PySem.W.kitOne K (.ref a_BadEntry) (.ref a_BadForm) = some false)
    (kt_BadEntry_BadNumber : PySem.W.kitOne K (.ref a_BadEntry) (.ref a_BadNumber) = some false)
    (kt_BadEntry_BadSize : PySem.W.kitOne K (.ref a_BadEntry) (.ref a_BadSize) = some false)
    (kt_BadEntry_UnknownName : PySem.W.kitOne K (.ref a_BadEntry) (.ref a_UnknownName) = some false)
    (kt_BadEntry_BadName : PySem.W.kitOne K (.ref a_BadEntry) (.ref a_BadName) = some false)
    (kt_BadEntry_NotFine : PySem.W.kitOne K (.ref a_BadEntry) (.ref a_NotFine) = some false)
    (kt_BadEntry_TooDeep : PySem.W.kitOne K (.ref a_BadEntry) (.ref a_TooDeep) = some false)
    (kt_BadEntry_NothingToRedo : PySem.W.kitOne K (.ref a_BadEntry) (.ref a_NothingToRedo) = some false)
    (kt_BadEntry_NothingToUndo : PySem.W.kitOne K (.ref a_BadEntry) (.ref a_NothingToUndo) = some false)
    (kt_BadEntry_InUse : PySem.W.kitOne K (.ref a_BadEntry) (.ref a_InUse) = some false)
    (kt_BadEntry_Circle : PySem.W.kitOne K (.ref a_BadEntry) (.ref a_Circle) = some false)
    (kt_BadEntry_BadEntry : PySem.W.kitOne K (.ref a_BadEntry) (.ref a_BadEntry) = some true)
    (kt_BadEntry_BadText : PySem.W.kitOne K (.ref a_BadEntry) (.ref a_BadText) = some false)
    (kt_BadEntry_ValueError : PySem.W.kitOne K (.ref a_BadEntry) (.type "ValueError") = some true)
    (kt_BadEntry_WhereError : PySem.W.kitOne K (.ref a_BadEntry) (.ref a_WhereError) = some true)
    (zz_range : PySem.W.nsIn K mainGlobals "range" = some none)
    (zz_len : PySem.W.nsIn K mainGlobals "len" = some none)
    (zz_int : PySem.W.nsIn K mainGlobals "int" = some none)
    (zz_isinstance : PySem.W.nsIn K mainGlobals "isinstance" = some none)
    (zz_ValueError : PySem.W.nsIn K mainGlobals "ValueError" = some none)
    (zz_all : PySem.W.nsIn K mainGlobals "all" = some none)
    (zz_super : PySem.W.nsIn K mainGlobals "super" = some none) :
    ∃ fd : FuncData, (∀ (s : Shared) (u : Value), BindsTo s fd ⟨[u], []⟩ [("_law_script", u)]) ∧ ∀ base, DOk P w K mg base 4 fa fd ["_law_script"] m_law := by
  have F0 := fun_mk (st := ws__law_draws) l0 c0 k0
  have D__law_draws : Df K mg "_law_draws" ws__law_draws ["_law_script", "_law_count"] := ⟨_, _, F0, PySem.W.mg_of X G a0, F0.binds (ps := ["_law_script", "_law_count"]) fun _ _ _ _ _ _ us hl => match us, hl with | [_, _], _ => rfl⟩
  have F1 := fun_mk (st := ws__law_marks) l1 c1 k1
  have D__law_marks : Df K mg "_law_marks" ws__law_marks ["_law_e"] := ⟨_, _, F1, PySem.W.mg_of X G a1, F1.binds (ps := ["_law_e"]) fun _ _ _ _ _ _ us hl => match us, hl with | [_], _ => rfl⟩
  have F2 := fun_mk (st := ws__law_alone) l2 c2 k2
  have D__law_alone : Df K mg "_law_alone" ws__law_alone ["_law_e", "_law_at"] := ⟨_, _, F2, PySem.W.mg_of X G a2, F2.binds (ps := ["_law_e", "_law_at"]) fun _ _ _ _ _ _ us hl => match us, hl with | [_, _], _ => rfl⟩
  have F3 := fun_mk (st := ws__law_plain_errors) l3 c3 k3
  have D__law_plain_errors : Df K mg "_law_plain_errors" ws__law_plain_errors [] := ⟨_, _, F3, PySem.W.mg_of X G a3, F3.binds (ps := []) fun _ _ _ _ _ _ us hl => match us, hl with | [], _ => rfl⟩
  have F4 := fun_mk (st := ws_law) l4 c4 k4
  have e := hfa.symm.trans (PySem.W.mg_of X G a4)
  cases e
  have m_BadSign : mg "BadSign" = some (.ref a_BadSign) := PySem.W.mg_of X G ac_BadSign
  have m_BadForm : mg "BadForm" = some (.ref a_BadForm) := PySem.W.mg_of X G ac_BadForm
  have m_BadNumber : mg "BadNumber" = some (.ref a_BadNumber) := PySem.W.mg_of X G ac_BadNumber
  have m_BadSize : mg "BadSize" = some (.ref a_BadSize) := PySem.W.mg_of X G ac_BadSize
  have m_UnknownName : mg "UnknownName" = some (.ref a_UnknownName) := PySem.W.mg_of X G ac_UnknownName
  have m_BadName : mg "BadName" = some (.ref a_BadName) := PySem.W.mg_of X G ac_BadName
  have m_NotFine : mg "NotFine" = some (.ref a_NotFine) := PySem.W.mg_of X G ac_NotFine
  have m_TooDeep : mg "TooDeep" = some (.ref a_TooDeep) := PySem.W.mg_of X G ac_TooDeep
  have m_NothingToRedo : mg "NothingToRedo" = some (.ref a_NothingToRedo) := PySem.W.mg_of X G ac_NothingToRedo
  have m_NothingToUndo : mg "NothingToUndo" = some (.ref a_NothingToUndo) := PySem.W.mg_of X G ac_NothingToUndo
  have m_InUse : mg "InUse" = some (.ref a_InUse) := PySem.W.mg_of X G ac_InUse
  have m_Circle : mg "Circle" = some (.ref a_Circle) := PySem.W.mg_of X G ac_Circle
  have m_BadEntry : mg "BadEntry" = some (.ref a_BadEntry) := PySem.W.mg_of X G ac_BadEntry
  have m_BadText : mg "BadText" = some (.ref a_BadText) := PySem.W.mg_of X G ac_BadText
  have m_WhereError : mg "WhereError" = some (.ref a_WhereError) := PySem.W.mg_of X G ac_WhereError
  have OX : ∀ p ∈ ([("BadSize", a_BadSize), ("BadNumber", a_BadNumber), ("BadForm", a_BadForm), ("BadSign", a_BadSign), ("TooDeep", a_TooDeep), ("NotFine", a_NotFine), ("BadName", a_BadName), ("UnknownName", a_UnknownName), ("Circle", a_Circle), ("InUse", a_InUse), ("NothingToUndo", a_NothingToUndo), ("NothingToRedo", a_NothingToRedo), ("BadText", a_BadText), ("BadEntry", a_BadEntry)] : List (Str × Addr)), PySem.W.nsIn K mainGlobals p.1 = some (some (.ref p.2)) ∧ ExcC K p.2 := (by simp only [List.forall_mem_cons, List.not_mem_nil, false_implies, implies_true, and_true]; exact ⟨⟨O_BadSize.f.nm, O_BadSize.exc⟩, ⟨O_BadNumber.f.nm, O_BadNumber.exc⟩, ⟨O_BadForm.f.nm, O_BadForm.exc⟩, ⟨O_BadSign.f.nm, O_BadSign.exc⟩, ⟨O_TooDeep.f.nm, O_TooDeep.exc⟩, ⟨O_NotFine.f.nm, O_NotFine.exc⟩, ⟨O_BadName.f.nm, O_BadName.exc⟩, ⟨O_UnknownName.f.nm, O_UnknownName.exc⟩, ⟨O_Circle.f.nm, O_Circle.exc⟩, ⟨O_InUse.f.nm, O_InUse.exc⟩, ⟨O_NothingToUndo.f.nm, O_NothingToUndo.exc⟩, ⟨O_NothingToRedo.f.nm, O_NothingToRedo.exc⟩, ⟨O_BadText.f.nm, O_BadText.exc⟩, ⟨O_BadEntry.f.nm, O_BadEntry.exc⟩⟩)
  have OT__law_marks : ∀ p ∈ ([("BadSize", a_BadSize), ("BadNumber", a_BadNumber), ("BadForm", a_BadForm), ("BadSign", a_BadSign), ("TooDeep", a_TooDeep), ("NotFine", a_NotFine), ("BadName", a_BadName), ("UnknownName", a_UnknownName), ("Circle", a_Circle), ("InUse", a_InUse), ("NothingToUndo", a_NothingToUndo), ("NothingToRedo", a_NothingToRedo), ("BadText", a_BadText), ("BadEntry", a_BadEntry)] : List (Str × Addr)), ∀ q ∈ ([("BadSign", .ref a_BadSign), ("BadForm", .ref a_BadForm), ("BadNumber", .ref a_BadNumber), ("BadSize", .ref a_BadSize), ("UnknownName", .ref a_UnknownName), ("BadName", .ref a_BadName), ("NotFine", .ref a_NotFine), ("TooDeep", .ref a_TooDeep), ("NothingToRedo", .ref a_NothingToRedo), ("NothingToUndo", .ref a_NothingToUndo), ("InUse", .ref a_InUse), ("Circle", .ref a_Circle), ("BadEntry", .ref a_BadEntry), ("BadText", .ref a_BadText)] : List (Str × Value)), PySem.W.kitOne K (.ref p.2) q.2 = some (isaX tabO p.1 q.1) := (by simp only [List.forall_mem_cons, List.not_mem_nil, false_implies, implies_true, and_true]; exact ⟨⟨kt_up kt_BadSize_BadSign (by decide +kernel), kt_up kt_BadSize_BadForm (by decide +kernel), kt_up kt_BadSize_BadNumber (by decide +kernel), kt_up kt_BadSize_BadSize (by decide +kernel), kt_up kt_BadSize_UnknownName (by decide +kernel), kt_up kt_BadSize_BadName (by decide +kernel), kt_up kt_BadSize_NotFine (by decide +kernel), kt_up kt_BadSize_TooDeep (by decide +kernel), kt_up kt_BadSize_NothingToRedo (by decide +kernel), kt_up kt_BadSize_NothingToUndo (by decide +kernel), kt_up kt_BadSize_InUse (by decide +kernel), kt_up kt_BadSize_Circle (by decide +kernel), kt_up kt_BadSize_BadEntry (by decide +kernel), kt_up kt_BadSize_BadText (by decide +kernel)⟩, ⟨kt_up kt_BadNumber_BadSign (by decide +kernel), kt_up kt_BadNumber_BadForm (by decide +kernel), kt_up kt_BadNumber_BadNumber (by decide +kernel), kt_up kt_BadNumber_BadSize (by decide +kernel), kt_up kt_BadNumber_UnknownName (by decide +kernel), kt_up kt_BadNumber_BadName (by decide +kernel), kt_up kt_BadNumber_NotFine (by decide +kernel), kt_up kt_BadNumber_TooDeep (by decide +kernel), kt_up kt_BadNumber_NothingToRedo (by decide +kernel), kt_up kt_BadNumber_NothingToUndo (by decide +kernel), kt_up kt_BadNumber_InUse (by decide +kernel), kt_up kt_BadNumber_Circle (by decide +kernel), kt_up kt_BadNumber_BadEntry (by decide +kernel), kt_up kt_BadNumber_BadText (by decide +kernel)⟩, ⟨kt_up kt_BadForm_BadSign (by decide +kernel), kt_up kt_BadForm_BadForm (by decide +kernel), kt_up kt_BadForm_BadNumber (by decide +kernel), kt_up kt_BadForm_BadSize (by decide +kernel), kt_up kt_BadForm_UnknownName (by decide +kernel), kt_up kt_BadForm_BadName (by decide +kernel), kt_up kt_BadForm_NotFine (by decide +kernel), kt_up kt_BadForm_TooDeep (by decide +kernel), kt_up kt_BadForm_NothingToRedo (by decide +kernel), kt_up kt_BadForm_NothingToUndo (by decide +kernel), kt_up kt_BadForm_InUse (by decide +kernel), kt_up kt_BadForm_Circle (by decide +kernel), kt_up kt_BadForm_BadEntry (by decide +kernel), kt_up kt_BadForm_BadText (by decide +kernel)⟩, ⟨kt_up kt_BadSign_BadSign (by decide +kernel), kt_up kt_BadSign_BadForm (by decide +kernel), kt_up kt_BadSign_BadNumber (by decide +kernel), kt_up kt_BadSign_BadSize (by decide +kernel), kt_up kt_BadSign_UnknownName (by decide +kernel), kt_up kt_BadSign_BadName (by decide +kernel), kt_up kt_BadSign_NotFine (by decide +kernel), kt_up kt_BadSign_TooDeep (by decide +kernel), kt_up kt_BadSign_NothingToRedo (by decide +kernel), kt_up kt_BadSign_NothingToUndo (by decide +kernel), kt_up kt_BadSign_InUse (by decide +kernel), kt_up kt_BadSign_Circle (by decide +kernel), kt_up kt_BadSign_BadEntry (by decide +kernel), kt_up kt_BadSign_BadText (by decide +kernel)⟩, ⟨kt_up kt_TooDeep_BadSign (by decide +kernel), kt_up kt_TooDeep_BadForm (by decide +kernel), kt_up kt_TooDeep_BadNumber (by decide +kernel), kt_up kt_TooDeep_BadSize (by decide +kernel), kt_up kt_TooDeep_UnknownName (by decide +kernel), kt_up kt_TooDeep_BadName (by decide +kernel), kt_up kt_TooDeep_NotFine (by decide +kernel), kt_up kt_TooDeep_TooDeep (by decide +kernel), kt_up kt_TooDeep_NothingToRedo (by decide +kernel), kt_up kt_TooDeep_NothingToUndo (by decide +kernel), kt_up kt_TooDeep_InUse (by decide +kernel), kt_up kt_TooDeep_Circle (by decide +kernel), kt_up kt_TooDeep_BadEntry (by decide +kernel), kt_up kt_TooDeep_BadText (by decide +kernel)⟩, ⟨kt_up kt_NotFine_BadSign (by decide +kernel), kt_up kt_NotFine_BadForm (by decide +kernel), kt_up kt_NotFine_BadNumber (by decide +kernel), kt_up kt_NotFine_BadSize (by decide +kernel), kt_up kt_NotFine_UnknownName (by decide +kernel), kt_up kt_NotFine_BadName (by decide +kernel), kt_up kt_NotFine_NotFine (by decide +kernel), kt_up kt_NotFine_TooDeep (by decide +kernel), kt_up kt_NotFine_NothingToRedo (by decide +kernel), kt_up kt_NotFine_NothingToUndo (by decide +kernel), kt_up kt_NotFine_InUse (by decide +kernel), kt_up kt_NotFine_Circle (by decide +kernel), kt_up kt_NotFine_BadEntry (by decide +kernel), kt_up kt_NotFine_BadText (by decide +kernel)⟩, ⟨kt_up kt_BadName_BadSign (by decide +kernel), kt_up kt_BadName_BadForm (by decide +kernel), kt_up kt_BadName_BadNumber (by decide +kernel), kt_up kt_BadName_BadSize (by decide +kernel), kt_up kt_BadName_UnknownName (by decide +kernel), kt_up kt_BadName_BadName (by decide +kernel), kt_up kt_BadName_NotFine (by decide +kernel), kt_up kt_BadName_TooDeep (by decide +kernel), kt_up kt_BadName_NothingToRedo (by decide +kernel), kt_up kt_BadName_NothingToUndo (by decide +kernel), kt_up kt_BadName_InUse (by decide +kernel), kt_up kt_BadName_Circle (by decide +kernel), kt_up kt_BadName_BadEntry (by decide +kernel), kt_up kt_BadName_BadText (by decide +kernel)⟩, ⟨kt_up kt_UnknownName_BadSign (by decide +kernel), kt_up kt_UnknownName_BadForm (by decide +kernel), kt_up kt_UnknownName_BadNumber (by decide +kernel), kt_up kt_UnknownName_BadSize (by decide +kernel), kt_up kt_UnknownName_UnknownName (by decide +kernel), kt_up kt_UnknownName_BadName (by decide +kernel), kt_up kt_UnknownName_NotFine (by decide +kernel), kt_up kt_UnknownName_TooDeep (by decide +kernel), kt_up kt_UnknownName_NothingToRedo (by decide +kernel), kt_up kt_UnknownName_NothingToUndo (by decide +kernel), kt_up kt_UnknownName_InUse (by decide +kernel), kt_up kt_UnknownName_Circle (by decide +kernel), kt_up kt_UnknownName_BadEntry (by decide +kernel), kt_up kt_UnknownName_BadText (by decide +kernel)⟩, ⟨kt_up kt_Circle_BadSign (by decide +kernel), kt_up kt_Circle_BadForm (by decide +kernel), kt_up kt_Circle_BadNumber (by decide +kernel), kt_up kt_Circle_BadSize (by decide +kernel), kt_up kt_Circle_UnknownName (by decide +kernel), kt_up kt_Circle_BadName (by decide +kernel), kt_up kt_Circle_NotFine (by decide +kernel), kt_up kt_Circle_TooDeep (by decide +kernel), kt_up kt_Circle_NothingToRedo (by decide +kernel), kt_up kt_Circle_NothingToUndo (by decide +kernel), kt_up kt_Circle_InUse (by decide +kernel), kt_up kt_Circle_Circle (by decide +kernel), kt_up kt_Circle_BadEntry (by decide +kernel), kt_up kt_Circle_BadText (by decide +kernel)⟩, ⟨kt_up kt_InUse_BadSign (by decide +kernel), kt_up kt_InUse_BadForm (by decide +kernel), kt_up kt_InUse_BadNumber (by decide +kernel), kt_up kt_InUse_BadSize (by decide +kernel), kt_up kt_InUse_UnknownName (by decide +kernel), kt_up kt_InUse_BadName (by decide +kernel), kt_up kt_InUse_NotFine (by decide +kernel), kt_up kt_InUse_TooDeep (by decide +kernel), kt_up kt_InUse_NothingToRedo (by decide +kernel), kt_up kt_InUse_NothingToUndo (by decide +kernel), kt_up kt_InUse_InUse (by decide +kernel), kt_up kt_InUse_Circle (by decide +kernel), kt_up kt_InUse_BadEntry (by decide +kernel), kt_up kt_InUse_BadText (by decide +kernel)⟩, ⟨kt_up kt_NothingToUndo_BadSign (by decide +kernel), kt_up kt_NothingToUndo_BadForm (by decide +kernel), kt_up kt_NothingToUndo_BadNumber (by decide +kernel), kt_up kt_NothingToUndo_BadSize (by decide +kernel), kt_up kt_NothingToUndo_UnknownName (by decide +kernel), kt_up kt_NothingToUndo_BadName (by decide +kernel), kt_up kt_NothingToUndo_NotFine (by decide +kernel), kt_up kt_NothingToUndo_TooDeep (by decide +kernel), kt_up kt_NothingToUndo_NothingToRedo (by decide +kernel), kt_up kt_NothingToUndo_NothingToUndo (by decide +kernel), kt_up kt_NothingToUndo_InUse (by decide +kernel), kt_up kt_NothingToUndo_Circle (by decide +kernel), kt_up kt_NothingToUndo_BadEntry (by decide +kernel), kt_up kt_NothingToUndo_BadText (by decide +kernel)⟩, ⟨kt_up kt_NothingToRedo_BadSign (by decide +kernel), kt_up kt_NothingToRedo_BadForm (by decide +kernel), kt_up kt_NothingToRedo_BadNumber (by decide +kernel), kt_up kt_NothingToRedo_BadSize (by decide +kernel), kt_up kt_NothingToRedo_UnknownName (by decide +kernel), kt_up kt_NothingToRedo_BadName (by decide +kernel), kt_up kt_NothingToRedo_NotFine (by decide +kernel), kt_up kt_NothingToRedo_TooDeep (by decide +kernel), kt_up kt_NothingToRedo_NothingToRedo (by decide +kernel), kt_up kt_NothingToRedo_NothingToUndo (by decide +kernel), kt_up kt_NothingToRedo_InUse (by decide +kernel), kt_up kt_NothingToRedo_Circle (by decide +kernel), kt_up kt_NothingToRedo_BadEntry (by decide +kernel), kt_up kt_NothingToRedo_BadText (by decide +kernel)⟩, ⟨kt_up kt_BadText_BadSign (by decide +kernel), kt_up kt_BadText_BadForm (by decide +kernel), kt_up kt_BadText_BadNumber (by decide +kernel), kt_up kt_BadText_BadSize (by decide +kernel), kt_up kt_BadText_UnknownName (by decide +kernel), kt_up kt_BadText_BadName (by decide +kernel), kt_up kt_BadText_NotFine (by decide +kernel), kt_up kt_BadText_TooDeep (by decide +kernel), kt_up kt_BadText_NothingToRedo (by decide +kernel), kt_up kt_BadText_NothingToUndo (by decide +kernel), kt_up kt_BadText_InUse (by decide +kernel), kt_up kt_BadText_Circle (by decide +kernel), kt_up kt_BadText_BadEntry (by decide +kernel), kt_up kt_BadText_BadText (by decide +kernel)⟩, ⟨kt_up kt_BadEntry_BadSign (by decide +kernel), kt_up kt_BadEntry_BadForm (by decide +kernel), kt_up kt_BadEntry_BadNumber (by decide +kernel), kt_up kt_BadEntry_BadSize (by decide +kernel), kt_up kt_BadEntry_UnknownName (by decide +kernel), kt_up kt_BadEntry_BadName (by decide +kernel), kt_up kt_BadEntry_NotFine (by decide +kernel), kt_up kt_BadEntry_TooDeep (by decide +kernel), kt_up kt_BadEntry_NothingToRedo (by decide +kernel), kt_up kt_BadEntry_NothingToUndo (by decide +kernel), kt_up kt_BadEntry_InUse (by decide +kernel), kt_up kt_BadEntry_Circle (by decide +kernel), kt_up kt_BadEntry_BadEntry (by decide +kernel), kt_up kt_BadEntry_BadText (by decide +kernel)⟩⟩)
  have OT__law_alone : ∀ p ∈ ([("BadSize", a_BadSize), ("BadNumber", a_BadNumber), ("BadForm", a_BadForm), ("BadSign", a_BadSign), ("TooDeep", a_TooDeep), ("NotFine", a_NotFine), ("BadName", a_BadName), ("UnknownName", a_UnknownName), ("Circle", a_Circle), ("InUse", a_InUse), ("NothingToUndo", a_NothingToUndo), ("NothingToRedo", a_NothingToRedo), ("BadText", a_BadText), ("BadEntry", a_BadEntry)] : List (Str × Addr)), ∀ q ∈ ([("ValueError", .type "ValueError"), ("WhereError", .ref a_WhereError)] : List (Str × Value)), PySem.W.kitOne K (.ref p.2) q.2 = some (isaX tabO p.1 q.1) := (by simp only [List.forall_mem_cons, List.not_mem_nil, false_implies, implies_true, and_true]; exact ⟨⟨kt_up kt_BadSize_ValueError (by decide +kernel), kt_up kt_BadSize_WhereError (by decide +kernel)⟩, ⟨kt_up kt_BadNumber_ValueError (by decide +kernel), kt_up kt_BadNumber_WhereError (by decide +kernel)⟩, ⟨kt_up kt_BadForm_ValueError (by decide +kernel), kt_up kt_BadForm_WhereError (by decide +kernel)⟩, ⟨kt_up kt_BadSign_ValueError (by decide +kernel), kt_up kt_BadSign_WhereError (by decide +kernel)⟩, ⟨kt_up kt_TooDeep_ValueError (by decide +kernel), kt_up kt_TooDeep_WhereError (by decide +kernel)⟩, ⟨kt_up kt_NotFine_ValueError (by decide +kernel), kt_up kt_NotFine_WhereError (by decide +kernel)⟩, ⟨kt_up kt_BadName_ValueError (by decide +kernel), kt_up kt_BadName_WhereError (by decide +kernel)⟩, ⟨kt_up kt_UnknownName_ValueError (by decide +kernel), kt_up kt_UnknownName_WhereError (by decide +kernel)⟩, ⟨kt_up kt_Circle_ValueError (by decide +kernel), kt_up kt_Circle_WhereError (by decide +kernel)⟩, ⟨kt_up kt_InUse_ValueError (by decide +kernel), kt_up kt_InUse_WhereError (by decide +kernel)⟩, ⟨kt_up kt_NothingToUndo_ValueError (by decide +kernel), kt_up kt_NothingToUndo_WhereError (by decide +kernel)⟩, ⟨kt_up kt_NothingToRedo_ValueError (by decide +kernel), kt_up kt_NothingToRedo_WhereError (by decide +kernel)⟩, ⟨kt_up kt_BadText_ValueError (by decide +kernel), kt_up kt_BadText_WhereError (by decide +kernel)⟩, ⟨kt_up kt_BadEntry_ValueError (by decide +kernel), kt_up kt_BadEntry_WhereError (by decide +kernel)⟩⟩)
  have z_range : mg "range" = none := PySem.W.mg_none_of X G zz_range
  have z_len : mg "len" = none := PySem.W.mg_none_of X G zz_len
  have z_int : mg "int" = none := PySem.W.mg_none_of X G zz_int
  have z_isinstance : mg "isinstance" = none := PySem.W.mg_none_of X G zz_isinstance
  have z_ValueError : mg "ValueError" = none := PySem.W.mg_none_of X G zz_ValueError
  have z_all : mg "all" = none := PySem.W.mg_none_of X G zz_all
  have z_super : mg "super" = none := PySem.W.mg_none_of X G zz_super
  have C__law_draws := fun base => wd__law_draws (P := P) (w := w) (base := base) D__law_draws z_range z_len z_int
  have C__law_marks := fun base => wd__law_marks (P := P) (w := w) (base := base) D__law_marks m_BadSign m_BadForm m_BadNumber m_BadSize m_UnknownName m_BadName m_NotFine m_TooDeep m_NothingToRedo m_NothingToUndo m_InUse m_Circle m_BadEntry m_BadText OX OT__law_marks z_isinstance
  have C__law_alone := fun base => wd__law_alone (P := P) (w := w) (base := base) D__law_alone (C__law_marks base) m_WhereError OX OT__law_alone z_isinstance z_ValueError z_all z_range z_len
  have C__law_plain_errors := fun base => wd__law_plain_errors (P := P) (w := w) (base := base) D__law_plain_errors (C__law_alone base) m_BadForm m_BadNumber m_BadSize m_NotFine m_TooDeep m_BadSign m_Circle m_UnknownName m_BadName m_NothingToRedo m_NothingToUndo m_InUse O_BadForm O_BadNumber O_BadSize O_NotFine O_TooDeep O_BadSign O_Circle O_UnknownName O_BadName O_NothingToRedo O_NothingToUndo O_InUse z_super z_all
  have C_law := fun base => wd_law (P := P) (w := w) (base := base) F4 (C__law_draws base) (C__law_alone base) (C__law_plain_errors base) m_BadText m_BadEntry O_BadText O_BadEntry z_super z_int
  exact ⟨PySem.W.fnOf "law" "law" (defArgs ws_law) (defBody ws_law) (defScope ws_law) .none kV4 dc4 pm4 an4 cd4 ct4, fun s u => .of_eq rfl, C_law⟩
end W
open PySem PySem.W PyProof.Rows VL
set_option maxHeartbeats 0 in
theorem PySem.Challenge.cw_wheretrue_k00_errors_stand_apart_holds : PySem.Challenge.rw_wheretrue_k00_errors_stand_apart.Holds := by
  w_on; o_law; k_head; (case hw => w_witness2)
  k_fill
  refine VL.law_end (l := PySem.Challenge.rw_wheretrue_k00_errors_stand_apart) (k := 4) (x := "_law_script") (m := W.m_law) rfl rfl ⟨rfl, by decide, by decide⟩ (fun w h Y => PySem.W.kIn_of Y) W.law_true ?F
  case F =>
    intro w mg fa h KX G hmg
    refine' W.all_mk KX G hmg ?a0 ?l0 ?c0 ?k0 ?a1 ?l1 ?c1 ?k1 ?a2 ?l2 ?c2 ?k2 ?a3 ?l3 ?c3 ?k3 ?a4 ?l4 ?c4 ?k4 ?ac_BadSign ?ac_BadForm ?ac_BadNumber ?ac_BadSize ?ac_UnknownName ?ac_BadName ?ac_NotFine ?ac_TooDeep ?ac_NothingToRedo ?ac_NothingToUndo ?ac_InUse ?ac_Circle ?ac_BadEntry ?ac_BadText ?ac_WhereError ?O_BadSize ?O_BadNumber ?O_BadForm ?O_BadSign ?O_TooDeep ?O_NotFine ?O_BadName ?O_UnknownName ?O_Circle ?O_InUse ?O_NothingToUndo ?O_NothingToRedo ?O_BadText ?O_BadEntry ?kt_BadSize_BadSign ?kt_BadSize_BadForm ?kt_BadSize_BadNumber ?kt_BadSize_BadSize ?kt_BadSize_UnknownName ?kt_BadSize_BadName ?kt_BadSize_NotFine ?kt_BadSize_TooDeep ?kt_BadSize_NothingToRedo ?kt_BadSize_NothingToUndo ?kt_BadSize_InUse ?kt_BadSize_Circle ?kt_BadSize_BadEntry ?kt_BadSize_BadText ?kt_BadSize_ValueError ?kt_BadSize_WhereError ?kt_BadNumber_BadSign ?kt_BadNumber_BadForm ?kt_BadNumber_BadNumber ?kt_BadNumber_BadSize ?kt_BadNumber_UnknownName ?kt_BadNumber_BadName ?kt_BadNumber_NotFine ?kt_BadNumber_TooDeep ?kt_BadNumber_NothingToRedo ?kt_BadNumber_NothingToUndo ?kt_BadNumber_InUse ?kt_BadNumber_Circle ?kt_BadNumber_BadEntry ?kt_BadNumber_BadText ?kt_BadNumber_ValueError ?kt_BadNumber_WhereError ?kt_BadForm_BadSign ?kt_BadForm_BadForm ?kt_BadForm_BadNumber ?kt_BadForm_BadSize ?kt_BadForm_UnknownName ?kt_BadForm_BadName ?kt_BadForm_NotFine ?kt_BadForm_TooDeep ?kt_BadForm_NothingToRedo ?kt_BadForm_NothingToUndo ?kt_BadForm_InUse ?kt_BadForm_Circle ?kt_BadForm_BadEntry ?kt_BadForm_BadText ?kt_BadForm_ValueError ?kt_BadForm_WhereError ?kt_BadSign_BadSign ?kt_BadSign_BadForm ?kt_BadSign_BadNumber ?kt_BadSign_BadSize ?kt_BadSign_UnknownName ?kt_BadSign_BadName ?kt_BadSign_NotFine ?kt_BadSign_TooDeep ?kt_BadSign_NothingToRedo ?kt_BadSign_NothingToUndo ?kt_BadSign_InUse ?kt_BadSign_Circle ?kt_BadSign_BadEntry ?kt_BadSign_BadText ?kt_BadSign_ValueError ?kt_BadSign_WhereError ?kt_TooDeep_BadSign ?kt_TooDeep_BadForm ?kt_TooDeep_BadNumber ?kt_TooDeep_BadSize ?kt_TooDeep_UnknownName ?kt_TooDeep_BadName ?kt_TooDeep_NotFine ?kt_TooDeep_TooDeep ?kt_TooDeep_NothingToRedo ?kt_TooDeep_NothingToUndo ?kt_TooDeep_InUse ?kt_TooDeep_Circle ?kt_TooDeep_BadEntry ?kt_TooDeep_BadText ?kt_TooDeep_ValueError ?kt_TooDeep_WhereError ?kt_NotFine_BadSign ?kt_NotFine_BadForm ?kt_NotFine_BadNumber ?kt_NotFine_BadSize ?kt_NotFine_UnknownName ?kt_NotFine_BadName ?kt_NotFine_NotFine ?kt_NotFine_TooDeep ?kt_NotFine_NothingToRedo ?kt_NotFine_NothingToUndo ?kt_NotFine_InUse ?kt_NotFine_Circle ?kt_NotFine_BadEntry ?kt_NotFine_BadText ?kt_NotFine_ValueError ?kt_NotFine_WhereError ?kt_BadName_BadSign ?kt_BadName_BadForm ?kt_BadName_BadNumber ?kt_BadName_BadSize ?kt_BadName_UnknownName ?kt_BadName_BadName ?kt_BadName_NotFine ?kt_BadName_TooDeep ?kt_BadName_NothingToRedo ?kt_BadName_NothingToUndo ?kt_BadName_InUse ?kt_BadName_Circle ?kt_BadName_BadEntry ?kt_BadName_BadText ?kt_BadName_ValueError ?kt_BadName_WhereError ?kt_UnknownName_BadSign ?kt_UnknownName_BadForm ?kt_UnknownName_BadNumber ?kt_UnknownName_BadSize ?kt_UnknownName_UnknownName ?kt_UnknownName_BadName ?kt_UnknownName_NotFine ?kt_UnknownName_TooDeep ?kt_UnknownName_NothingToRedo ?kt_UnknownName_NothingToUndo ?kt_UnknownName_InUse ?kt_UnknownName_Circle ?kt_UnknownName_BadEntry ?kt_UnknownName_BadText ?kt_UnknownName_ValueError ?kt_UnknownName_WhereError ?kt_Circle_BadSign ?kt_Circle_BadForm ?kt_Circle_BadNumber ?kt_Circle_BadSize ?kt_Circle_UnknownName ?kt_Circle_BadName ?kt_Circle_NotFine ?kt_Circle_TooDeep ?kt_Circle_NothingToRedo ?kt_Circle_NothingToUndo ?kt_Circle_InUse ?kt_Circle_Circle ?kt_Circle_BadEntry ?kt_Circle_BadText ?kt_Circle_ValueError ?kt_Circle_WhereError ?kt_InUse_BadSign ?kt_InUse_BadForm ?kt_InUse_BadNumber ?kt_InUse_BadSize ?kt_InUse_UnknownName ?kt_InUse_BadName ?kt_InUse_NotFine ?kt_InUse_TooDeep ?kt_InUse_NothingToRedo ?kt_InUse_NothingToUndo ?kt_InUse_InUse ?kt_InUse_Circle ?kt_InUse_BadEntry ?kt_InUse_BadText ?kt_InUse_ValueError ?kt_InUse_WhereError ?kt_NothingToUndo_BadSign ?kt_NothingToUndo_BadForm ?kt_NothingToUndo_BadNumber ?kt_NothingToUndo_BadSize ?kt_NothingToUndo_UnknownName ?kt_NothingToUndo_BadName ?kt_NothingToUndo_NotFine ?kt_NothingToUndo_TooDeep ?kt_NothingToUndo_NothingToRedo ?kt_NothingToUndo_NothingToUndo ?kt_NothingToUndo_InUse ?kt_NothingToUndo_Circle ?kt_NothingToUndo_BadEntry ?kt_NothingToUndo_BadText ?kt_NothingToUndo_ValueError ?kt_NothingToUndo_WhereError ?kt_NothingToRedo_BadSign ?kt_NothingToRedo_BadForm ?kt_NothingToRedo_BadNumber ?kt_NothingToRedo_BadSize ?kt_NothingToRedo_UnknownName ?kt_NothingToRedo_BadName ?kt_NothingToRedo_NotFine ?kt_NothingToRedo_TooDeep ?kt_NothingToRedo_NothingToRedo ?kt_NothingToRedo_NothingToUndo ?kt_NothingToRedo_InUse ?kt_NothingToRedo_Circle ?kt_NothingToRedo_BadEntry ?kt_NothingToRedo_BadText ?kt_NothingToRedo_ValueError ?kt_NothingToRedo_WhereError ?kt_BadText_BadSign ?kt_BadText_BadForm ?kt_BadText_BadNumber ?kt_BadText_BadSize ?kt_BadText_UnknownName ?kt_BadText_BadName ?kt_BadText_NotFine ?kt_BadText_TooDeep ?kt_BadText_NothingToRedo ?kt_BadText_NothingToUndo ?kt_BadText_InUse ?kt_BadText_Circle ?kt_BadText_BadEntry ?kt_BadText_BadText ?kt_BadText_ValueError ?kt_BadText_WhereError ?kt_BadEntry_BadSign ?kt_BadEntry_BadForm ?kt_BadEntry_BadNumber ?kt_BadEntry_BadSize ?kt_BadEntry_UnknownName ?kt_BadEntry_BadName ?kt_BadEntry_NotFine ?kt_BadEntry_TooDeep ?kt_BadEntry_NothingToRedo ?kt_BadEntry_NothingToUndo ?kt_BadEntry_InUse ?kt_BadEntry_Circle ?kt_BadEntry_BadEntry ?kt_BadEntry_BadText ?kt_BadEntry_ValueError ?kt_BadEntry_WhereError ?zz_range ?zz_len ?zz_int ?zz_isinstance ?zz_ValueError ?zz_all ?zz_super
    (case a0 => k_is); (case l0 => k_is); (case c0 => k_is); (case k0 => k_is); (case a1 => k_is); (case l1 => k_is); (case c1 => k_is); (case k1 => k_is); (case a2 => k_is); (case l2 => k_is); (case c2 => k_is); (case k2 => k_is); (case a3 => k_is); (case l3 => k_is); (case c3 => k_is); (case k3 => k_is); (case a4 => k_is); (case l4 => k_is); (case c4 => k_is); (case k4 => k_is); (case ac_BadSign => k_is); (case ac_BadForm => k_is); (case ac_BadNumber => k_is); (case ac_BadSize => k_is); (case ac_UnknownName => k_is); (case ac_BadName => k_is); (case ac_NotFine => k_is); (case ac_TooDeep => k_is); (case ac_NothingToRedo => k_is); (case ac_NothingToUndo => k_is); (case ac_InUse => k_is); (case ac_Circle => k_is); (case ac_BadEntry => k_is); (case ac_BadText => k_is); (case ac_WhereError => k_is); (case O_BadSize => (refine' VL.exO_mk0 ?nm ?iC ?tI ?lk ?code ?lc ?fil ?fe ?lcell ?ini ?cl ?rv ?hdc ?sa ?sub ?sup ?subB ?exC ?kC ?op ?hg ?hk ?hd ?ha ?hn ?ht ?hm ?nof ?par ?binds ?bself ?bpar ?bloc ?bdb ?few ?ks ?kc ?kind ?co ?gen ?nc ?top ?ev; (case nm => k_is); (case iC => k_is); (case tI => k_is); (case lk => k_is); (case code => k_is); (case lc => k_is); (case fil => rfl); (case fe => decide); (case lcell => k_is); (case ini => kx_is); (case cl => k_is); (case rv => first | rfl | decide +kernel); (case hdc => rfl); (case sa => k_is); (case sub => k_is); (case sup => ks_is); (case subB => k_is); (case exC => k_is); (case kC => k_is); (case op => k_is); (case hg => k_is); (case hk => k_is); (case hd => k_is); (case ha => k_is); (case hn => k_is); (case ht => k_is); (case hm => k_is); (case nof => (refine' fun _ h => nomatch h)); (case par => rfl); (case binds => exact fun _ _ _ _ _ _ us _ hl => match us, hl with | [], _ => .of_eq rfl); (case bself => exact fun _ us hl => match us, hl with | [], _ => rfl); (case bpar => exact fun _ us hl => match us, hl with | [], _ => fun q hq => nomatch hq); (case bloc => first | decide +kernel | decide); (case bdb => first | decide +kernel | decide); (case few => decide); (case ks => rfl); (case kc => rfl); (case kind => rfl); (case co => rfl); (case gen => rfl); (case nc => decide); (case top => decide +kernel); (case ev => exact fun _ => ⟨_, rfl⟩))); (case O_BadNumber => (refine' VL.exO_mk0 ?nm ?iC ?tI ?lk ?code ?lc ?fil ?fe ?lcell ?ini ?cl ?rv ?hdc ?sa ?sub ?sup ?subB ?exC ?kC ?op ?hg ?hk ?hd ?ha ?hn ?ht ?hm ?nof ?par ?binds ?bself ?bpar ?bloc ?bdb ?few ?ks ?kc ?kind ?co ?gen ?nc ?top ?ev; (case nm => k_is); (case iC => k_is); (case tI => k_is); (case lk => k_is); (case code => k_is); (case lc => k_is); (case fil => rfl); (case fe => decide); (case lcell => k_is); (case ini => kx_is); (case cl => k_is); (case rv => first | rfl | decide +kernel); (case hdc => rfl); (case sa => k_is); (case sub => k_is); (case sup => ks_is); (case subB => k_is); (case exC => k_is); (case kC => k_is); (case op => k_is); (case hg => k_is); (case hk => k_is); (case hd => k_is); (case ha => k_is); (case hn => k_is); (case ht => k_is); (case hm => k_is); (case nof => (refine' fun _ h => nomatch h)); (case par => rfl); (case binds => exact fun _ _ _ _ _ _ us _ hl => match us, hl with | [], _ => .of_eq rfl); (case bself => exact fun _ us hl => match us, hl with | [], _ => rfl); (case bpar => exact fun _ us hl => match us, hl with | [], _ => fun q hq => nomatch hq); (case bloc => first | decide +kernel | decide); (case bdb => first | decide +kernel | decide); (case few => decide); (case ks => rfl); (case kc => rfl); (case kind => rfl); (case co => rfl); (case gen => rfl); (case nc => decide); (case top => decide +kernel); (case ev => exact fun _ => ⟨_, rfl⟩))); (case O_BadForm => (refine' VL.exO_mk0 ?nm ?iC ?tI ?lk ?code ?lc ?fil ?fe ?lcell ?ini ?cl ?rv ?hdc ?sa ?sub ?sup ?subB ?exC ?kC ?op ?hg ?hk ?hd ?ha ?hn ?ht ?hm ?nof ?par ?binds ?bself ?bpar ?bloc ?bdb ?few ?ks ?kc ?kind ?co ?gen ?nc ?top ?ev; (case nm => k_is); (case iC => k_is); (case tI => k_is); (case lk => k_is); (case code => k_is); (case lc => k_is); (case fil => rfl); (case fe => decide); (case lcell => k_is); (case ini => kx_is); (case cl => k_is); (case rv => first | rfl | decide +kernel); (case hdc => rfl); (case sa => k_is); (case sub => k_is); (case sup => ks_is); (case subB => k_is); (case exC => k_is); (case kC => k_is); (case op => k_is); (case hg => k_is); (case hk => k_is); (case hd => k_is); (case ha => k_is); (case hn => k_is); (case ht => k_is); (case hm => k_is); (case nof => (refine' fun _ h => nomatch h)); (case par => rfl); (case binds => exact fun _ _ _ _ _ _ us _ hl => match us, hl with | [], _ => .of_eq rfl); (case bself => exact fun _ us hl => match us, hl with | [], _ => rfl); (case bpar => exact fun _ us hl => match us, hl with | [], _ => fun q hq => nomatch hq); (case bloc => first | decide +kernel | decide); (case bdb => first | decide +kernel | decide); (case few => decide); (case ks => rfl); (case kc => rfl); (case kind => rfl); (case co => rfl); (case gen => rfl); (case nc => decide); (case top => decide +kernel); (case ev => exact fun _ => ⟨_, rfl⟩))); (case O_BadSign => (refine' VL.exO_mk0 ?nm ?iC ?tI ?lk ?code ?lc ?fil ?fe ?lcell ?ini ?cl ?rv ?hdc ?sa ?sub ?sup ?subB ?exC ?kC ?op ?hg ?hk ?hd ?ha ?hn ?ht ?hm ?nof ?par ?binds ?bself ?bpar ?bloc ?bdb ?few ?ks ?kc ?kind ?co ?gen ?nc ?top ?ev; (case nm => k_is); (case iC => k_is); (case tI => k_is); (case lk => k_is); (case code => k_is); (case lc => k_is); (case fil => rfl); (case fe => decide); (case lcell => k_is); (case ini => kx_is); (case cl => k_is); (case rv => first | rfl | decide +kernel); (case hdc => rfl); (case sa => k_is); (case sub => k_is); (case sup => ks_is); (case subB => k_is); (case exC => k_is); (case kC => k_is); (case op => k_is); (case hg => k_is); (case hk => k_is); (case hd => k_is); (case ha => k_is); (case hn => k_is); (case ht => k_is); (case hm => k_is); (case nof => (refine' fun _ h => nomatch h)); (case par => rfl); (case binds => exact fun _ _ _ _ _ _ us _ hl => match us, hl with | [], _ => .of_eq rfl); (case bself => exact fun _ us hl => match us, hl with | [], _ => rfl); (case bpar => exact fun _ us hl => match us, hl with | [], _ => fun q hq => nomatch hq); (case bloc => first | decide +kernel | decide); (case bdb => first | decide +kernel | decide); (case few => decide); (case ks => rfl); (case kc => rfl); (case kind => rfl); (case co => rfl); (case gen => rfl); (case nc => decide); (case top => decide +kernel); (case ev => exact fun _ => ⟨_, rfl⟩))); (case O_TooDeep => (refine' VL.exO_mk0 ?nm ?iC ?tI ?lk ?code ?lc ?fil ?fe ?lcell ?ini ?cl ?rv ?hdc ?sa ?sub ?sup ?subB ?exC ?kC ?op ?hg ?hk ?hd ?ha ?hn ?ht ?hm ?nof ?par ?binds ?bself ?bpar ?bloc ?bdb ?few ?ks ?kc ?kind ?co ?gen ?nc ?top ?ev; (case nm => k_is); (case iC => k_is); (case tI => k_is); (case lk => k_is); (case code => k_is); (case lc => k_is); (case fil => rfl); (case fe => decide); (case lcell => k_is); (case ini => kx_is); (case cl => k_is); (case rv => first | rfl | decide +kernel); (case hdc => rfl); (case sa => k_is); (case sub => k_is); (case sup => ks_is); (case subB => k_is); (case exC => k_is); (case kC => k_is); (case op => k_is); (case hg => k_is); (case hk => k_is); (case hd => k_is); (case ha => k_is); (case hn => k_is); (case ht => k_is); (case hm => k_is); (case nof => (refine' fun _ h => nomatch h)); (case par => rfl); (case binds => exact fun _ _ _ _ _ _ us _ hl => match us, hl with | [], _ => .of_eq rfl); (case bself => exact fun _ us hl => match us, hl with | [], _ => rfl); (case bpar => exact fun _ us hl => match us, hl with | [], _ => fun q hq => nomatch hq); (case bloc => first | decide +kernel | decide); (case bdb => first | decide +kernel | decide); (case few => decide); (case ks => rfl); (case kc => rfl); (case kind => rfl); (case co => rfl); (case gen => rfl); (case nc => decide); (case top => decide +kernel); (case ev => exact fun _ => ⟨_, rfl⟩))); (case O_NotFine => (refine' VL.exO_mk0 ?nm ?iC ?tI ?lk ?code ?lc ?fil ?fe ?lcell ?ini ?cl ?rv ?hdc ?sa ?sub ?sup ?subB ?exC ?kC ?op ?hg ?hk ?hd ?ha ?hn ?ht ?hm ?nof ?par ?binds ?bself ?bpar ?bloc ?bdb ?few ?ks ?kc ?kind ?co ?gen ?nc ?top ?ev; (case nm => k_is); (case iC => k_is); (case tI => k_is); (case lk => k_is); (case code => k_is); (case lc => k_is); (case fil => rfl); (case fe => decide); (case lcell => k_is); (case ini => kx_is); (case cl => k_is); (case rv => first | rfl | decide +kernel); (case hdc => rfl); (case sa => k_is); (case sub => k_is); (case sup => ks_is); (case subB => k_is); (case exC => k_is); (case kC => k_is); (case op => k_is); (case hg => k_is); (case hk => k_is); (case hd => k_is); (case ha => k_is); (case hn => k_is); (case ht => k_is); (case hm => k_is); (case nof => (refine' fun _ h => nomatch h)); (case par => rfl); (case binds => exact fun _ _ _ _ _ _ us _ hl => match us, hl with | [], _ => .of_eq rfl); (case bself => exact fun _ us hl => match us, hl with | [], _ => rfl); (case bpar => exact fun _ us hl => match us, hl with | [], _ => fun q hq => nomatch hq); (case bloc => first | decide +kernel | decide); (case bdb => first | decide +kernel | decide); (case few => decide); (case ks => rfl); (case kc => rfl); (case kind => rfl); (case co => rfl); (case gen => rfl); (case nc => decide); (case top => decide +kernel); (case ev => exact fun _ => ⟨_, rfl⟩))); (case O_BadName => (refine' VL.exO_mk0 ?nm ?iC ?tI ?lk ?code ?lc ?fil ?fe ?lcell ?ini ?cl ?rv ?hdc ?sa ?sub ?sup ?subB ?exC ?kC ?op ?hg ?hk ?hd ?ha ?hn ?ht ?hm ?nof ?par ?binds ?bself ?bpar ?bloc ?bdb ?few ?ks ?kc ?kind ?co ?gen ?nc ?top ?ev; (case nm => k_is); (case iC => k_is); (case tI => k_is); (case lk => k_is); (case code => k_is); (case lc => k_is); (case fil => rfl); (case fe => decide); (case lcell => k_is); (case ini => kx_is); (case cl => k_is); (case rv => first | rfl | decide +kernel); (case hdc => rfl); (case sa => k_is); (case sub => k_is); (case sup => ks_is); (case subB => k_is); (case exC => k_is); (case kC => k_is); (case op => k_is); (case hg => k_is); (case hk => k_is); (case hd => k_is); (case ha => k_is); (case hn => k_is); (case ht => k_is); (case hm => k_is); (case nof => (refine' fun _ h => nomatch h)); (case par => rfl); (case binds => exact fun _ _ _ _ _ _ us _ hl => match us, hl with | [], _ => .of_eq rfl); (case bself => exact fun _ us hl => match us, hl with | [], _ => rfl); (case bpar => exact fun _ us hl => match us, hl with | [], _ => fun q hq => nomatch hq); (case bloc => first | decide +kernel | decide); (case bdb => first | decide +kernel | decide); (case few => decide); (case ks => rfl); (case kc => rfl); (case kind => rfl); (case co => rfl); (case gen => rfl); (case nc => decide); (case top => decide +kernel); (case ev => exact fun _ => ⟨_, rfl⟩))); (case O_UnknownName => (refine' VL.exO_mk0 ?nm ?iC ?tI ?lk ?code ?lc ?fil ?fe ?lcell ?ini ?cl ?rv ?hdc ?sa ?sub ?sup ?subB ?exC ?kC ?op ?hg ?hk ?hd ?ha ?hn ?ht ?hm ?nof ?par ?binds ?bself ?bpar ?bloc ?bdb ?few ?ks ?kc ?kind ?co ?gen ?nc ?top ?ev; (case nm => k_is); (case iC => k_is); (case tI => k_is); (case lk => k_is); (case code => k_is); (case lc => k_is); (case fil => rfl); (case fe => decide); (case lcell => k_is); (case ini => kx_is); (case cl => k_is); (case rv => first | rfl | decide +kernel); (case hdc => rfl); (case sa => k_is); (case sub => k_is); (case sup => ks_is); (case subB => k_is); (case exC => k_is); (case kC => k_is); (case op => k_is); (case hg => k_is); (case hk => k_is); (case hd => k_is); (case ha => k_is); (case hn => k_is); (case ht => k_is); (case hm => k_is); (case nof => (refine' fun _ h => nomatch h)); (case par => rfl); (case binds => exact fun _ _ _ _ _ _ us _ hl => match us, hl with | [], _ => .of_eq rfl); (case bself => exact fun _ us hl => match us, hl with | [], _ => rfl); (case bpar => exact fun _ us hl => match us, hl with | [], _ => fun q hq => nomatch hq); (case bloc => first | decide +kernel | decide); (case bdb => first | decide +kernel | decide); (case few => decide); (case ks => rfl); (case kc => rfl); (case kind => rfl); (case co => rfl); (case gen => rfl); (case nc => decide); (case top => decide +kernel); (case ev => exact fun _ => ⟨_, rfl⟩))); (case O_Circle => (refine' VL.exO_mk0 ?nm ?iC ?tI ?lk ?code ?lc ?fil ?fe ?lcell ?ini ?cl ?rv ?hdc ?sa ?sub ?sup ?subB ?exC ?kC ?op ?hg ?hk ?hd ?ha ?hn ?ht ?hm ?nof ?par ?binds ?bself ?bpar ?bloc ?bdb ?few ?ks ?kc ?kind ?co ?gen ?nc ?top ?ev; (case nm => k_is); (case iC => k_is); (case tI => k_is); (case lk => k_is); (case code => k_is); (case lc => k_is); (case fil => rfl); (case fe => decide); (case lcell => k_is); (case ini => kx_is); (case cl => k_is); (case rv => first | rfl | decide +kernel); (case hdc => rfl); (case sa => k_is); (case sub => k_is); (case sup => ks_is); (case subB => k_is); (case exC => k_is); (case kC => k_is); (case op => k_is); (case hg => k_is); (case hk => k_is); (case hd => k_is); (case ha => k_is); (case hn => k_is); (case ht => k_is); (case hm => k_is); (case nof => (refine' fun _ h => nomatch h)); (case par => rfl); (case binds => exact fun _ _ _ _ _ _ us _ hl => match us, hl with | [], _ => .of_eq rfl); (case bself => exact fun _ us hl => match us, hl with | [], _ => rfl); (case bpar => exact fun _ us hl => match us, hl with | [], _ => fun q hq => nomatch hq); (case bloc => first | decide +kernel | decide); (case bdb => first | decide +kernel | decide); (case few => decide); (case ks => rfl); (case kc => rfl); (case kind => rfl); (case co => rfl); (case gen => rfl); (case nc => decide); (case top => decide +kernel); (case ev => exact fun _ => ⟨_, rfl⟩))); (case O_InUse => (refine' VL.exO_mk0 ?nm ?iC ?tI ?lk ?code ?lc ?fil ?fe ?lcell ?ini ?cl ?rv ?hdc ?sa ?sub ?sup ?subB ?exC ?kC ?op ?hg ?hk ?hd ?ha ?hn ?ht ?hm ?nof ?par ?binds ?bself ?bpar ?bloc ?bdb ?few ?ks ?kc ?kind ?co ?gen ?nc ?top ?ev; (case nm => k_is); (case iC => k_is); (case tI => k_is); (case lk => k_is); (case code => k_is); (case lc => k_is); (case fil => rfl); (case fe => decide); (case lcell => k_is); (case ini => kx_is); (case cl => k_is); (case rv => first | rfl | decide +kernel); (case hdc => rfl); (case sa => k_is); (case sub => k_is); (case sup => ks_is); (case subB => k_is); (case exC => k_is); (case kC => k_is); (case op => k_is); (case hg => k_is); (case hk => k_is); (case hd => k_is); (case ha => k_is); (case hn => k_is); (case ht => k_is); (case hm => k_is); (case nof => (refine' fun _ h => nomatch h)); (case par => rfl); (case binds => exact fun _ _ _ _ _ _ us _ hl => match us, hl with | [], _ => .of_eq rfl); (case bself => exact fun _ us hl => match us, hl with | [], _ => rfl); (case bpar => exact fun _ us hl => match us, hl with | [], _ => fun q hq => nomatch hq); (case bloc => first | decide +kernel | decide); (case bdb => first | decide +kernel | decide); (case few => decide); (case ks => rfl); (case kc => rfl); (case kind => rfl); (case co => rfl); (case gen => rfl); (case nc => decide); (case top => decide +kernel); (case ev => exact fun _ => ⟨_, rfl⟩))); (case O_NothingToUndo => (refine' VL.exO_mk0 ?nm ?iC ?tI ?lk ?code ?lc ?fil ?fe ?lcell ?ini ?cl ?rv ?hdc ?sa ?sub ?sup ?subB ?exC ?kC ?op ?hg ?hk ?hd ?ha ?hn ?ht ?hm ?nof ?par ?binds ?bself ?bpar ?bloc ?bdb ?few ?ks ?kc ?kind ?co ?gen ?nc ?top ?ev; (case nm => k_is); (case iC => k_is); (case tI => k_is); (case lk => k_is); (case code => k_is); (case lc => k_is); (case fil => rfl); (case fe => decide); (case lcell => k_is); (case ini => kx_is); (case cl => k_is); (case rv => first | rfl | decide +kernel); (case hdc => rfl); (case sa => k_is); (case sub => k_is); (case sup => ks_is); (case subB => k_is); (case exC => k_is); (case kC => k_is); (case op => k_is); (case hg => k_is); (case hk => k_is); (case hd => k_is); (case ha => k_is); (case hn => k_is); (case ht => k_is); (case hm => k_is); (case nof => (refine' fun _ h => nomatch h)); (case par => rfl); (case binds => exact fun _ _ _ _ _ _ us _ hl => match us, hl with | [], _ => .of_eq rfl); (case bself => exact fun _ us hl => match us, hl with | [], _ => rfl); (case bpar => exact fun _ us hl => match us, hl with | [], _ => fun q hq => nomatch hq); (case bloc => first | decide +kernel | decide); (case bdb => first | decide +kernel | decide); (case few => decide); (case ks => rfl); (case kc => rfl); (case kind => rfl); (case co => rfl); (case gen => rfl); (case nc => decide); (case top => decide +kernel); (case ev => exact fun _ => ⟨_, rfl⟩))); (case O_NothingToRedo => (refine' VL.exO_mk0 ?nm ?iC ?tI ?lk ?code ?lc ?fil ?fe ?lcell ?ini ?cl ?rv ?hdc ?sa ?sub ?sup ?subB ?exC ?kC ?op ?hg ?hk ?hd ?ha ?hn ?ht ?hm ?nof ?par ?binds ?bself ?bpar ?bloc ?bdb ?few ?ks ?kc ?kind ?co ?gen ?nc ?top ?ev; (case nm => k_is); (case iC => k_is); (case tI => k_is); (case lk => k_is); (case code => k_is); (case lc => k_is); (case fil => rfl); (case fe => decide); (case lcell => k_is); (case ini => kx_is); (case cl => k_is); (case rv => first | rfl | decide +kernel); (case hdc => rfl); (case sa => k_is); (case sub => k_is); (case sup => ks_is); (case subB => k_is); (case exC => k_is); (case kC => k_is); (case op => k_is); (case hg => k_is); (case hk => k_is); (case hd => k_is); (case ha => k_is); (case hn => k_is); (case ht => k_is); (case hm => k_is); (case nof => (refine' fun _ h => nomatch h)); (case par => rfl); (case binds => exact fun _ _ _ _ _ _ us _ hl => match us, hl with | [], _ => .of_eq rfl); (case bself => exact fun _ us hl => match us, hl with | [], _ => rfl); (case bpar => exact fun _ us hl => match us, hl with | [], _ => fun q hq => nomatch hq); (case bloc => first | decide +kernel | decide); (case bdb => first | decide +kernel | decide); (case few => decide); (case ks => rfl); (case kc => rfl); (case kind => rfl); (case co => rfl); (case gen => rfl); (case nc => decide); (case top => decide +kernel); (case ev => exact fun _ => ⟨_, rfl⟩))); (case O_BadText => (refine' VL.exO_mk2 (f0 := "line") (q0 := "line") (f1 := "column") (q1 := "column") ?nm ?iC ?tI ?lk ?code ?lc ?fil ?fe ?lcell ?ini ?cl ?rv ?hdc ?sa ?sub ?sup ?subB ?exC ?kC ?op ?hg ?hk ?hd ?ha ?hn ?ht ?hm ?nof ?par ?binds ?bself ?bpar ?bloc ?bdb ?few ?ks ?kc ?kind ?co ?gen ?nc ?top ?ev; (case nm => k_is); (case iC => k_is); (case tI => k_is); (case lk => k_is); (case code => k_is); (case lc => k_is); (case fil => rfl); (case fe => decide); (case lcell => k_is); (case ini => kx_is); (case cl => k_is); (case rv => first | rfl | decide +kernel); (case hdc => rfl); (case sa => k_is); (case sub => k_is); (case sup => ks_is); (case subB => k_is); (case exC => k_is); (case kC => k_is); (case op => k_is); (case hg => k_is); (case hk => k_is); (case hd => k_is); (case ha => k_is); (case hn => k_is); (case ht => k_is); (case hm => k_is); (case nof => (refine' List.forall_mem_cons.mpr ⟨?n0, List.forall_mem_cons.mpr ⟨?n1, fun _ h => nomatch h⟩⟩); (case n0 => k_is); (case n1 => k_is)); (case par => rfl); (case binds => exact fun _ _ _ _ _ _ us _ hl => match us, hl with | [_, _], _ => .of_eq rfl); (case bself => exact fun _ us hl => match us, hl with | [_, _], _ => rfl); (case bpar => exact fun _ us hl => match us, hl with | [_, _], _ => by simp only [List.zip_cons_cons, List.zip_nil_right, List.forall_mem_cons, List.not_mem_nil, false_implies, implies_true, and_true]; exact ⟨rfl, rfl⟩); (case bloc => first | decide +kernel | decide); (case bdb => first | decide +kernel | decide); (case few => decide); (case ks => rfl); (case kc => rfl); (case kind => rfl); (case co => rfl); (case gen => rfl); (case nc => decide); (case top => decide +kernel); (case ev => exact fun _ => ⟨_, rfl⟩))); (case O_BadEntry => (refine' VL.exO_mk1 (f0 := "place") (q0 := "place") ?nm ?iC ?tI ?lk ?code ?lc ?fil ?fe ?lcell ?ini ?cl ?rv ?hdc ?sa ?sub ?sup ?subB ?exC ?kC ?op ?hg ?hk ?hd ?ha ?hn ?ht ?hm ?nof ?par ?binds ?bself ?bpar ?bloc ?bdb ?few ?ks ?kc ?kind ?co ?gen ?nc ?top ?ev; (case nm => k_is); (case iC => k_is); (case tI => k_is); (case lk => k_is); (case code => k_is); (case lc => k_is); (case fil => rfl); (case fe => decide); (case lcell => k_is); (case ini => kx_is); (case cl => k_is); (case rv => first | rfl | decide +kernel); (case hdc => rfl); (case sa => k_is); (case sub => k_is); (case sup => ks_is); (case subB => k_is); (case exC => k_is); (case kC => k_is); (case op => k_is); (case hg => k_is); (case hk => k_is); (case hd => k_is); (case ha => k_is); (case hn => k_is); (case ht => k_is); (case hm => k_is); (case nof => (refine' List.forall_mem_cons.mpr ⟨?n0, fun _ h => nomatch h⟩); (case n0 => k_is)); (case par => rfl); (case binds => exact fun _ _ _ _ _ _ us _ hl => match us, hl with | [_], _ => .of_eq rfl); (case bself => exact fun _ us hl => match us, hl with | [_], _ => rfl); (case bpar => exact fun _ us hl => match us, hl with | [_], _ => by intro q hq; rcases List.mem_singleton.mp hq with rfl; rfl); (case bloc => first | decide +kernel | decide); (case bdb => first | decide +kernel | decide); (case few => decide); (case ks => rfl); (case kc => rfl); (case kind => rfl); (case co => rfl); (case gen => rfl); (case nc => decide); (case top => decide +kernel); (case ev => exact fun _ => ⟨_, rfl⟩))); (case kt_BadSize_BadSign => kit_is); (case kt_BadSize_BadForm => kit_is); (case kt_BadSize_BadNumber => kit_is); (case kt_BadSize_BadSize => kit_is); (case kt_BadSize_UnknownName => kit_is); (case kt_BadSize_BadName => kit_is); (case kt_BadSize_NotFine => kit_is); (case kt_BadSize_TooDeep => kit_is); (case kt_BadSize_NothingToRedo => kit_is); (case kt_BadSize_NothingToUndo => kit_is); (case kt_BadSize_InUse => kit_is); (case kt_BadSize_Circle => kit_is); (case kt_BadSize_BadEntry => kit_is); (case kt_BadSize_BadText => kit_is); (case kt_BadSize_ValueError => kit_is); (case kt_BadSize_WhereError => kit_is); (case kt_BadNumber_BadSign => kit_is); (case kt_BadNumber_BadForm => kit_is); (case kt_BadNumber_BadNumber => kit_is); (case kt_BadNumber_BadSize => kit_is); (case kt_BadNumber_UnknownName => kit_is); (case kt_BadNumber_BadName => kit_is); (case kt_BadNumber_NotFine => kit_is); (case kt_BadNumber_TooDeep => kit_is); (case kt_BadNumber_NothingToRedo => kit_is); (case kt_BadNumber_NothingToUndo => kit_is); (case kt_BadNumber_InUse => kit_is); (case kt_BadNumber_Circle => kit_is); (case kt_BadNumber_BadEntry => kit_is); (case kt_BadNumber_BadText => kit_is); (case kt_BadNumber_ValueError => kit_is); (case kt_BadNumber_WhereError => kit_is); (case kt_BadForm_BadSign => kit_is); (case kt_BadForm_BadForm => kit_is); (case kt_BadForm_BadNumber => kit_is); (case kt_BadForm_BadSize => kit_is); (case kt_BadForm_UnknownName => kit_is); (case kt_BadForm_BadName => kit_is); (case kt_BadForm_NotFine => kit_is); (case kt_BadForm_TooDeep => kit_is); (case kt_BadForm_NothingToRedo => kit_is); (case kt_BadForm_NothingToUndo => kit_is); (case kt_BadForm_InUse => kit_is); (case kt_BadForm_Circle => kit_is); (case kt_BadForm_BadEntry => kit_is); (case kt_BadForm_BadText => kit_is); (case kt_BadForm_ValueError => kit_is); (case kt_BadForm_WhereError => kit_is); (case kt_BadSign_BadSign => kit_is); (case kt_BadSign_BadForm => kit_is); (case kt_BadSign_BadNumber => kit_is); (case kt_BadSign_BadSize => kit_is); (case kt_BadSign_UnknownName => kit_is); (case kt_BadSign_BadName => kit_is); (case kt_BadSign_NotFine => kit_is); (case kt_BadSign_TooDeep => kit_is); (case kt_BadSign_NothingToRedo => kit_is); (case kt_BadSign_NothingToUndo => kit_is); (case kt_BadSign_InUse => kit_is); (case kt_BadSign_Circle => kit_is); (case kt_BadSign_BadEntry => kit_is); (case kt_BadSign_BadText => kit_is); (case kt_BadSign_ValueError => kit_is); (case kt_BadSign_WhereError => kit_is); (case kt_TooDeep_BadSign => kit_is); (case kt_TooDeep_BadForm => kit_is); (case kt_TooDeep_BadNumber => kit_is); (case kt_TooDeep_BadSize => kit_is); (case kt_TooDeep_UnknownName => kit_is); (case kt_TooDeep_BadName => kit_is); (case kt_TooDeep_NotFine => kit_is); (case kt_TooDeep_TooDeep => kit_is); (case kt_TooDeep_NothingToRedo => kit_is); (case kt_TooDeep_NothingToUndo => kit_is); (case kt_TooDeep_InUse => kit_is); (case kt_TooDeep_Circle => kit_is); (case kt_TooDeep_BadEntry => kit_is); (case kt_TooDeep_BadText => kit_is); (case kt_TooDeep_ValueError => kit_is); (case kt_TooDeep_WhereError => kit_is); (case kt_NotFine_BadSign => kit_is); (case kt_NotFine_BadForm => kit_is); (case kt_NotFine_BadNumber => kit_is); (case kt_NotFine_BadSize => kit_is); (case kt_NotFine_UnknownName => kit_is); (case kt_NotFine_BadName => kit_is); (case kt_NotFine_NotFine => kit_is); (case kt_NotFine_TooDeep => kit_is); (case kt_NotFine_NothingToRedo => kit_is); (case kt_NotFine_NothingToUndo => kit_is); (case kt_NotFine_InUse => kit_is); (case kt_NotFine_Circle => kit_is); (case kt_NotFine_BadEntry => kit_is); (case kt_NotFine_BadText => kit_is); (case kt_NotFine_ValueError => kit_is); (case kt_NotFine_WhereError => kit_is); (case kt_BadName_BadSign => kit_is); (case kt_BadName_BadForm => kit_is); (case kt_BadName_BadNumber => kit_is); (case kt_BadName_BadSize => kit_is); (case kt_BadName_UnknownName => kit_is); (case kt_BadName_BadName => kit_is); (case kt_BadName_NotFine => kit_is); (case kt_BadName_TooDeep => kit_is); (case kt_BadName_NothingToRedo => kit_is); (case kt_BadName_NothingToUndo => kit_is); (case kt_BadName_InUse => kit_is); (case kt_BadName_Circle => kit_is); (case kt_BadName_BadEntry => kit_is); (case kt_BadName_BadText => kit_is); (case kt_BadName_ValueError => kit_is); (case kt_BadName_WhereError => kit_is); (case kt_UnknownName_BadSign => kit_is); (case kt_UnknownName_BadForm => kit_is); (case kt_UnknownName_BadNumber => kit_is); (case kt_UnknownName_BadSize => kit_is); (case kt_UnknownName_UnknownName => kit_is); (case kt_UnknownName_BadName => kit_is); (case kt_UnknownName_NotFine => kit_is); (case kt_UnknownName_TooDeep => kit_is); (case kt_UnknownName_NothingToRedo => kit_is); (case kt_UnknownName_NothingToUndo => kit_is); (case kt_UnknownName_InUse => kit_is); (case kt_UnknownName_Circle => kit_is); (case kt_UnknownName_BadEntry => kit_is); (case kt_UnknownName_BadText => kit_is); (case kt_UnknownName_ValueError => kit_is); (case kt_UnknownName_WhereError => kit_is); (case kt_Circle_BadSign => kit_is); (case kt_Circle_BadForm => kit_is); (case kt_Circle_BadNumber => kit_is); (case kt_Circle_BadSize => kit_is); (case kt_Circle_UnknownName => kit_is); (case kt_Circle_BadName => kit_is); (case kt_Circle_NotFine => kit_is); (case kt_Circle_TooDeep => kit_is); (case kt_Circle_NothingToRedo => kit_is); (case kt_Circle_NothingToUndo => kit_is); (case kt_Circle_InUse => kit_is); (case kt_Circle_Circle => kit_is); (case kt_Circle_BadEntry => kit_is); (case kt_Circle_BadText => kit_is); (case kt_Circle_ValueError => kit_is); (case kt_Circle_WhereError => kit_is); (case kt_InUse_BadSign => kit_is); (case kt_InUse_BadForm => kit_is); (case kt_InUse_BadNumber => kit_is); (case kt_InUse_BadSize => kit_is); (case kt_InUse_UnknownName => kit_is); (case kt_InUse_BadName => kit_is); (case kt_InUse_NotFine => kit_is); (case kt_InUse_TooDeep => kit_is); (case kt_InUse_NothingToRedo => kit_is); (case kt_InUse_NothingToUndo => kit_is); (case kt_InUse_InUse => kit_is); (case kt_InUse_Circle => kit_is); (case kt_InUse_BadEntry => kit_is); (case kt_InUse_BadText => kit_is); (case kt_InUse_ValueError => kit_is); (case kt_InUse_WhereError => kit_is); (case kt_NothingToUndo_BadSign => kit_is); (case kt_NothingToUndo_BadForm => kit_is); (case kt_NothingToUndo_BadNumber => kit_is); (case kt_NothingToUndo_BadSize => kit_is); (case kt_NothingToUndo_UnknownName => kit_is); (case kt_NothingToUndo_BadName => kit_is); (case kt_NothingToUndo_NotFine => kit_is); (case kt_NothingToUndo_TooDeep => kit_is); (case kt_NothingToUndo_NothingToRedo => kit_is); (case kt_NothingToUndo_NothingToUndo => kit_is); (case kt_NothingToUndo_InUse => kit_is); (case kt_NothingToUndo_Circle => kit_is); (case kt_NothingToUndo_BadEntry => kit_is); (case kt_NothingToUndo_BadText => kit_is); (case kt_NothingToUndo_ValueError => kit_is); (case kt_NothingToUndo_WhereError => kit_is); (case kt_NothingToRedo_BadSign => kit_is); (case kt_NothingToRedo_BadForm => kit_is); (case kt_NothingToRedo_BadNumber => kit_is); (case kt_NothingToRedo_BadSize => kit_is); (case kt_NothingToRedo_UnknownName => kit_is); (case kt_NothingToRedo_BadName => kit_is); (case kt_NothingToRedo_NotFine => kit_is); (case kt_NothingToRedo_TooDeep => kit_is); (case kt_NothingToRedo_NothingToRedo => kit_is); (case kt_NothingToRedo_NothingToUndo => kit_is); (case kt_NothingToRedo_InUse => kit_is); (case kt_NothingToRedo_Circle => kit_is); (case kt_NothingToRedo_BadEntry => kit_is); (case kt_NothingToRedo_BadText => kit_is); (case kt_NothingToRedo_ValueError => kit_is); (case kt_NothingToRedo_WhereError => kit_is); (case kt_BadText_BadSign => kit_is); (case kt_BadText_BadForm => kit_is); (case kt_BadText_BadNumber => kit_is); (case kt_BadText_BadSize => kit_is); (case kt_BadText_UnknownName => kit_is); (case kt_BadText_BadName => kit_is); (case kt_BadText_NotFine => kit_is); (case kt_BadText_TooDeep => kit_is); (case kt_BadText_NothingToRedo => kit_is); (case kt_BadText_NothingToUndo => kit_is); (case kt_BadText_InUse => kit_is); (case kt_BadText_Circle => kit_is); (case kt_BadText_BadEntry => kit_is); (case kt_BadText_BadText => kit_is); (case kt_BadText_ValueError => kit_is); (case kt_BadText_WhereError => kit_is); (case kt_BadEntry_BadSign => kit_is); (case kt_BadEntry_BadForm => kit_is); (case kt_BadEntry_BadNumber => kit_is); (case kt_BadEntry_BadSize => kit_is); (case kt_BadEntry_UnknownName => kit_is); (case kt_BadEntry_BadName => kit_is); (case kt_BadEntry_NotFine => kit_is); (case kt_BadEntry_TooDeep => kit_is); (case kt_BadEntry_NothingToRedo => kit_is); (case kt_BadEntry_NothingToUndo => kit_is); (case kt_BadEntry_InUse => kit_is); (case kt_BadEntry_Circle => kit_is); (case kt_BadEntry_BadEntry => kit_is); (case kt_BadEntry_BadText => kit_is); (case kt_BadEntry_ValueError => kit_is); (case kt_BadEntry_WhereError => kit_is); (case zz_range => k_is); (case zz_len => k_is); (case zz_int => k_is); (case zz_isinstance => k_is); (case zz_ValueError => k_is); (case zz_all => k_is); (case zz_super => k_is)
