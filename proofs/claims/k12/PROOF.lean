import PyProof.Rows.All
import HandS.ForMost
import HandS.ForExc
import HandS.Wide
import HandS.WideBits
import HandS.Gcd
import HandS.IsInst
import HandS.ExcCtx
import KE.KNestM
import HandS.Style
import HandS.Deep
import HandS.TupAny
import HandS.TryOnly
import HandS.Flow
import HandS.RaiseMore
import HandS.EndBits
import HandS.AnyAll
import HandS.Dict
import PyProof.P3Eq
import PyProof.ReprLen
import HandS.Text
import HandS.FStr
import HandS.ExcInit
import KE.KExcSuper
import KE.KSuper
import HandS.ExcIs
import HandS.HotCalls
import KE.KExcLine
import HandS.More
import HandS.Hot
import HandS.Defaults
import HandS.Replace
import HandS.StrMore
import KE.KDictList
import KE.KUnpack
import PyProof.CollectIter
import KE.KExcIs
import HandS.ExcOwn
import HandS.ExcValue
import KE.RegKIsAll
import HandS.ExcField
import HandS.Star
import HandS.SetFor
import PySem.Challenge.RW_wheretrue_k12_the_first_wrong_word
set_option Elab.async false
set_option linter.all false
set_option maxRecDepth 100000
set_option maxHeartbeats 4000000
set_option Elab.async false
set_option linter.all false
set_option maxRecDepth 100000
namespace VL
open PySem PySem.Spec PyProof.Rows L2

abbrev D := PyData
abbrev Fg := PySem.W.Frag
abbrev Sg := L2.St
set_option autoImplicit false

/-! ### data in a heap -/
/-- the data of a list that was made new; of a list that stays as it is -/
def tg (l : List D) : D := .dict [(.int 0, .list l)]
def tf (l : List D) : D := .dict [(.int 1, .list l)]
/-- a dict with text keys -/
def dkD (ks : List Str) (ds : List D) : D := .dict ((PyData.str "", PyData.none) :: (ks.map fun k => PyData.str k).zip ds)
/-- the exception that is handled, of the class of that name, at that address -/
def exD (n : Str) (a : Addr) : D := .dict [(.int 2, .str n), (.int 3, .int a)]
/-- an exception that is an object of its own, of the class of that name, its fields -/
def xoD (n : Str) (ks : List Str) (ds : List D) : D := .dict [(.int 4, .str n), (.int 5, .dict ((ks.map fun k => PyData.str k).zip ds))]
/-- the exception of one's own that is handled, of the class of that name, at that address, its dict's address, its fields -/
def exfD (n : Str) (a dd : Addr) (ks : List Str) (ds : List D) : D := .dict [(.int 6, .str n), (.int 7, .int a), (.int 8, .int dd), (.int 9, .dict ((ks.map fun k => PyData.str k).zip ds))]
def ExcAt (a C : Addr) (dd : Option Addr) : Heap → Prop := fun h => ∃ vs, h.get? a = some { cls := .ref C, dict := dd, data := .fields vs }
def FldOk (H : Hp) (dd : Option Addr) (ks : List Str) (vs : List V) : Prop := (ks = [] ∧ dd = none) ∨ ∃ dx, dd = some dx ∧ H dx = some (.xd (ks.zip vs))
theorem FldOk.mono {H H' : Hp} {dd : Option Addr} {ks : List Str} {vs : List V} (e : Same H H') (h : FldOk H dd ks vs) : FldOk H' dd ks vs := by
  rcases h with h | ⟨dx, h1, h2⟩
  · exact .inl h
  · exact .inr ⟨dx, h1, e _ _ h2⟩
/-- a list that is never changed -/
def OldL (K : Fg) (H : Hp) (a : Addr) (xs : List V) : Prop :=
  (∃ o, H a = some (.frz o (.lst xs))) ∨
    ∃ (o : Obj) (its : Array Value) (n : Nat), K.lookup a = some o ∧ o.cls = .type "list" ∧ o.dict = none ∧ o.data = .seq its n ∧ its.size ≤ sizeLine ∧ Vals xs its.toList
mutual
inductive Rp (K : Fg) (H : Hp) : D → V → Prop
  | non : Rp K H .none .non
  | bl (b : Bool) : Rp K H (.bool b) (.bl b)
  | int (i : Int) : Rp K H (.int i) (.int i)
  | str (x : Str) : Rp K H (.str x) (.str x)
  | lst {a : Addr} {xs : List V} {ds : List D} : SqL K H a xs → RpL K H ds xs → Rp K H (.list ds) (.ref a)
  | tup {a : Addr} {xs : List V} {ds : List D} : SqT K H a xs → RpL K H ds xs → Rp K H (.tuple ds) (.ref a)
  | nl {a : Addr} {xs : List V} {ds : List D} : H a = some (.lst xs) → RpL K H ds xs → Rp K H (tg ds) (.ref a)
  | fl {a : Addr} {xs : List V} {ds : List D} : OldL K H a xs → RpL K H ds xs → Rp K H (tf ds) (.ref a)
  | dk {a : Addr} {ks : List Str} {vs : List V} {ds : List D} : H a = some (.dK (mergeK [] ((ks.zip vs).map fun p => ((Sum.inr p.1 : Key), p.2)))) → vs.length = ks.length → RpL K H ds vs → Rp K H (dkD ks ds) (.ref a)
  | exn (a : Addr) (n : Str) : Rp K H (exD n a) (.ref a)
  | xob {a C : Addr} {dd : Option Addr} {n : Str} {ks : List Str} {vs : List V} {ds : List D} : PySem.W.nsIn K mainGlobals n = some (some (.ref C)) → H a = some (.ext (ExcAt a C dd)) → FldOk H dd ks vs → vs.length = ks.length → RpL K H ds vs → Rp K H (xoD n ks ds) (.ref a)
  | exf {a dd : Addr} {n : Str} {ks : List Str} {vs : List V} {ds : List D} : H dd = some (.xd (ks.zip vs)) → vs.length = ks.length → RpL K H ds vs → Rp K H (exfD n a dd ks ds) (.ref a)
inductive RpL (K : Fg) (H : Hp) : List D → List V → Prop
  | nil : RpL K H [] []
  | cons {v : V} {vs : List V} {d : D} {ds : List D} : Rp K H d v → RpL K H ds vs → RpL K H (d :: ds) (v :: vs)
end

theorem Rd.mono {H H' : Hp} {a : Addr} {u : HO} (e : Same H H') (h : Rd H a u) : Rd H' a u := by
  rcases h with h | ⟨o, h⟩
  · exact .inl (e _ _ h)
  · exact .inr ⟨o, e _ _ h⟩
theorem OldL.mono {K : Fg} {H H' : Hp} {a : Addr} {xs : List V} (e : Same H H') (h : OldL K H a xs) : OldL K H' a xs := by
  rcases h with ⟨o, h⟩ | h
  · exact .inl ⟨o, e _ _ h⟩
  · exact .inr h
theorem OldL.seq {K : Fg} {H : Hp} {a : Addr} {xs : List V} (h : OldL K H a xs) : SqL K H a xs := by
  rcases h with ⟨o, h⟩ | h
  · exact .inl (.inr ⟨o, h⟩)
  · exact .inr h
theorem SqT.mono {K : Fg} {H H' : Hp} {a : Addr} {xs : List V} (e : Same H H') (h : SqT K H a xs) : SqT K H' a xs := by
  rcases h with h | h
  · exact .inl (Rd.mono e h)
  · exact .inr h
section
variable {K : Fg} {H H' : Hp}
mutual
theorem Rp.mono (e : Same H H') : ∀ {d : D} {v : V}, Rp K H d v → Rp K H' d v
  | _, _, .non => .non
  | _, _, .bl b => .bl b
  | _, _, .int i => .int i
  | _, _, .str x => .str x
  | _, _, .lst h r => .lst (Same.seq e h) (RpL.mono e r)
  | _, _, .tup h r => .tup (SqT.mono e h) (RpL.mono e r)
  | _, _, .nl h r => .nl (e _ _ h) (RpL.mono e r)
  | _, _, .fl h r => .fl (OldL.mono e h) (RpL.mono e r)
  | _, _, .dk h l r => .dk (e _ _ h) l (RpL.mono e r)
  | _, _, .exn a n => .exn a n
  | _, _, .xob c h f l r => .xob c (e _ _ h) (f.mono e) l (RpL.mono e r)
  | _, _, .exf h l r => .exf (e _ _ h) l (RpL.mono e r)
theorem RpL.mono (e : Same H H') : ∀ {d : List D} {v : List V}, RpL K H d v → RpL K H' d v
  | _, _, .nil => .nil
  | _, _, .cons h r => .cons (Rp.mono e h) (RpL.mono e r)
end
theorem nodict_all : ∀ {l : List D}, PyData.hasDictAll l = false → ∀ d ∈ l, d.hasDict = false
  | [], _, d, hd => by simp at hd
  | x :: l, h, d, hd => by
    unfold PyData.hasDictAll at h
    rw [Bool.or_eq_false_iff] at h
    rcases List.mem_cons.mp hd with rfl | hd
    · exact h.1
    · exact nodict_all h.2 d hd
theorem nodict_list {l : List D} (h : (PyData.list l).hasDict = false) : ∀ d ∈ l, d.hasDict = false := nodict_all (by unfold PyData.hasDict at h; exact h)
theorem nodict_tup {l : List D} (h : (PyData.tuple l).hasDict = false) : ∀ d ∈ l, d.hasDict = false := nodict_all (by unfold PyData.hasDict at h; exact h)
theorem nodict_of {d : D} (h : SeqAt.shaped d = true) : d.hasDict = false := PyData.hasDict_of_canLay d (SeqAt.canLay_of_shaped h)
mutual
theorem Rp.dp : ∀ {d : D} {v : V}, Rp K H d v → d.hasDict = false → Dp K H v d
  | _, _, .non, _ => .non
  | _, _, .bl b, _ => .bl b
  | _, _, .int i, _ => .int i
  | _, _, .str x, _ => .str x
  | _, _, .lst h r, n => .lst h (RpL.dp r (nodict_list n))
  | _, _, .tup h r, n => .tup h (RpL.dp r (nodict_tup n))
  | _, _, .nl h r, n => by simp [tg, PyData.hasDict] at n
  | _, _, .fl h r, n => by simp [tf, PyData.hasDict] at n
  | _, _, .dk h l r, n => by simp [dkD, PyData.hasDict] at n
  | _, _, .exn a x, n => by simp [exD, PyData.hasDict] at n
  | _, _, .xob c h f l r, n => by simp [xoD, PyData.hasDict] at n
  | _, _, .exf h l r, n => by simp [exfD, PyData.hasDict] at n
theorem RpL.dp : ∀ {d : List D} {v : List V}, RpL K H d v → (∀ x ∈ d, x.hasDict = false) → DpAll K H v d
  | _, _, .nil, _ => .nil
  | _, _, .cons h r, n => .cons (Rp.dp h (n _ (by simp))) (RpL.dp r (fun x hx => n x (by simp [hx])))
end
theorem RpL.length : ∀ {ds : List D} {vs : List V}, RpL K H ds vs → ds.length = vs.length
  | _, _, .nil => rfl
  | _, _, .cons _ r => congrArg (· + 1) (RpL.length r)
theorem RpL.get : ∀ {ds : List D} {vs : List V} {i : Nat} {d : D}, RpL K H ds vs → ds[i]? = some d → ∃ v, vs[i]? = some v ∧ Rp K H d v
  | _, _, _, _, .nil, e => by simp at e
  | _, _, 0, _, .cons h _, e => by simp at e; subst e; exact ⟨_, rfl, h⟩
  | _, _, i + 1, _, .cons _ r, e => by
    obtain ⟨v, h1, h2⟩ := RpL.get (i := i) r (by simpa using e)
    exact ⟨v, by simpa using h1, h2⟩
theorem RpL.append : ∀ {ds es : List D} {vs ws : List V}, RpL K H ds vs → RpL K H es ws → RpL K H (ds ++ es) (vs ++ ws)
  | _, _, _, _, .nil, s => s
  | _, _, _, _, .cons h r, s => .cons h (RpL.append r s)
theorem RpL.take : ∀ {ds : List D} {vs : List V} (n : Nat), RpL K H ds vs → RpL K H (ds.take n) (vs.take n)
  | _, _, 0, _ => .nil
  | _, _, _ + 1, .nil => .nil
  | _, _, n + 1, .cons h r => .cons h (RpL.take n r)
theorem RpL.drop : ∀ {ds : List D} {vs : List V} (n : Nat), RpL K H ds vs → RpL K H (ds.drop n) (vs.drop n)
  | _, _, 0, r => r
  | _, _, _ + 1, .nil => .nil
  | _, _, n + 1, .cons _ r => RpL.drop n r
theorem RpL.set {d : D} {v : V} (q : Rp K H d v) : ∀ {ds : List D} {vs : List V} (i : Nat), RpL K H ds vs → RpL K H (ds.set i d) (vs.set i v)
  | _, _, _, .nil => .nil
  | _, _, 0, .cons _ r => .cons q r
  | _, _, i + 1, .cons h r => .cons h (RpL.set q i r)
theorem RpL.reverse {ds : List D} {vs : List V} (r : RpL K H ds vs) : RpL K H ds.reverse vs.reverse := by
  induction ds generalizing vs with
  | nil => cases r; exact .nil
  | cons d ds ih =>
    cases r with
    | cons h r =>
      rw [List.reverse_cons, List.reverse_cons]
      exact (ih r).append (.cons h .nil)
theorem RpL.dropLast {ds : List D} {vs : List V} (r : RpL K H ds vs) : RpL K H ds.dropLast vs.dropLast := by
  rw [List.dropLast_eq_take, List.dropLast_eq_take, r.length]
  exact r.take _
theorem RpL.replicate {ds : List D} {vs : List V} (r : RpL K H ds vs) : ∀ n : Nat, RpL K H (List.replicate n ds).flatten (List.replicate n vs).flatten
  | 0 => .nil
  | n + 1 => by
    rw [List.replicate_succ, List.replicate_succ, List.flatten_cons, List.flatten_cons]
    exact r.append (RpL.replicate r n)
theorem RpL.ints : ∀ {ns : List Int} {vs : List V}, RpL K H (ns.map PyData.int) vs → vs = ns.map V.int
  | [], _, r => by cases r; rfl
  | n :: ns, _, r => by
    cases r with
    | cons h r => cases h; rw [RpL.ints r]; rfl
theorem RpL.of_ints : ∀ (ns : List Int), RpL K H (ns.map PyData.int) (ns.map V.int)
  | [] => .nil
  | n :: ns => .cons (.int n) (RpL.of_ints ns)
end

/-! ### the frozen part and the whole -/
/-- from (Hs, H) to (Hs', H'): nothing that stood is changed, what is newly frozen is new -/
structure Ext (Hs H Hs' H' : Hp) : Prop where
  sub : Same Hs' H'
  same : Same H H'
  grow : Same Hs Hs'
  fresh : ∀ p o, Hs' p = some o → Hs p = none → H p = none
theorem Ext.refl {Hs H : Hp} (h : Same Hs H) : Ext Hs H Hs H := ⟨h, .refl _, .refl _, fun p o a b => by rw [a] at b; cases b⟩
theorem Ext.trans {Hs H Hs1 H1 Hs2 H2 : Hp} (a : Ext Hs H Hs1 H1) (b : Ext Hs1 H1 Hs2 H2) : Ext Hs H Hs2 H2 where
  sub := b.sub
  same := a.same.trans b.same
  grow := a.grow.trans b.grow
  fresh := fun p o h1 h2 => by
    cases e : Hs1 p with
    | none => exact a.same.free (b.fresh p o h1 e)
    | some u => exact a.fresh p u e h2
/-- a new object, frozen at once -/
theorem Ext.new {Hs H : Hp} {p : Addr} {o : HO} (h : Same Hs H) (hp : H p = none) : Ext Hs H (upd Hs p o) (upd H p o) where
  sub := fun b u e => by
    by_cases hb : b = p
    · subst hb; rw [upd_same] at e ⊢; exact e
    · rw [upd_ne hb] at e ⊢; exact h b u e
  same := fun b u e => by rw [upd_ne (ne_of_none e hp)]; exact e
  grow := fun b u e => by rw [upd_ne (ne_of_none (h b u e) hp)]; exact e
  fresh := fun b u e n => by
    by_cases hb : b = p
    · subst hb; exact hp
    · rw [upd_ne hb] at e; rw [e] at n; cases n
/-- a new object, not frozen -/
theorem Ext.hid {Hs H : Hp} {p : Addr} {o : HO} (h : Same Hs H) (hp : H p = none) : Ext Hs H Hs (upd H p o) where
  sub := fun b u e => by rw [upd_ne (ne_of_none (h b u e) hp)]; exact h b u e
  same := fun b u e => by rw [upd_ne (ne_of_none e hp)]; exact e
  grow := .refl _
  fresh := fun b u e n => by rw [e] at n; cases n
/-- what was new and not frozen is frozen -/
theorem Ext.frz {Hs H Hs' H' : Hp} {p : Addr} {o : HO} (e : Ext Hs H Hs' H') (h0 : H p = none) (h1 : H' p = some o) (h2 : Hs' p = none) : Ext Hs H (upd Hs' p o) H' where
  sub := fun b u q => by
    by_cases hb : b = p
    · subst hb; rw [upd_same] at q; cases q; exact h1
    · rw [upd_ne hb] at q; exact e.sub b u q
  same := e.same
  grow := e.grow.trans fun b u q => by rw [upd_ne (ne_of_none q h2)]; exact q
  fresh := fun b u q n => by
    by_cases hb : b = p
    · subst hb; exact h0
    · rw [upd_ne hb] at q; exact e.fresh b u q n

/-! ### slots -/
inductive SD where
  | no
  | sh (d : D)
  | ow (l : List D)
  | bo (l : List D)
abbrev Ev := List SD
/-- the heap at the start, without the list that is lent; that list's address -/
structure Gx where
  h : Hp
  b : Nat → Option Addr

def RelS (K : Fg) (G : Gx) (Hs H : Hp) (i : Nat) : SD → Option (Option V) → Prop
  | .no, _ => True
  | .sh d, x => ∃ v, x = some (some v) ∧ Rp K Hs d v
  | .ow l, x => ∃ p vs, x = some (some (.ref p)) ∧ G.h p = none ∧ Hs p = none ∧ H p = some (.lst vs) ∧ RpL K Hs l vs ∧ ∀ j, G.b j ≠ some p
  | .bo l, x => ∃ p vs, x = some (some (.ref p)) ∧ G.b i = some p ∧ H p = some (.lst vs) ∧ RpL K Hs l vs

/-! ### tables of code objects -/
/-- the defs that make code objects as they run -/
def tabNames : List Str := ["read_whole", "kind_at", "kind_on"]
def TabP (P : Addr) : Heap → Prop := fun h => ∃ ps : Array Value, h.get? P = some { cls := .none, data := .fields ps } ∧ TriplesOk ps.toList
def TabA (K : Fg) (P : Addr) : Prop := ∃ n ∈ tabNames, ∃ (f : Addr) (o : Obj) (fd : FuncData) (c : Addr), PySem.W.nsIn K mainGlobals n = some (some (.ref f)) ∧ K.lookup f = some o ∧ o.data = .func fd ∧ fd.code = .ref c ∧ PySem.W.codeHdIn K c P = true
def TabsOk (K : Fg) (Hs : Hp) : Prop := ∀ P, TabA K P → Hs P = some (.ext (TabP P))
theorem TabsOk.mono {K : Fg} {H H' : Hp} (h : TabsOk K H) (e : Same H H') : TabsOk K H' := fun P t => e _ _ (h P t)
/-- the frozen part lies within the heap, the tables stand in it -/
structure SubT (K : Fg) (Hs H : Hp) : Prop where
  sub : Same Hs H
  tab : TabsOk K Hs
theorem SubT.trans {K : Fg} {H H1 H2 : Hp} (a : SubT K H H1) (b : Same H1 H2) : SubT K H H2 := ⟨a.sub.trans b, a.tab⟩
theorem SubT.free {K : Fg} {H H1 : Hp} (a : SubT K H H1) {p : Addr} (h : H1 p = none) : H p = none := a.sub.free h
structure RelE (K : Fg) (S : Hp) (G : Gx) (Hs H : Hp) (σ : Sg) (ρ : Ev) : Prop where
  sub : Same Hs H
  old : Same G.h H
  ext : SubT K S Hs
  new : ∀ p o, Hs p = some o → S p = none → G.h p = none
  len : ρ.length = σ.length
  slot : ∀ (i : Nat) (r : SD), ρ[i]? = some r → RelS K G Hs H i r σ[i]?
  bor : ∀ (i : Nat) (p : Addr), G.b i = some p → G.h p = none ∧ Hs p = none ∧ H p ≠ none
  one : ∀ (i j : Nat) (p : Addr), G.b i = some p → G.b j = some p → i = j
  dis : ∀ (i j : Nat) (l m : List D) (p : Addr), ρ[i]? = some (.ow l) → ρ[j]? = some (.ow m) → σ[i]? = some (some (.ref p)) → σ[j]? = some (some (.ref p)) → i = j

section
variable {K : Fg} {S Hs H Hs' H' : Hp} {G : Gx} {σ : Sg} {ρ : Ev}
theorem RelE.tabs (r : RelE K S G Hs H σ ρ) : TabsOk K Hs := r.ext.tab.mono r.ext.sub
theorem RelE.st0 (r : RelE K S G Hs H σ ρ) : SubT K Hs H := ⟨r.sub, r.tabs⟩
theorem RelE.st (r : RelE K S G Hs H σ ρ) (e : Ext Hs H Hs' H') : SubT K Hs' H' := ⟨e.sub, r.tabs.mono e.grow⟩
theorem RelE.step (r : RelE K S G Hs H σ ρ) (e : Ext Hs H Hs' H') : RelE K S G Hs' H' σ ρ where
  sub := e.sub
  old := r.old.trans e.same
  ext := r.ext.trans e.grow
  new := fun p o a b => by
    cases q : Hs p with
    | none => exact r.old.free (e.fresh p o a q)
    | some u => exact r.new p u q b
  len := r.len
  slot := fun i s hs => by
    have q := r.slot i s hs
    cases s with
    | no => trivial
    | sh d =>
      obtain ⟨v, e1, e2⟩ := q
      exact ⟨v, e1, e2.mono e.grow⟩
    | ow l =>
      obtain ⟨p, vs, e1, e2, e3, e4, e5, e6⟩ := q
      refine ⟨p, vs, e1, e2, ?_, e.same _ _ e4, e5.mono e.grow, e6⟩
      cases q : Hs' p with
      | none => rfl
      | some u =>
        have := e.fresh p u q e3
        rw [e4] at this; cases this
    | bo l =>
      obtain ⟨p, vs, e1, e2, e3, e4⟩ := q
      exact ⟨p, vs, e1, e2, e.same _ _ e3, e4.mono e.grow⟩
  dis := r.dis
  bor := fun i p hp => by
    obtain ⟨h1, h2, h3⟩ := r.bor i p hp
    refine ⟨h1, ?_, fun z => h3 (e.same.free z)⟩
    cases q : Hs' p with
    | none => rfl
    | some u => exact (h3 (e.fresh p u q h2)).elim
  one := r.one
theorem RelE.get {i : Nat} {d : D} (r : RelE K S G Hs H σ ρ) (h : ρ[i]? = some (.sh d)) : ∃ v, σ[i]? = some (some v) ∧ Rp K Hs d v := r.slot i _ h
theorem RelE.own' {i : Nat} {l : List D} (r : RelE K S G Hs H σ ρ) (h : ρ[i]? = some (.ow l)) : ∃ p vs, σ[i]? = some (some (.ref p)) ∧ G.h p = none ∧ Hs p = none ∧ H p = some (.lst vs) ∧ RpL K Hs l vs ∧ ∀ j, G.b j ≠ some p := r.slot i _ h
theorem RelE.own {i : Nat} {l : List D} (r : RelE K S G Hs H σ ρ) (h : ρ[i]? = some (.ow l)) : ∃ p vs, σ[i]? = some (some (.ref p)) ∧ G.h p = none ∧ Hs p = none ∧ H p = some (.lst vs) ∧ RpL K Hs l vs :=
  let ⟨p, vs, e1, e2, e3, e4, e5, _⟩ := r.own' h
  ⟨p, vs, e1, e2, e3, e4, e5⟩
theorem RelE.lent {i : Nat} {l : List D} (r : RelE K S G Hs H σ ρ) (h : ρ[i]? = some (.bo l)) : ∃ p vs, σ[i]? = some (some (.ref p)) ∧ G.b i = some p ∧ H p = some (.lst vs) ∧ RpL K Hs l vs := r.slot i _ h

theorem set_get {α : Type} {l : List α} {i j : Nat} {x y : α} (h : (l.set i x)[j]? = some y) : (j = i ∧ i < l.length ∧ y = x) ∨ (j ≠ i ∧ l[j]? = some y) := by
  by_cases e : j = i
  · subst e
    by_cases hl : j < l.length
    · rw [List.getElem?_set_self hl] at h
      exact .inl ⟨rfl, hl, (Option.some.inj h).symm⟩
    · rw [List.getElem?_eq_none (by simpa using hl)] at h; cases h
  · rw [List.getElem?_set_ne (Ne.symm e)] at h
    exact .inr ⟨e, h⟩
/-- a slot is forgotten, or what stands there is shared data -/
theorem RelE.set {i : Nat} {d : D} {v : V} (r : RelE K S G Hs H σ ρ) (h : Rp K Hs d v) : RelE K S G Hs H (σ.set i (some v)) (ρ.set i (.sh d)) where
  sub := r.sub
  old := r.old
  ext := r.ext
  new := r.new
  len := by simpa using r.len
  slot := fun j s hs => by
    rcases set_get hs with ⟨rfl, hl, rfl⟩ | ⟨hj, hs⟩
    · exact ⟨v, by rw [List.getElem?_set_self (by rw [← r.len]; exact hl)], h⟩
    · rw [List.getElem?_set_ne (Ne.symm hj)]
      exact r.slot j s hs
  dis := fun j k l m p a b c d' => by
    rcases set_get a with ⟨_, _, e⟩ | ⟨hj, a⟩
    · cases e
    · rcases set_get b with ⟨_, _, e⟩ | ⟨hk, b⟩
      · cases e
      · rw [List.getElem?_set_ne (Ne.symm hj)] at c
        rw [List.getElem?_set_ne (Ne.symm hk)] at d'
        exact r.dis j k l m p a b c d'
  bor := r.bor
  one := r.one
theorem RelE.setNo {i : Nat} {v : Option V} (r : RelE K S G Hs H σ ρ) : RelE K S G Hs H (σ.set i v) (ρ.set i .no) where
  sub := r.sub
  old := r.old
  ext := r.ext
  new := r.new
  len := by simpa using r.len
  slot := fun j s hs => by
    rcases set_get hs with ⟨rfl, hl, rfl⟩ | ⟨hj, hs⟩
    · trivial
    · rw [List.getElem?_set_ne (Ne.symm hj)]
      exact r.slot j s hs
  dis := fun j k l m p a b c d' => by
    rcases set_get a with ⟨_, _, e⟩ | ⟨hj, a⟩
    · cases e
    · rcases set_get b with ⟨_, _, e⟩ | ⟨hk, b⟩
      · cases e
      · rw [List.getElem?_set_ne (Ne.symm hj)] at c
        rw [List.getElem?_set_ne (Ne.symm hk)] at d'
        exact r.dis j k l m p a b c d'
  bor := r.bor
  one := r.one
/-- a new list of one's own -/
theorem RelE.setOw {i : Nat} {l : List D} {p : Addr} {vs : List V} (r : RelE K S G Hs H σ ρ) (e : Ext Hs H Hs' H') (h0 : H p = none) (h1 : Hs' p = none) (h2 : H' p = some (.lst vs)) (h3 : RpL K Hs' l vs) :
    RelE K S G Hs' H' (σ.set i (some (.ref p))) (ρ.set i (.ow l)) := by
  have r' := r.step e
  have nb : ∀ j, G.b j ≠ some p := fun j z => (r.bor j p z).2.2 h0
  have away : ∀ (j : Nat) (m : List D), ρ[j]? = some (.ow m) → σ[j]? = some (some (.ref p)) → False := fun j m hj hs => by
    obtain ⟨q, ws, e1, _, _, e4, _⟩ := r.own hj
    rw [hs] at e1; cases e1
    rw [h0] at e4; cases e4
  refine ⟨r'.sub, r'.old, r'.ext, r'.new, by simpa using r.len, fun j s hs => ?_, r'.bor, r'.one, fun j k l m q a b c d' => ?_⟩
  · rcases set_get hs with ⟨rfl, hl, rfl⟩ | ⟨hj, hs⟩
    · exact ⟨p, vs, by rw [List.getElem?_set_self (by rw [← r.len]; exact hl)], r.old.free h0, h1, h2, h3, nb⟩
    · rw [List.getElem?_set_ne (Ne.symm hj)]
      exact r'.slot j s hs
  · rcases set_get a with ⟨rfl, hl, e⟩ | ⟨hj, a'⟩
    · rcases set_get b with ⟨rfl, _, e⟩ | ⟨hk, b'⟩
      · rfl
      · rw [List.getElem?_set_self (by rw [← r.len]; exact hl)] at c
        rw [List.getElem?_set_ne (Ne.symm hk)] at d'
        cases c
        exact (away k m b' d').elim
    · rcases set_get b with ⟨rfl, hl, e⟩ | ⟨hk, b'⟩
      · rw [List.getElem?_set_self (by rw [← r.len]; exact hl)] at d'
        rw [List.getElem?_set_ne (Ne.symm hj)] at c
        cases d'
        exact (away j l a' c).elim
      · rw [List.getElem?_set_ne (Ne.symm hj)] at c
        rw [List.getElem?_set_ne (Ne.symm hk)] at d'
        exact r.dis j k l m q a' b' c d'
/-- a list of one's own is changed -/
theorem RelE.wr {i : Nat} {l l' : List D} {p : Addr} {ws : List V} (r : RelE K S G Hs H σ ρ) (hi : ρ[i]? = some (.ow l)) (hs : σ[i]? = some (some (.ref p))) (h : RpL K Hs l' ws) :
    RelE K S G Hs (upd H p (.lst ws)) σ (ρ.set i (.ow l')) := by
  obtain ⟨q, us, e1, e2, e3, e4, e5, e6⟩ := r.own' hi
  rw [hs] at e1; cases e1
  refine ⟨fun b u e => ?_, fun b u e => ?_, r.ext, r.new, by simpa using r.len, fun j s hj => ?_, fun jj a ha => ?_, r.one, fun j k m n q a b c d' => ?_⟩
  · rw [upd_ne (ne_of_none e e3)]; exact r.sub b u e
  · rw [upd_ne (ne_of_none e e2)]; exact r.old b u e
  · rcases set_get hj with ⟨rfl, hl, rfl⟩ | ⟨hj', hj⟩
    · exact ⟨p, ws, hs, e2, e3, upd_same, h, e6⟩
    · have q := r.slot j s hj
      cases s with
      | no => trivial
      | sh d => exact q
      | ow m =>
        obtain ⟨q, xs, f1, f2, f3, f4, f5, f6⟩ := q
        refine ⟨q, xs, f1, f2, f3, ?_, f5, f6⟩
        rw [upd_ne]
        · exact f4
        · rintro rfl
          exact hj' (r.dis j i m l q hj hi f1 hs)
      | bo m =>
        obtain ⟨q, xs, f1, f2, f3, f4⟩ := q
        refine ⟨q, xs, f1, f2, ?_, f4⟩
        rw [upd_ne]
        · exact f3
        · rintro rfl
          exact e6 j f2
  · obtain ⟨h1, h2, h3⟩ := r.bor jj a ha
    refine ⟨h1, h2, ?_⟩
    rw [upd_ne]
    · exact h3
    · rintro rfl
      exact e6 jj ha
  · have go : ∀ (j : Nat) (m : List D), (ρ.set i (.ow l'))[j]? = some (.ow m) → ∃ m', ρ[j]? = some (.ow m') := fun j m h => by
      rcases set_get h with ⟨rfl, _, _⟩ | ⟨_, h⟩
      · exact ⟨l, hi⟩
      · exact ⟨m, h⟩
    obtain ⟨m', a'⟩ := go j m a
    obtain ⟨n', b'⟩ := go k n b
    exact r.dis j k m' n' q a' b' c d'
/-- the lent list is changed -/
theorem RelE.wrB {i : Nat} {l l' : List D} {p : Addr} {ws : List V} (r : RelE K S G Hs H σ ρ) (hi : ρ[i]? = some (.bo l)) (hs : σ[i]? = some (some (.ref p))) (h : RpL K Hs l' ws) :
    RelE K S G Hs (upd H p (.lst ws)) σ (ρ.set i (.bo l')) := by
  obtain ⟨q, us, e1, e6, e4, e5⟩ := r.lent hi
  rw [hs] at e1; cases e1
  obtain ⟨e2, e3, _⟩ := r.bor i p e6
  refine ⟨fun b u e => ?_, fun b u e => ?_, r.ext, r.new, by simpa using r.len, fun j s hj => ?_, fun jj a ha => ?_, r.one, fun j k m n q a b c d' => ?_⟩
  · rw [upd_ne (ne_of_none e e3)]; exact r.sub b u e
  · rw [upd_ne (ne_of_none e e2)]; exact r.old b u e
  · rcases set_get hj with ⟨rfl, hl, rfl⟩ | ⟨hj', hj⟩
    · exact ⟨p, ws, hs, e6, upd_same, h⟩
    · have q := r.slot j s hj
      cases s with
      | no => trivial
      | sh d => exact q
      | ow m =>
        obtain ⟨q, xs, f1, f2, f3, f4, f5, f6⟩ := q
        refine ⟨q, xs, f1, f2, f3, ?_, f5, f6⟩
        rw [upd_ne]
        · exact f4
        · rintro rfl
          exact f6 i e6
      | bo m =>
        obtain ⟨q, xs, f1, f2, f3, f4⟩ := q
        refine ⟨q, xs, f1, f2, ?_, f4⟩
        rw [upd_ne]
        · exact f3
        · rintro rfl
          exact hj' (r.one j i q f2 e6)
  · obtain ⟨h1, h2, h3⟩ := r.bor jj a ha
    refine ⟨h1, h2, ?_⟩
    by_cases z : a = p
    · subst z; rw [upd_same]; simp
    · rw [upd_ne z]; exact h3
  · rcases set_get a with ⟨_, _, e⟩ | ⟨_, a⟩
    · cases e
    · rcases set_get b with ⟨_, _, e⟩ | ⟨_, b⟩
      · cases e
      · exact r.dis j k m n q a b c d'
/-- a list of one's own is frozen -/
theorem RelE.fz {i : Nat} {l : List D} (r : RelE K S G Hs H σ ρ) (hi : ρ[i]? = some (.ow l)) : ∃ Hs', Same Hs Hs' ∧ RelE K S G Hs' H σ (ρ.set i (.sh (.list l))) := by
  obtain ⟨p, vs, e1, e2, e3, e4, e5, e6⟩ := r.own' hi
  have g : Same Hs (upd Hs p (.lst vs)) := fun b u q => by rw [upd_ne (ne_of_none q e3)]; exact q
  refine ⟨upd Hs p (.lst vs), g, fun b u q => ?_, r.old, r.ext.trans g, fun b u q n => ?_, by simpa using r.len, fun j s hj => ?_, fun jj a ha => ?_, r.one, fun j k m n q a b c d' => ?_⟩
  · by_cases hb : b = p
    · subst hb; rw [upd_same] at q; cases q; exact e4
    · rw [upd_ne hb] at q; exact r.sub b u q
  · by_cases hb : b = p
    · subst hb; exact e2
    · rw [upd_ne hb] at q; exact r.new b u q n
  · rcases set_get hj with ⟨rfl, hl, rfl⟩ | ⟨hj', hj⟩
    · exact ⟨_, e1, .lst (.inl (.inl upd_same)) (e5.mono g)⟩
    · have q := r.slot j s hj
      cases s with
      | no => trivial
      | sh d =>
        obtain ⟨v, q1, q2⟩ := q
        exact ⟨v, q1, q2.mono g⟩
      | ow m =>
        obtain ⟨q, xs, f1, f2, f3, f4, f5, f6⟩ := q
        refine ⟨q, xs, f1, f2, ?_, f4, f5.mono g, f6⟩
        rw [upd_ne]
        · exact f3
        · rintro rfl
          exact hj' (r.dis j i m l q hj hi f1 e1)
      | bo m =>
        obtain ⟨q, xs, f1, f2, f3, f4⟩ := q
        exact ⟨q, xs, f1, f2, f3, f4.mono g⟩
  · obtain ⟨h1, h2, h3⟩ := r.bor jj a ha
    refine ⟨h1, ?_, h3⟩
    rw [upd_ne]
    · exact h2
    · rintro rfl
      exact e6 jj ha
  · rcases set_get a with ⟨_, _, e⟩ | ⟨hj, a⟩
    · cases e
    · rcases set_get b with ⟨_, _, e⟩ | ⟨hk, b⟩
      · cases e
      · exact r.dis j k m n q a b c d'
end

/-! ### outcomes -/
/-- an exception: its class's name, its fields -/
structure Xn where
  name : Str
  flds : List (Str × D) := []
inductive R (α : Type) where
  | ok (a : α)
  | ex (x : Xn)
  | bad
def R.bind {α β : Type} (r : R α) (f : α → R β) : R β := match r with
  | .ok a => f a
  | .ex x => .ex x
  | .bad => .bad
instance : Monad R where
  pure := .ok
  bind := R.bind
inductive Out where
  | nx (ρ : Ev)
  | rt (r : SD)
  | rtB (r : SD) (ρ : Ev)
  | bk (ρ : Ev)
  | ct (ρ : Ev)
  | ex (x : Xn) (ρ : Ev)
  | bad
end VL

set_option Elab.async false
set_option linter.all false
set_option maxRecDepth 100000
set_option autoImplicit false
namespace VL
open PySem PySem.Spec PyProof.Rows L2

/-! ### what is wanted behind an evaluation -/
/-- the exception told by x, as it lies -/
def XRp (K : Fg) (mg : Str → Option Value) (H : Hp) (x : Xn) (cls : Value) (dd : Option Addr) : Prop :=
  mg x.name = some cls ∧ ((x.flds = [] ∧ dd = none) ∨ x.flds ≠ [] ∧ ∃ a vs, dd = some a ∧ H a = some (.xd vs) ∧ vs.map (·.1) = x.flds.map (·.1) ∧ RpL K H (x.flds.map (·.2)) (vs.map (·.2)))

def Post {α : Type} (K : Fg) (mg : Str → Option Value) (W : WX) (Hs H : Hp) (σ : Sg) : R α → (α → Hp → Hp → Prop) → Prop
  | .ok a, P => ∀ Hs' H', Ext Hs H Hs' H' → P a Hs' H'
  | .ex x, _ => ∀ Hs' H' cls dd, Ext Hs H Hs' H' → XRp K mg Hs' x cls dd → W cls dd σ H'
  | .bad, _ => False

section
variable {K : Fg} {mg : Str → Option Value} {W : WX} {Hs H Hs1 H1 : Hp} {σ : Sg} {α β : Type}
theorem Post.up {r : R α} {P : α → Hp → Hp → Prop} (e : Ext Hs H Hs1 H1) (h : Post K mg W Hs H σ r P) : Post K mg W Hs1 H1 σ r P := by
  cases r with
  | ok a => exact fun Hs' H' e' => h Hs' H' (e.trans e')
  | ex x => exact fun Hs' H' cls dd e' hx => h Hs' H' cls dd (e.trans e') hx
  | bad => exact h
theorem Post.imp {r : R α} {P P' : α → Hp → Hp → Prop} (h : Post K mg W Hs H σ r P) (hp : ∀ a Hs' H', Ext Hs H Hs' H' → P a Hs' H' → P' a Hs' H') : Post K mg W Hs H σ r P' := by
  cases r with
  | ok a => exact fun Hs' H' e' => hp _ _ _ e' (h Hs' H' e')
  | ex x => exact h
  | bad => exact h
theorem Post.bind {r : R α} {f : α → R β} {P : β → Hp → Hp → Prop} (h : Post K mg W Hs H σ (r.bind f) P) : Post K mg W Hs H σ r (fun a Hs' H' => Post K mg W Hs' H' σ (f a) P) := by
  cases r with
  | ok a => exact fun Hs' H' e => Post.up e h
  | ex x => exact h
  | bad => exact h
theorem Post.now {a : α} {P : α → Hp → Hp → Prop} (hs : Same Hs H) (h : Post K mg W Hs H σ (.ok a) P) : P a Hs H := h Hs H (.refl hs)
end

/-! ### the readings -/
/-- read at once: a list whose items are frozen, or frozen data -/
def Pk (K : Fg) (Hs H : Hp) (d : D) (v : V) : Prop := Rp K Hs d v ∨ ∃ l a xs, d = .list l ∧ v = .ref a ∧ SqL K H a xs ∧ RpL K Hs l xs
theorem Pk.up {K : Fg} {Hs H Hs1 H1 : Hp} {d : D} {v : V} (h : Pk K Hs H d v) (e : Ext Hs H Hs1 H1) : Pk K Hs1 H1 d v := by
  rcases h with h | ⟨l, a, xs, h1, h2, h3, h4⟩
  · exact .inl (h.mono e.grow)
  · exact .inr ⟨l, a, xs, h1, h2, Same.seq e.same h3, h4.mono e.grow⟩
theorem Pk.rp {K : Fg} {Hs H : Hp} {d : D} {v : V} (h : Pk K Hs H d v) (e : Same Hs H) : Rp K H d v := by
  rcases h with h | ⟨l, a, xs, rfl, rfl, h3, h4⟩
  · exact h.mono e
  · exact .lst h3 (h4.mono e)
theorem Pk.list {K : Fg} {Hs H : Hp} {l : List D} {v : V} (h : Pk K Hs H (.list l) v) (e : Same Hs H) : ∃ a xs, v = .ref a ∧ SqL K H a xs ∧ RpL K Hs l xs := by
  rcases h with h | ⟨l', a, xs, h1, h2, h3, h4⟩
  · cases h with
    | lst h1 h2 => exact ⟨_, _, rfl, Same.seq e h1, h2⟩
  · cases h1
    exact ⟨a, xs, h2, h3, h4⟩
theorem Pk.tup {K : Fg} {Hs H : Hp} {l : List D} {v : V} (h : Pk K Hs H (.tuple l) v) (e : Same Hs H) : ∃ a xs, v = .ref a ∧ SqT K H a xs ∧ RpL K Hs l xs := by
  rcases h with h | ⟨l', a, xs, h1, h2, h3, h4⟩
  · cases h with
    | tup h1 h2 => exact ⟨_, _, rfl, SqT.mono e h1, h2⟩
  · cases h1
theorem Pk.int {K : Fg} {Hs H : Hp} {i : Int} {v : V} (h : Pk K Hs H (.int i) v) : v = .int i := by
  rcases h with h | ⟨l', a, xs, h1, h2, h3, h4⟩
  · cases h; rfl
  · cases h1
theorem Pk.bl {K : Fg} {Hs H : Hp} {i : Bool} {v : V} (h : Pk K Hs H (.bool i) v) : v = .bl i := by
  rcases h with h | ⟨l', a, xs, h1, h2, h3, h4⟩
  · cases h; rfl
  · cases h1
theorem Pk.str {K : Fg} {Hs H : Hp} {i : Str} {v : V} (h : Pk K Hs H (.str i) v) : v = .str i := by
  rcases h with h | ⟨l', a, xs, h1, h2, h3, h4⟩
  · cases h; rfl
  · cases h1
theorem Pk.non {K : Fg} {Hs H : Hp} {v : V} (h : Pk K Hs H .none v) : v = .non := by
  rcases h with h | ⟨l', a, xs, h1, h2, h3, h4⟩
  · cases h; rfl
  · cases h1

def tE (K : Fg) (mg : Str → Option Value) (W : WX) (f : Ev → R D) : TE := fun σ H Q => ∃ S G Hs ρ, RelE K S G Hs H σ ρ ∧ Post K mg W Hs H σ (f ρ) (fun d Hs' H' => ∀ v, Rp K Hs' d v → Q v H')
/-- read at once -/
def tPk (K : Fg) (mg : Str → Option Value) (W : WX) (f : Ev → R D) : TE := fun σ H Q => ∃ S G Hs ρ, RelE K S G Hs H σ ρ ∧ Post K mg W Hs H σ (f ρ) (fun d Hs' H' => ∀ v, Pk K Hs' H' d v → Q v H')
/-- a new list -/
def tO (K : Fg) (mg : Str → Option Value) (W : WX) (f : Ev → R (List D)) : TE := fun σ H Q => ∃ S G Hs ρ, RelE K S G Hs H σ ρ ∧
  Post K mg W Hs H σ (f ρ) (fun l Hs' H' => ∀ p vs, H p = none → Hs' p = none → H' p = some (.lst vs) → RpL K Hs' l vs → Q (.ref p) H')
def tT (K : Fg) (mg : Str → Option Value) (W : WX) (f : Ev → R Bool) : TT := fun σ H Q => ∃ S G Hs ρ, RelE K S G Hs H σ ρ ∧ Post K mg W Hs H σ (f ρ) (fun b _ H' => Q b H')
def tA (K : Fg) (mg : Str → Option Value) (W : WX) (f : Ev → R (List D)) : TA := fun σ H Q => ∃ S G Hs ρ, RelE K S G Hs H σ ρ ∧ Post K mg W Hs H σ (f ρ) (fun ds Hs' H' => ∀ vs, RpL K Hs' ds vs → Q vs H')

def VE (X : Cx) (W : WX) (e : Expr) (f : Ev → R D) : Prop := PE X e (tE X.K X.mg W f)
def VP (X : Cx) (W : WX) (e : Expr) (f : Ev → R D) : Prop := PE X e (tPk X.K X.mg W f)
def VO (X : Cx) (W : WX) (e : Expr) (f : Ev → R (List D)) : Prop := PE X e (tO X.K X.mg W f)
def VT (X : Cx) (W : WX) (e : Expr) (f : Ev → R Bool) : Prop := PT X e (tT X.K X.mg W f)
def VW (X : Cx) (W : WX) (e : Expr) (f : Ev → R Bool) : Prop := PW X e (tT X.K X.mg W f)
def VA (X : Cx) (W : WX) (es : List Expr) (f : Ev → R (List D)) : Prop := PA X es (tA X.K X.mg W f)

theorem PE.imp {X : Cx} {e : Expr} {t t' : TE} (h : PE X e t) (i : ∀ σ H Q, t' σ H Q → t σ H Q) : PE X e t' := ⟨fun pins s σ H Q I q => h.run pins s σ H Q I (i σ H Q q)⟩
theorem PT.imp {X : Cx} {e : Expr} {t t' : TT} (h : PT X e t) (i : ∀ σ H Q, t' σ H Q → t σ H Q) : PT X e t' := ⟨fun pins s σ H Q I q => h.run pins s σ H Q I (i σ H Q q)⟩
theorem PW.imp {X : Cx} {e : Expr} {t t' : TT} (h : PW X e t) (i : ∀ σ H Q, t' σ H Q → t σ H Q) : PW X e t' := ⟨fun wh pins s σ H Q I q => h.run wh pins s σ H Q I (i σ H Q q)⟩
theorem PA.imp {X : Cx} {es : List Expr} {t t' : TA} (h : PA X es t) (i : ∀ σ H Q, t' σ H Q → t σ H Q) : PA X es t' := ⟨fun pos pins s σ H Q I q => h.run pos pins s σ H Q I (i σ H Q q)⟩
theorem PS.imp {X : Cx} {st : Stmt} {t t' : TS} (h : PS X st t) (i : ∀ D σ H, t' D σ H → t D σ H) : PS X st t' := ⟨fun pins s σ H D I q => h.run pins s σ H D I (i D σ H q)⟩
theorem PSs.imp {X : Cx} {st : List Stmt} {t t' : TS} (h : PSs X st t) (i : ∀ D σ H, t' D σ H → t D σ H) : PSs X st t' := ⟨fun pins s σ H D I q => h.run pins s σ H D I (i D σ H q)⟩
theorem PG.imp {X : Cx} {tg : Expr} {t t' : TG} (h : PG X tg t) (i : ∀ v σ H Q, t' v σ H Q → t v σ H Q) : PG X tg t' := ⟨fun pins s σ H v u Q I r q => h.run pins s σ H v u Q I r (i v σ H Q q)⟩
theorem PI.imp {X : Cx} {tg iter : Expr} {t t' : TI} (h : PI X tg iter t) (i : ∀ σ H Q, t' σ H Q → t σ H Q) : PI X tg iter t' := ⟨fun pins s σ H Q I q => h.run pins s σ H Q I (i σ H Q q)⟩

/-- a computation whose exception is not wanted -/
def noex {α : Type} : R α → R α
  | .ok a => .ok a
  | _ => .bad
def ofO {α : Type} : Option α → R α
  | some a => .ok a
  | none => .bad
theorem bind_ok {α β : Type} (a : α) (f : α → R β) : (R.ok a).bind f = f a := rfl
/-! ### combinators -/
def cst {α : Type} (a : α) : Ev → R α := fun _ => .ok a
def eVar (i : Nat) : Ev → R D := fun ρ => match ρ[i]? with
  | some (.sh d) => .ok d
  | _ => .bad
/-- .. or a list of one's own, read at once -/
def eOwn (i : Nat) : Ev → R D := fun ρ => match ρ[i]? with
  | some (.sh d) => .ok d
  | some (.ow l) => .ok (.list l)
  | some (.bo l) => .ok (.list l)
  | _ => .bad
def e1 {α β : Type} (F : α → Option β) (f : Ev → R α) : Ev → R β := fun ρ => (f ρ).bind fun x => ofO (F x)
def e2 {α β γ : Type} (F : α → β → Option γ) (f : Ev → R α) (g : Ev → R β) : Ev → R γ := fun ρ => (f ρ).bind fun x => (g ρ).bind fun y => ofO (F x y)
def eCons (f : Ev → R D) (g : Ev → R (List D)) : Ev → R (List D) := fun ρ => (f ρ).bind fun x => (g ρ).bind fun xs => .ok (x :: xs)
def eLst (f : Ev → R (List D)) : Ev → R D := fun ρ => (f ρ).bind fun l => .ok (.list l)
def eIf {α : Type} (c : Ev → R Bool) (f g : Ev → R α) : Ev → R α := fun ρ => (c ρ).bind fun b => if b then f ρ else g ρ
def eAnd (f g : Ev → R Bool) : Ev → R Bool := fun ρ => (f ρ).bind fun b => if b then g ρ else .ok false
def eOr (f g : Ev → R Bool) : Ev → R Bool := fun ρ => (f ρ).bind fun b => if b then .ok true else g ρ
def eNot (f : Ev → R Bool) : Ev → R Bool := fun ρ => (f ρ).bind fun b => .ok (!b)

section
variable {X : Cx} {W : WX} {e a b c : Expr} {es : List Expr} {pos : Pos} {f g : Ev → R D} {fl : Ev → R (List D)} {fb gb : Ev → R Bool}

theorem VE.vp (h : VE X W e f) : VP X W e f := PE.imp h fun σ H Q ⟨S, G, Hs, ρ, r, p⟩ => ⟨S, G, Hs, ρ, r, p.imp fun _ _ _ e q v hv => q v (.inl hv)⟩
theorem VO.ve (h : VO X W e fl) : VE X W e (eLst fl) := PE.imp h fun σ H Q ⟨S, G, Hs, ρ, r, p⟩ => ⟨S, G, Hs, ρ, r, by
  unfold eLst at p
  cases q : fl ρ with
  | bad => rw [q] at p; exact p
  | ex x => rw [q] at p; exact p
  | ok l =>
    rw [q] at p
    refine fun Hs' H' e p' vs h0 h1 h2 h3 => ?_
    exact p _ _ (e.frz h0 h2 h1) _ (.lst (.inl (.inl upd_same)) (h3.mono fun b u z => by rw [upd_ne (ne_of_none z h1)]; exact z))⟩

/-! ### names, constants -/
theorem ve_pe {v : V} {d : D} (h : PE X e (tC v)) (hd : ∀ K H, Rp K H d v) : VE X W e (cst d) := PE.imp h fun σ H Q ⟨S, G, Hs, ρ, r, p⟩ => p.now r.sub v (hd _ _)
theorem ve_int {i j pos} : VE X W (.Constant (.int i) j pos) (cst (.int i)) := ve_pe pe_int fun _ _ => .int i
theorem ve_bl {i j pos} : VE X W (.Constant (.bool i) j pos) (cst (.bool i)) := ve_pe pe_bl fun _ _ => .bl i
theorem ve_non {j pos} : VE X W (.Constant .none j pos) (cst .none) := ve_pe pe_non fun _ _ => .non
theorem ve_str {i j pos} : VE X W (.Constant (.str i) j pos) (cst (.str i)) := ve_pe pe_str fun _ _ => .str i
theorem ve_var (i : Nat) {x : Str} {pos : Pos} (h : PE X (.Name x pos) (tVar i)) : VE X W (.Name x pos) (eVar i) := PE.imp h fun σ H Q ⟨S, G, Hs, ρ, r, p⟩ => by
  unfold eVar at p
  cases q : ρ[i]? with
  | none => rw [q] at p; exact p.elim
  | some s =>
    rw [q] at p
    cases s with
    | no => exact p.elim
    | ow l => exact p.elim
    | bo l => exact p.elim
    | sh d =>
      obtain ⟨v, e1, e2⟩ := r.get q
      exact ⟨v, e1, p.now r.sub v e2⟩
theorem vp_var (i : Nat) {x : Str} {pos : Pos} (h : PE X (.Name x pos) (tVar i)) : VP X W (.Name x pos) (eOwn i) := PE.imp h fun σ H Q ⟨S, G, Hs, ρ, r, p⟩ => by
  unfold eOwn at p
  cases q : ρ[i]? with
  | none => rw [q] at p; exact p.elim
  | some s =>
    rw [q] at p
    cases s with
    | no => exact p.elim
    | ow l =>
      obtain ⟨a, vs, e1, _, _, e4, e5⟩ := r.own q
      exact ⟨_, e1, p.now r.sub _ (.inr ⟨l, a, vs, rfl, rfl, .inl (.inl e4), e5⟩)⟩
    | bo l =>
      obtain ⟨a, vs, e1, _, e4, e5⟩ := r.lent q
      exact ⟨_, e1, p.now r.sub _ (.inr ⟨l, a, vs, rfl, rfl, .inl (.inl e4), e5⟩)⟩
    | sh d =>
      obtain ⟨v, e1, e2⟩ := r.get q
      exact ⟨v, e1, p.now r.sub v (.inl e2)⟩

/-! ### operators -/
def OpD (K : Fg) (r : R2) (F : D → D → Option D) : Prop := ∀ (Hs H : Hp) (x y : D) (u v : V) (Q : VK) (d : D), Same Hs H → F x y = some d → Pk K Hs H x u → Pk K Hs H y v →
  (∀ Hs' H' w, Ext Hs H Hs' H' → Rp K Hs' d w → Q w H') → r u v H Q
def OpO (K : Fg) (r : R2) (F : D → D → Option (List D)) : Prop := ∀ (Hs H : Hp) (x y : D) (u v : V) (Q : VK) (l : List D), Same Hs H → F x y = some l → Pk K Hs H x u → Pk K Hs H y v →
  (∀ Hs' H' p vs, Ext Hs H Hs' H' → H p = none → Hs' p = none → H' p = some (.lst vs) → RpL K Hs' l vs → Q (.ref p) H') → r u v H Q
theorem sim_op {K : Fg} {mg : Str → Option Value} {r : R2} {F : D → D → Option D} (hd : OpD K r F) : ∀ σ H Q, tE K mg W (e2 F f g) σ H Q → tOp r (tPk K mg W f) (tPk K mg W g) σ H Q := fun σ H Q ⟨S, G, Hs, ρ, r, p⟩ => by
  refine ⟨S, G, Hs, ρ, r, (Post.bind p).imp fun x Hs1 H1 e q u hu => ?_⟩
  refine ⟨S, G, Hs1, ρ, r.step e, (Post.bind q).imp fun y Hs2 H2 e' q' v hv => ?_⟩
  cases z : F x y with
  | none => rw [z] at q'; exact q'.elim
  | some d =>
    rw [z] at q'
    exact hd Hs2 H2 x y u v Q d e'.sub z (hu.up e') hv fun Hs' H' w e'' hw => q' Hs' H' e'' w hw
theorem sim_opO {K : Fg} {mg : Str → Option Value} {r : R2} {F : D → D → Option (List D)} (hd : OpO K r F) : ∀ σ H Q, tO K mg W (e2 F f g) σ H Q → tOp r (tPk K mg W f) (tPk K mg W g) σ H Q := fun σ H Q ⟨S, G, Hs, ρ, r, p⟩ => by
  refine ⟨S, G, Hs, ρ, r, (Post.bind p).imp fun x Hs1 H1 e q u hu => ?_⟩
  refine ⟨S, G, Hs1, ρ, r.step e, (Post.bind q).imp fun y Hs2 H2 e' q' v hv => ?_⟩
  cases z : F x y with
  | none => rw [z] at q'; exact q'.elim
  | some d =>
    rw [z] at q'
    exact hd Hs2 H2 x y u v Q d e'.sub z (hu.up e') hv fun Hs' H' w vs e'' h0 h1 h2 h3 => q' Hs' H' e'' w vs ((e.trans e').same.free h0) h1 h2 h3
theorem ve_op {op : Operator} {r : R2} {F : D → D → Option D} (ho : OpR X (binaryOp op) r) (hd : OpD X.K r F) (ha : VP X W a f) (hb : VP X W b g) : VE X W (.BinOp a op b pos) (e2 F f g) := PE.imp (pe_op ho ha hb) (sim_op hd)
theorem vo_op {op : Operator} {r : R2} {F : D → D → Option (List D)} (ho : OpR X (binaryOp op) r) (hd : OpO X.K r F) (ha : VP X W a f) (hb : VP X W b g) : VO X W (.BinOp a op b pos) (e2 F f g) := PE.imp (pe_op ho ha hb) (sim_opO hd)
theorem ve_cmp {op : CmpOp} {r : R2} {F : D → D → Option D} (ho : OpR X (compareOp op) r) (hd : OpD X.K r F) (ha : VP X W a f) (hb : VP X W b g) (hm : behindInMarks op b = false) : VE X W (.Compare a [op] [b] pos) (e2 F f g) := PE.imp (pe_cmpR ho ha hb hm) (sim_op hd)
theorem ve_ix {r : R2} {F : D → D → Option D} (hr : IxR X r) (hd : OpD X.K r F) (ha : VP X W a f) (hb : VP X W b g) (hs : PlainIx b) : VE X W (.Subscript a b pos) (e2 F f g) := PE.imp (pe_ix hr ha hb hs) (sim_op hd)
/-- one place -/
def UnD (K : Fg) (r : V → Hp → VK → Prop) (F : D → Option D) : Prop := ∀ (Hs H : Hp) (x : D) (u : V) (Q : VK) (d : D), Same Hs H → F x = some d → Pk K Hs H x u →
  (∀ Hs' H' w, Ext Hs H Hs' H' → Rp K Hs' d w → Q w H') → r u H Q
theorem sim_un {K : Fg} {mg : Str → Option Value} {r : V → Hp → VK → Prop} {F : D → Option D} (hd : UnD K r F) : ∀ σ H Q, tE K mg W (e1 F f) σ H Q → tUn r (tPk K mg W f) σ H Q := fun σ H Q ⟨S, G, Hs, ρ, r, p⟩ => by
  refine ⟨S, G, Hs, ρ, r, (Post.bind p).imp fun x Hs1 H1 e q u hu => ?_⟩
  cases z : F x with
  | none => rw [z] at q; exact q.elim
  | some d =>
    rw [z] at q
    exact hd Hs1 H1 x u Q d e.sub z hu fun Hs' H' w e'' hw => q Hs' H' e'' w hw
theorem ve_un {op : UnaryOp} {r : V → Hp → VK → Prop} {F : D → Option D} (ho : UnR X (unaryOp op) r) (hd : UnD X.K r F) (ha : VP X W a f) : VE X W (.UnaryOp op a pos) (e1 F f) := PE.imp (pe_un ho ha) (sim_un hd)

/-! ### tests -/
def bOf : D → Option Bool
  | .bool b => some b
  | _ => none
def truD : D → Option Bool
  | .none => some false
  | .bool b => some b
  | .int i => some (i != 0)
  | .str x => if x.length ≤ sizeLine then some ((x.length : Int) != 0) else none
  | .list l => some (!l.isEmpty)
  | .tuple l => some (!l.isEmpty)
  | .dict _ => none
theorem truV_of {K : Fg} {Hs H : Hp} {d : D} {v : V} {k : Bool} (hs : Same Hs H) (h : Pk K Hs H d v) (e : truD d = some k) : TruV K v H k := by
  have emp : ∀ {l : List D} {xs : List V}, RpL K Hs l xs → (!l.isEmpty) = !xs.isEmpty := fun {l xs} r => by cases r <;> rfl
  cases d with
  | none => cases h.non; exact (Option.some.inj e).symm
  | bool b => cases h.bl; exact (Option.some.inj e).symm
  | int i => cases h.int; exact (Option.some.inj e).symm
  | str x =>
    cases h.str
    have e' : (if x.length ≤ sizeLine then some ((x.length : Int) != 0) else none) = some k := e
    split at e'
    · rename_i hz
      exact ⟨hz, (Option.some.inj e').symm⟩
    · cases e'
  | list l =>
    obtain ⟨a, xs, rfl, h1, h2⟩ := h.list hs
    exact .inl ⟨xs, h1, by rw [← emp h2]; exact (Option.some.inj e).symm⟩
  | tuple l =>
    obtain ⟨a, xs, rfl, h1, h2⟩ := h.tup hs
    exact .inr (.inl ⟨xs, h1, by rw [← emp h2]; exact (Option.some.inj e).symm⟩)
  | dict _ => cases e
theorem vt_tru (ha : VP X W a f) (he : ∀ whole, isTrue a X.env whole = (do let v ← whole; standAt a.pos; holding [v] (truthy v))) : VT X W a (e1 truD f) := PT.imp (pt_truth ha he) fun σ H Q ⟨S, G, Hs, ρ, r, p⟩ => by
  refine ⟨S, G, Hs, ρ, r, (Post.bind p).imp fun x Hs1 H1 e q u hu => ?_⟩
  cases z : truD x with
  | none => rw [z] at q; exact q.elim
  | some k =>
    rw [z] at q
    exact ⟨k, truV_of e.sub hu z, q.now e.sub⟩
/-- a comparison as a test -/
theorem vt_cmp {op : CmpOp} {r : R2} {F : D → D → Option D} (ho : OpR X (compareOp op) r) (hd : OpD X.K r F) (ha : VP X W a f) (hb : VP X W b g) (hm : behindInMarks op b = false) : VT X W (.Compare a [op] [b] pos) (e1 bOf (e2 F f g)) := by
  refine PT.imp (pt_cmpR ho ha hb hm) fun σ H Q ⟨S, G, Hs, ρ, r, p⟩ => ?_
  refine sim_op hd σ H _ ⟨S, G, Hs, ρ, r, (Post.bind p).imp fun x Hs1 H1 e q v hv => ?_⟩
  cases x with
  | bool k => cases hv; exact ⟨k, rfl, q.now e.sub⟩
  | none => exact q.elim
  | int _ => exact q.elim
  | str _ => exact q.elim
  | list _ => exact q.elim
  | tuple _ => exact q.elim
  | dict _ => exact q.elim
theorem sim_and {K : Fg} {mg : Str → Option Value} : ∀ σ H Q, tT K mg W (eAnd fb gb) σ H Q → tAnd (tT K mg W fb) (tT K mg W gb) σ H Q := fun σ H Q ⟨S, G, Hs, ρ, r, p⟩ => by
  refine ⟨S, G, Hs, ρ, r, (Post.bind p).imp fun k Hs1 H1 e q => ?_⟩
  cases k with
  | true => exact ⟨S, G, Hs1, ρ, r.step e, q⟩
  | false => exact q.now e.sub
theorem sim_or {K : Fg} {mg : Str → Option Value} : ∀ σ H Q, tT K mg W (eOr fb gb) σ H Q → tOr (tT K mg W fb) (tT K mg W gb) σ H Q := fun σ H Q ⟨S, G, Hs, ρ, r, p⟩ => by
  refine ⟨S, G, Hs, ρ, r, (Post.bind p).imp fun k Hs1 H1 e q => ?_⟩
  cases k with
  | false => exact ⟨S, G, Hs1, ρ, r.step e, q⟩
  | true => exact q.now e.sub
theorem VW.vt (h : VW X W e fb) : VT X W e fb := PW.pt h
theorem vw_and1 (ha : VT X W a fb) : VW X W (.BoolOp .And [a] pos) fb := pw_and1 ha
theorem vw_or1 (ha : VT X W a fb) : VW X W (.BoolOp .Or [a] pos) fb := pw_or1 ha
theorem vw_and {rest : List Expr} (ha : VT X W a fb) (hb : VW X W (.BoolOp .And (b :: rest) pos) gb) : VW X W (.BoolOp .And (a :: b :: rest) pos) (eAnd fb gb) := PW.imp (pw_and ha hb) sim_and
theorem vw_or {rest : List Expr} (ha : VT X W a fb) (hb : VW X W (.BoolOp .Or (b :: rest) pos) gb) : VW X W (.BoolOp .Or (a :: b :: rest) pos) (eOr fb gb) := PW.imp (pw_or ha hb) sim_or
theorem vt_not (ha : VT X W a fb) : VT X W (.UnaryOp .Not a pos) (eNot fb) := PT.imp (pt_not ha) fun σ H Q ⟨S, G, Hs, ρ, r, p⟩ =>
  ⟨S, G, Hs, ρ, r, (Post.bind p).imp fun k Hs1 H1 e q => q.now e.sub⟩
theorem ve_ifExp (hc : VT X W c fb) (ha : VE X W a f) (hb : VE X W b g) : VE X W (.IfExp c a b pos) (eIf fb f g) := PE.imp (pe_ifExp hc ha hb) fun σ H Q ⟨S, G, Hs, ρ, r, p⟩ => by
  refine ⟨S, G, Hs, ρ, r, (Post.bind p).imp fun k Hs1 H1 e q => ?_⟩
  cases k with
  | true => exact ⟨S, G, Hs1, ρ, r.step e, q⟩
  | false => exact ⟨S, G, Hs1, ρ, r.step e, q⟩

/-! ### arguments, displays -/
theorem va_nil : VA X W [] (cst []) := PA.imp pa_nil fun σ H Q ⟨S, G, Hs, ρ, r, p⟩ => p.now r.sub [] .nil
theorem va_cons (ha : VE X W e f) (hr : VA X W es fl) (hs : starEach (e :: es) X.env = (false, eval e X.env) :: starEach es X.env := by rfl) : VA X W (e :: es) (eCons f fl) := PA.imp (pa_cons ha hr hs) fun σ H Q ⟨S, G, Hs, ρ, r, p⟩ => by
  refine ⟨S, G, Hs, ρ, r, (Post.bind p).imp fun x Hs1 H1 e q u hu => ?_⟩
  refine ⟨S, G, Hs1, ρ, r.step e, (Post.bind q).imp fun xs Hs2 H2 e' q' us hus => ?_⟩
  exact q'.now e'.sub (u :: us) (.cons (hu.mono e'.grow) hus)
def lim (l : List D) : Option (List D) := if l.length ≤ sizeLine then some l else none
theorem lim_some {l l' : List D} (h : lim l = some l') : l' = l ∧ l.length ≤ sizeLine := by
  unfold lim at h
  split at h
  · rename_i z
    exact ⟨(Option.some.inj h).symm, z⟩
  · cases h
def tupD (l : List D) : Option D := (lim l).map .tuple
theorem ve_tup {x1 : Nat} (h : VA X W es fl) : VE X W (.Tuple es x1 pos) (e1 tupD fl) := PE.imp (pe_tup h) fun σ H Q ⟨S, G, Hs, ρ, r, p⟩ => by
  refine ⟨S, G, Hs, ρ, r, (Post.bind p).imp fun l Hs1 H1 e q us hus => ?_⟩
  unfold tupD at q
  cases z : lim l with
  | none => rw [z] at q; exact q.elim
  | some l' =>
    rw [z] at q
    obtain ⟨rfl, hz⟩ := lim_some z
    refine ⟨by rw [← hus.length]; exact hz, fun p hp => ?_⟩
    have x := Ext.new (o := .tup us) e.sub hp
    exact q _ _ x _ (.tup (.inl (.inl upd_same)) (hus.mono x.grow))
theorem vo_lst (h : VA X W es fl) : VO X W (.List es pos) (e1 lim fl) := PE.imp (pe_lst h) fun σ H Q ⟨S, G, Hs, ρ, r, p⟩ => by
  refine ⟨S, G, Hs, ρ, r, (Post.bind p).imp fun l Hs1 H1 e q us hus => ?_⟩
  cases z : lim l with
  | none => rw [z] at q; exact q.elim
  | some l' =>
    rw [z] at q
    obtain ⟨rfl, hz⟩ := lim_some z
    refine ⟨by rw [← hus.length]; exact hz, fun p hp => ?_⟩
    have x := Ext.hid (o := .lst us) e.sub hp
    refine q _ _ x p us (e.same.free hp) ?_ upd_same hus
    cases y : Hs1 p with
    | none => rfl
    | some o => rw [e.sub _ _ y] at hp; cases hp
end
end VL

set_option Elab.async false
set_option linter.all false
set_option maxRecDepth 100000
set_option autoImplicit false
namespace VL
open PySem PySem.Spec PyProof.Rows L2

/-! ### operators by data -/
/-- a two-place operator of the machine computes F on data -/
def DOp (X : Cx) (f : Value → Value → Sem Value) (F : D → D → Option D) : Prop := ∃ r, OpR X f r ∧ OpD X.K r F
def DOpO (X : Cx) (f : Value → Value → Sem Value) (F : D → D → Option (List D)) : Prop := ∃ r, OpR X f r ∧ OpO X.K r F

section
variable {X : Cx} {pins : List (Addr × Obj)} {σ : Sg} {H : Hp} {s : Shared} {a b : Addr} {xs zs : List V}
/-- a list that is read, its very object -/
theorem rd_obj (I : Inv X pins σ H s) (h : SqL X.K H a xs) : xs.length ≤ sizeLine ∧ ∃ (its : List Value) (n : Nat) (sl : Array (Option Value)), Vals xs its ∧ xs.length = its.length ∧ s.heap.get? a = some { cls := .type "list", dict := none, data := .seq its.toArray n, slots := sl } := by
  obtain ⟨its, r, ⟨o, n, e, hc, hd, hs⟩, z⟩ := I.list h
  obtain ⟨c, d, dt, sl⟩ := o
  simp only at hc hd hs
  subst hc hd hs
  exact ⟨z, its, n, sl, r, r.length, e⟩
end
open PySem.AutoSeq1 (wpAny_loadPart') in
theorem list_mulW (l : Addr) (items : Array Value) (n : Nat) (sl : Array (Option Value)) (x : Int) (u : Tok) (hc0 : ¬(!Builtin.List.listFitsIndex x) = true) (hc1 : ¬items.size * x.toNat > (2 ^ 63 - 1) / 8) (hc2 : ¬Builtin.List.listTooLong (items.size * x.toNat) = true) :
    Meets (Builtin.«list.__mul__» ⟨[.ref l, .int x u], []⟩) (fun _ R s => s.heap.get? l = some { cls := .type "list", dict := none, data := .seq items n, slots := sl } ∧ R (.ok (.ret (Value.ref s.heap.objs.size))) { s with heap := s.heap.push { cls := Value.type "list", data := Data.seq (List.foldl (fun x1 x2 => x1 ++ x2) #[] (List.replicate (if items.isEmpty = true then 0 else x.toNat) items)) }, toks := s.toks }) :=
  .of_wp fun prog w A R s h => by
    obtain ⟨hp, g, d, tk, os⟩ := s; obtain ⟨hl, h⟩ := h
    have hsz := PySem.AutoListH.joined_fits hc2
    wp_walk using wpAny_loadPart' hl
    refine wpAny_ite_false (decide_eq_false (Nat.not_lt.mpr hsz)) ?_; wp_walk using wpAny_loadPart' hl; exact ⟨_, rfl, h⟩
open PySem.AutoSeq1 (wpAny_loadPart') in
theorem int_rmulW (a : Int) (t : Tok) (l : Addr) (items : Array Value) (n : Nat) (sl : Array (Option Value)) :
    Meets (Builtin.«int.__rmul__» ⟨[.int a t, .ref l], []⟩) (fun _ R s => s.heap.get? l = some { cls := .type "list", dict := none, data := .seq items n, slots := sl } ∧ R (.ok (.ret Value.notImplemented)) s) :=
  .of_wp fun prog w A R s h => by obtain ⟨hp, g, d, tk, os⟩ := s; obtain ⟨hl, h⟩ := h; wp_walk using wpAny_loadPart' hl; exact ⟨_, rfl, h⟩
section
variable {X : Cx}
def rCatS (K : Fg) : R2 := fun x y H Q => ∃ l b xs zs, x = .ref l ∧ y = .ref b ∧ SqL K H l xs ∧ SqL K H b zs ∧ xs.length + zs.length ≤ sizeLine ∧ ∀ p, H p = none → Q (.ref p) (upd H p (.lst (xs ++ zs)))
theorem op_catR : OpR X (binaryOp .Add) (rCatS X.K) := by
  intro pins s σ H x y v u Q I rx ry h
  obtain ⟨l, b, xs, zs, rfl, rfl, hH, hB, hz, q⟩ := h
  cases rx
  cases ry
  obtain ⟨z, its, n, sl, r, hl, e⟩ := rd_obj I hH
  obtain ⟨z2, its2, n2, sl2, r2, hl2, e2⟩ := rd_obj I hB
  have ea : its.toArray ++ its2.toArray = (its ++ its2).toArray := by simp
  refine concat_meets ⟨_, e, rfl⟩ ⟨_, e2, rfl⟩ noFill_list_add seq_list_add PySem.F.slot_list_add PySem.F.entry_list_add (PySem.F.args_list_add_2 _ _) (list_addW l b its.toArray its2.toArray n n2 none none sl sl2 (by rw [List.size_toArray, List.size_toArray]; omega)) ⟨e, e2, ?_⟩
  rw [ea]
  exact ⟨.ref _, _, I.lnew (t' := s.toks) (r.append r2) (by rw [List.length_append]; omega), rfl, q _ I.fresh⟩
def rRepR (K : Fg) : R2 := fun x y H Q => ∃ l k xs, x = .ref l ∧ y = .int k ∧ SqL K H l xs ∧ -(2 ^ 63) ≤ k ∧ k < 2 ^ 63 ∧ xs.length * k.toNat ≤ sizeLine ∧
  ∀ p, H p = none → Q (.ref p) (upd H p (.lst (List.replicate k.toNat xs).flatten))
theorem op_repR : OpR X (binaryOp .Mult) (rRepR X.K) := by
  intro pins s σ H x y v u Q I rx ry h
  obtain ⟨l, k, xs, rfl, rfl, hH, h1, h2, hz, q⟩ := h
  cases rx
  obtain ⟨t, rfl⟩ := ry
  obtain ⟨z, its, n, sl, r, hl, e⟩ := rd_obj I hH
  have hlen : its.toArray.size * k.toNat ≤ sizeLine := by rw [List.size_toArray, ← hl]; exact hz
  have hcap : ¬ its.toArray.size * k.toNat > (2 ^ 63 - 1) / 8 := by
    have : (sizeLine : Nat) ≤ (2 ^ 63 - 1) / 8 := by decide
    omega
  have hfit : ¬ (!Builtin.List.listFitsIndex k) = true := by
    rw [fitsIndex_both h1 h2]
    exact Bool.false_ne_true
  have hlong : ¬ Builtin.List.listTooLong (its.toArray.size * k.toNat) = true := by
    rw [notLongL hlen]
    exact Bool.false_ne_true
  have hnew : List.foldl (fun x1 x2 => x1 ++ x2) #[] (List.replicate (if its.toArray.isEmpty = true then 0 else k.toNat) its.toArray) = (List.replicate k.toNat its).flatten.toArray := by
    have f0 : ∀ m : Nat, List.foldl (fun x1 x2 => x1 ++ x2) #[] (List.replicate m its.toArray) = (List.replicate m its).flatten.toArray := fun m => by
      have := foldl_rep its m []
      rw [List.nil_append] at this
      exact this
    rw [f0]
    cases its with
    | nil => simp
    | cons a r' => rw [if_neg (by simp)]
  refine wpAny_binaryOp_repeat_ref (T := "list") (U := "int") (by decide) ⟨_, e, rfl⟩ (fun s' => typeIs_int s' k t) noFill_list_mul F.fills_int_mul F.slot_int_rmul repeat_list F.slot_int_index.lookup
    (call_meets F.slot_int_rmul (typeIs_int s k t) F.entry_int_rmul (F.args_int_rmul_2 _ _) (int_rmulW k t l its.toArray n sl)
      ⟨e, rfl, ⟨_, e, rfl⟩, call_meets F.slot_list_mul ⟨_, e, rfl⟩ F.entry_list_mul (F.args_list_mul_2 _ _) (list_mulW l its.toArray n sl k t hfit hcap hlong) ⟨e, ?_⟩⟩)
  rw [hnew]
  exact ⟨.ref _, _, I.lnew (t' := s.toks) (r.rep k.toNat) (by rw [PyProof.Rows.lm_len_rep_flat, Nat.mul_comm]; exact hz), rfl, q _ I.fresh⟩
end

/-! ### the data functions -/
def okMul (i j : Int) : Bool := decide ((Builtin.Int.intBits i : Int) + (Builtin.Int.intBits j : Int) ≤ 134217728)
def okDiv (i j : Int) : Bool := decide (j ≠ 0) && !(Builtin.divisionGoesByPylong i j)
def okPow (i j : Int) : Bool := decide (0 ≤ j ∧ j ≤ 1000000 ∧ i.natAbs < 2 ^ 64)
def catD (a b : List D) : Option (List D) := if a.length + b.length ≤ sizeLine then some (a ++ b) else none
def repD (a : List D) (k : Int) : Option (List D) := if -(2 ^ 63) ≤ k ∧ k < 2 ^ 63 ∧ a.length * k.toNat ≤ sizeLine then some (List.replicate k.toNat a).flatten else none
def addD : D → D → Option D
  | .int i, .int j => some (.int (i + j))
  | .str a, .str b => if a.length + b.length ≤ sizeLine then some (.str (a ++ b)) else none
  | .list a, .list b => (catD a b).map .list
  | _, _ => none
def addO : D → D → Option (List D)
  | .list a, .list b => catD a b
  | _, _ => none
def subD : D → D → Option D
  | .int i, .int j => some (.int (i - j))
  | _, _ => none
def mulD : D → D → Option D
  | .int i, .int j => if okMul i j then some (.int (i * j)) else none
  | .list a, .int k => (repD a k).map .list
  | _, _ => none
def mulO : D → D → Option (List D)
  | .list a, .int k => repD a k
  | _, _ => none
def fdivD : D → D → Option D
  | .int i, .int j => if okDiv i j then some (.int (i.fdiv j)) else none
  | _, _ => none
def modD : D → D → Option D
  | .int i, .int j => if j ≠ 0 then some (.int (i.fmod j)) else none
  | _, _ => none
def powD : D → D → Option D
  | .int i, .int j => if okPow i j then some (.int (i ^ j.toNat)) else none
  | _, _ => none
def ltD : D → D → Option D
  | .int i, .int j => some (.bool (decide (i < j)))
  | _, _ => none
def leD : D → D → Option D
  | .int i, .int j => some (.bool (decide (i ≤ j)))
  | _, _ => none
def gtD : D → D → Option D
  | .int i, .int j => some (.bool (decide (j < i)))
  | _, _ => none
def geD : D → D → Option D
  | .int i, .int j => some (.bool (decide (j ≤ i)))
  | _, _ => none
def eqS : D → D → Option Bool
  | .str x, .str y => some (decide (x = y))
  | _, _ => none
def eqD (a b : D) : Option D := if SeqAt.shaped a && SeqAt.shaped b then some (.bool (PyData.eqv a b)) else (eqS a b).map .bool
def neD (a b : D) : Option D := if SeqAt.shaped a && SeqAt.shaped b then some (.bool (!PyData.eqv a b)) else (eqS a b).map fun b => .bool (!b)
def isNonD : D → Bool
  | .none => true
  | _ => false
def isD : D → D → Option D
  | .bool a, .bool b => some (.bool (decide (a = b)))
  | a, .none => some (.bool (isNonD a))
  | _, _ => none
def isnotD : D → D → Option D
  | .bool a, .bool b => some (.bool (!decide (a = b)))
  | a, .none => some (.bool (!isNonD a))
  | _, _ => none
def negD : D → Option D
  | .int i => some (.int (-i))
  | _ => none
def ixD : D → D → Option D
  | .list l, .int i => atI l i
  | .tuple l, .int i => atI l i
  | .str z, .int i => if z.length ≤ sizeLine then (atI z.cps.toList i).map fun c => .str ⟨#[c]⟩ else none
  | _, _ => none
def flatD : D → Bool
  | .none | .bool _ | .int _ | .str _ => true
  | _ => false
def inD (x y : D) : Option Bool := match y with
  | .list ds => if SeqAt.shaped x && SeqAt.shaped (.list ds) then some (ds.any fun z => PyData.eqv z x) else if flatD x && ds.all flatD then some (ds.any fun z => PyData.eqv z x) else none
  | .tuple ds => if flatD x && ds.all flatD then some (ds.any fun z => PyData.eqv z x) else none
  | .str j => match x with
    | .str i => some (!(Builtin.Str.occurrences j i 0 j.length 1).isEmpty)
    | _ => none
  | _ => none
def memD (x y : D) : Option D := (inD x y).map .bool
def nmemD (x y : D) : Option D := (inD x y).map fun b => .bool (!b)

section
variable {K : Fg} {Hs H : Hp}
theorem RpL.at {ds : List D} {vs : List V} {i : Int} {d : D} (r : RpL K H ds vs) (e : atI ds i = some d) : ∃ v, atI vs i = some v ∧ Rp K H d v := by
  unfold atI at e ⊢
  rw [← r.length]
  cases q : ixN ds.length i with
  | none => rw [q] at e; cases e
  | some j =>
    rw [q] at e
    exact r.get e
/-- a new list, frozen or not -/
theorem new_lst {p : Addr} {l : List D} {vs : List V} (h : Same Hs H) (n : H p = none) (r : RpL K Hs l vs) : Ext Hs H (upd Hs p (.lst vs)) (upd H p (.lst vs)) ∧ Rp K (upd Hs p (.lst vs)) (.list l) (.ref p) :=
  ⟨.new h n, .lst (.inl (.inl upd_same)) (r.mono (Ext.new h n).grow)⟩
theorem new_own {p : Addr} {l : List D} {vs : List V} (h : Same Hs H) (n : H p = none) (r : RpL K Hs l vs) : Ext Hs H Hs (upd H p (.lst vs)) ∧ Hs p = none ∧ (upd H p (.lst vs)) p = some (.lst vs) ∧ RpL K Hs l vs :=
  ⟨.hid h n, h.free n, upd_same, r⟩
theorem flatV_of {d : D} {v : V} (h : Rp K H d v) (f : flatD d = true) : flatV v = true := by
  cases h <;> first | rfl | cases f
theorem eqV_of {d e : D} {v u : V} (h : Rp K H d v) (h' : Rp K H e u) (f : flatD d = true) (f' : flatD e = true) : eqV v u = PyData.eqv d e := by
  cases h <;> cases h' <;> first | rfl | cases f | cases f' | simp [eqV, PyData.eqv]
theorem inV_of {e : D} {u : V} (h' : Rp K H e u) (f' : flatD e = true) : ∀ {ds : List D} {vs : List V}, RpL K H ds vs → ds.all flatD = true → vs.all flatV = true ∧ inV u vs = ds.any fun z => PyData.eqv z e
  | _, _, .nil, _ => ⟨rfl, rfl⟩
  | d :: ds, v :: vs, .cons h r, f => by
    rw [List.all_cons, Bool.and_eq_true] at f
    obtain ⟨a, b⟩ := inV_of h' f' r f.2
    refine ⟨by rw [List.all_cons, flatV_of h f.1, a]; rfl, ?_⟩
    unfold inV at b ⊢
    rw [List.any_cons, List.any_cons, b, eqV_of h h' f.1 f']
end

section
variable {X : Cx}
/-- ints only -/
theorem dop_int {f : Value → Value → Sem Value} {C : Int → Int → Prop} {g : Int → Int → V} {F : D → D → Option D} (ho : OpR X f (rI C g))
    (hF : ∀ x y d, F x y = some d → ∃ i j, x = .int i ∧ y = .int j ∧ C i j ∧ ∀ K H, Rp K H d (g i j)) : DOp X f F := ⟨_, ho, fun Hs H x y u v Q d hs e hx hy k => by
  obtain ⟨i, j, rfl, rfl, hc, hr⟩ := hF x y d e
  exact ⟨i, j, hx.int, hy.int, hc, k _ _ _ (.refl hs) (hr _ _)⟩⟩
theorem dop_int0 {f : Value → Value → Sem Value} {g : Int → Int → V} {F : D → D → Option D} (ho : OpR X f (rI0 g))
    (hF : ∀ x y d, F x y = some d → ∃ i j, x = .int i ∧ y = .int j ∧ ∀ K H, Rp K H d (g i j)) : DOp X f F := ⟨_, ho, fun Hs H x y u v Q d hs e hx hy k => by
  obtain ⟨i, j, rfl, rfl, hr⟩ := hF x y d e
  exact ⟨i, j, hx.int, hy.int, k _ _ _ (.refl hs) (hr _ _)⟩⟩
theorem d_add : DOp X (binaryOp .Add) addD := ⟨_, op_add.or (op_add_str.or op_catR), fun Hs H x y u v Q d hs e hx hy k => by
  unfold addD at e
  split at e
  · cases e
    exact .inl ⟨_, _, hx.int, hy.int, k _ _ _ (.refl hs) (.int _)⟩
  · split at e
    · rename_i hz
      cases e
      exact .inr (.inl ⟨_, _, hx.str, hy.str, hz, k _ _ _ (.refl hs) (.str _)⟩)
    · cases e
  · unfold catD at e
    split at e
    · rename_i hz
      cases e
      obtain ⟨p, xs, rfl, h1, h2⟩ := hx.list hs
      obtain ⟨p', ys, rfl, h3, h4⟩ := hy.list hs
      refine .inr (.inr ⟨p, p', xs, ys, rfl, rfl, h1, h3, by rw [← h2.length, ← h4.length]; exact hz, fun q hq => ?_⟩)
      obtain ⟨e1, e2⟩ := new_lst hs hq (h2.append h4)
      exact k _ _ _ e1 e2
    · cases e
  · cases e⟩
theorem d_addO : DOpO X (binaryOp .Add) addO := ⟨_, op_catR, fun Hs H x y u v Q d hs e hx hy k => by
  unfold addO at e
  split at e
  · unfold catD at e
    split at e
    · rename_i hz
      cases e
      obtain ⟨p, xs, rfl, h1, h2⟩ := hx.list hs
      obtain ⟨p', ys, rfl, h3, h4⟩ := hy.list hs
      refine ⟨p, p', xs, ys, rfl, rfl, h1, h3, by rw [← h2.length, ← h4.length]; exact hz, fun q hq => ?_⟩
      obtain ⟨e1, e2, e3, e4⟩ := new_own hs hq (h2.append h4)
      exact k _ _ _ _ e1 hq e2 e3 e4
    · cases e
  · cases e⟩
theorem d_sub : DOp X (binaryOp .Sub) subD := dop_int0 op_sub fun x y d e => by
  unfold subD at e
  split at e
  · cases e; exact ⟨_, _, rfl, rfl, fun _ _ => .int _⟩
  · cases e
theorem d_mul : DOp X (binaryOp .Mult) mulD := ⟨_, op_mulX.or op_repR, fun Hs H x y u v Q d hs e hx hy k => by
  unfold mulD at e
  split at e
  · split at e
    · rename_i hz
      cases e
      unfold okMul at hz
      have hz' := of_decide_eq_true hz
      exact .inl ⟨_, _, hx.int, hy.int, hz', k _ _ _ (.refl hs) (.int _)⟩
    · cases e
  · unfold repD at e
    split at e
    · rename_i hz
      cases e
      obtain ⟨p, xs, rfl, h1, h2⟩ := hx.list hs
      refine .inr ⟨p, _, xs, rfl, hy.int, h1, hz.1, hz.2.1, by rw [← h2.length]; exact hz.2.2, fun q hq => ?_⟩
      obtain ⟨e1, e2⟩ := new_lst hs hq (h2.replicate _)
      exact k _ _ _ e1 e2
    · cases e
  · cases e⟩
theorem d_mulO : DOpO X (binaryOp .Mult) mulO := ⟨_, op_repR, fun Hs H x y u v Q d hs e hx hy k => by
  unfold mulO at e
  split at e
  · unfold repD at e
    split at e
    · rename_i hz
      cases e
      obtain ⟨p, xs, rfl, h1, h2⟩ := hx.list hs
      refine ⟨p, _, xs, rfl, hy.int, h1, hz.1, hz.2.1, by rw [← h2.length]; exact hz.2.2, fun q hq => ?_⟩
      obtain ⟨e1, e2, e3, e4⟩ := new_own hs hq (h2.replicate _)
      exact k _ _ _ _ e1 hq e2 e3 e4
    · cases e
  · cases e⟩
def CDivD (i j : Int) : Prop := okDiv i j = true
theorem op_fdivD : OpR X (binaryOp .FloorDiv) (rI CDivD fun i j => .int (i.fdiv j)) := opI fun i j _ _ _ _ _ hc q => by
  unfold CDivD okDiv at hc
  rw [Bool.and_eq_true] at hc
  exact floordiv_int (of_decide_eq_true hc.1) q (.inl (by simpa using hc.2))
theorem d_fdiv : DOp X (binaryOp .FloorDiv) fdivD := dop_int op_fdivD fun x y d e => by
  unfold fdivD at e
  split at e
  · split at e
    · rename_i hz
      cases e; exact ⟨_, _, rfl, rfl, hz, fun _ _ => .int _⟩
    · cases e
  · cases e
theorem d_mod : DOp X (binaryOp .Mod) modD := dop_int op_modN fun x y d e => by
  unfold modD at e
  split at e
  · split at e
    · rename_i hz
      cases e; exact ⟨_, _, rfl, rfl, hz, fun _ _ => .int _⟩
    · cases e
  · cases e
theorem d_pow : DOp X (binaryOp .Pow) powD := dop_int op_pow fun x y d e => by
  unfold powD at e
  split at e
  · split at e
    · rename_i hz
      unfold okPow at hz
      have hz' := of_decide_eq_true hz
      cases e; exact ⟨_, _, rfl, rfl, hz', fun _ _ => .int _⟩
    · cases e
  · cases e
theorem d_lt : DOp X (compareOp .Lt) ltD := dop_int0 op_lt fun x y d e => by
  unfold ltD at e
  split at e
  · cases e; exact ⟨_, _, rfl, rfl, fun _ _ => .bl _⟩
  · cases e
theorem d_le : DOp X (compareOp .LtE) leD := dop_int0 op_le fun x y d e => by
  unfold leD at e
  split at e
  · cases e; exact ⟨_, _, rfl, rfl, fun _ _ => .bl _⟩
  · cases e
theorem d_gt : DOp X (compareOp .Gt) gtD := dop_int0 op_gt fun x y d e => by
  unfold gtD at e
  split at e
  · cases e; exact ⟨_, _, rfl, rfl, fun _ _ => .bl _⟩
  · cases e
theorem d_ge : DOp X (compareOp .GtE) geD := dop_int0 op_ge fun x y d e => by
  unfold geD at e
  split at e
  · cases e; exact ⟨_, _, rfl, rfl, fun _ _ => .bl _⟩
  · cases e
theorem eqS_some {a b : D} {r : Bool} (h : eqS a b = some r) : ∃ x y, a = .str x ∧ b = .str y ∧ r = decide (x = y) := by
  cases a <;> cases b <;> simp [eqS] at h
  exact ⟨_, _, rfl, rfl, h.symm⟩
theorem dec_str (x y : Str) : decide (V.str x = V.str y) = decide (x = y) := by
  by_cases h : x = y
  · subst h; simp
  · rw [decide_eq_false h, decide_eq_false (fun z => h (V.str.inj z))]
theorem d_eq (hu : X.A.units + 64 < cLine) : DOp X (compareOp .Eq) eqD := ⟨_, (op_eqD hu).or op_eq, fun Hs H x y u v Q d hs e hx hy k => by
  unfold eqD at e
  split at e
  · rename_i hz
    cases e
    rw [Bool.and_eq_true] at hz
    exact .inl ⟨x, y, (hx.rp hs).dp (nodict_of hz.1), (hy.rp hs).dp (nodict_of hz.2), hz.1, hz.2, k _ _ _ (.refl hs) (.bl _)⟩
  · obtain ⟨r, e1, rfl⟩ := Option.map_eq_some_iff.mp e
    obtain ⟨a, b, rfl, rfl, rfl⟩ := eqS_some e1
    right
    rw [hx.str, hy.str]
    exact ⟨rfl, by rw [dec_str]; exact k _ _ _ (.refl hs) (.bl _)⟩⟩
theorem d_ne (hu : X.A.units + 64 < cLine) : DOp X (compareOp .NotEq) neD := ⟨_, (op_neD hu).or op_ne, fun Hs H x y u v Q d hs e hx hy k => by
  unfold neD at e
  split at e
  · rename_i hz
    cases e
    rw [Bool.and_eq_true] at hz
    exact .inl ⟨x, y, (hx.rp hs).dp (nodict_of hz.1), (hy.rp hs).dp (nodict_of hz.2), hz.1, hz.2, k _ _ _ (.refl hs) (.bl _)⟩
  · obtain ⟨r, e1, rfl⟩ := Option.map_eq_some_iff.mp e
    obtain ⟨a, b, rfl, rfl, rfl⟩ := eqS_some e1
    right
    rw [hx.str, hy.str]
    exact ⟨rfl, by rw [dec_str]; exact k _ _ _ (.refl hs) (.bl _)⟩⟩
theorem is_non {K : Fg} {Hs H : Hp} {x : D} {u : V} (hx : Pk K Hs H x u) : decide (u = .non) = isNonD x := by
  rcases hx with h | ⟨l, a, xs, rfl, rfl, _, _⟩
  · cases h <;> rfl
  · rfl
theorem d_is : DOp X (compareOp .Is) isD := ⟨_, op_isBl.or op_isN, fun Hs H x y u v Q d hs e hx hy k => by
  unfold isD at e
  split at e
  · cases e
    exact .inl ⟨_, _, hx.bl, hy.bl, k _ _ _ (.refl hs) (.bl _)⟩
  · cases e
    refine .inr ⟨hy.non, ?_⟩
    rw [is_non hx]
    exact k _ _ _ (.refl hs) (.bl _)
  · cases e⟩
theorem d_isnot : DOp X (compareOp .IsNot) isnotD := ⟨_, op_notBl.or op_notN, fun Hs H x y u v Q d hs e hx hy k => by
  unfold isnotD at e
  split at e
  · cases e
    exact .inl ⟨_, _, hx.bl, hy.bl, k _ _ _ (.refl hs) (.bl _)⟩
  · cases e
    refine .inr ⟨hy.non, ?_⟩
    rw [is_non hx]
    exact k _ _ _ (.refl hs) (.bl _)
  · cases e⟩
theorem inD_cases {x y : D} {b : Bool} (e : inD x y = some b) :
    (∃ ds, y = .list ds ∧ SeqAt.shaped x = true ∧ SeqAt.shaped (.list ds) = true ∧ b = ds.any fun z => PyData.eqv z x) ∨
    (∃ ds, (y = .tuple ds ∨ y = .list ds) ∧ flatD x = true ∧ ds.all flatD = true ∧ b = ds.any fun z => PyData.eqv z x) ∨ (∃ i j, x = .str i ∧ y = .str j ∧ b = !(Builtin.Str.occurrences j i 0 j.length 1).isEmpty) := by
  unfold inD at e
  split at e
  · split at e
    · rename_i hz
      cases e
      rw [Bool.and_eq_true] at hz
      exact .inl ⟨_, rfl, hz.1, hz.2, rfl⟩
    · split at e
      · rename_i hz
        cases e
        rw [Bool.and_eq_true] at hz
        exact .inr (.inl ⟨_, .inr rfl, hz.1, hz.2, rfl⟩)
      · cases e
  · split at e
    · rename_i hz
      cases e
      rw [Bool.and_eq_true] at hz
      exact .inr (.inl ⟨_, .inl rfl, hz.1, hz.2, rfl⟩)
    · cases e
  · split at e
    · cases e
      exact .inr (.inr ⟨_, _, rfl, rfl, rfl⟩)
    · cases e
  · cases e
theorem d_in (hu : X.A.units + 65 < cLine) : DOp X (compareOp .In) memD := ⟨_, (op_inD hu).or (op_in_seq.or op_in_str), fun Hs H x y u v Q d hs e hx hy k => by
  obtain ⟨b, e', rfl⟩ := Option.map_eq_some_iff.mp (show (inD x y).map _ = some d from e)
  rcases inD_cases e' with ⟨ds, rfl, h1, h2, rfl⟩ | ⟨ds, hyd, h1, h2, rfl⟩ | ⟨i, j, rfl, rfl, rfl⟩
  · exact .inl ⟨x, ds, (hx.rp hs).dp (nodict_of h1), (hy.rp hs).dp (nodict_of h2), h1, h2, k _ _ _ (.refl hs) (.bl _)⟩
  · obtain ⟨a, xs, rfl, h3, h4⟩ : ∃ a xs, v = .ref a ∧ (SqL X.K H a xs ∨ SqT X.K H a xs) ∧ RpL X.K Hs ds xs := by
      rcases hyd with rfl | rfl
      · obtain ⟨a, xs, e1, e2, e3⟩ := hy.tup hs
        exact ⟨a, xs, e1, .inr e2, e3⟩
      · obtain ⟨a, xs, e1, e2, e3⟩ := hy.list hs
        exact ⟨a, xs, e1, .inl e2, e3⟩
    have hx' := hx.rp hs
    obtain ⟨f1, f2⟩ := inV_of hx' h1 (h4.mono hs) h2
    refine .inr (.inl ⟨a, xs, rfl, h3, flatV_of hx' h1, f1, ?_⟩)
    rw [f2]
    exact k _ _ _ (.refl hs) (.bl _)
  · exact .inr (.inr ⟨i, j, hx.str, hy.str, k _ _ _ (.refl hs) (.bl _)⟩)⟩
theorem d_notin (hu : X.A.units + 65 < cLine) : DOp X (compareOp .NotIn) nmemD := ⟨_, (op_notInD hu).or (op_notIn_seq.or op_notIn_str), fun Hs H x y u v Q d hs e hx hy k => by
  obtain ⟨b, e', rfl⟩ := Option.map_eq_some_iff.mp (show (inD x y).map _ = some d from e)
  rcases inD_cases e' with ⟨ds, rfl, h1, h2, rfl⟩ | ⟨ds, hyd, h1, h2, rfl⟩ | ⟨i, j, rfl, rfl, rfl⟩
  · exact .inl ⟨x, ds, (hx.rp hs).dp (nodict_of h1), (hy.rp hs).dp (nodict_of h2), h1, h2, k _ _ _ (.refl hs) (.bl _)⟩
  · obtain ⟨a, xs, rfl, h3, h4⟩ : ∃ a xs, v = .ref a ∧ (SqL X.K H a xs ∨ SqT X.K H a xs) ∧ RpL X.K Hs ds xs := by
      rcases hyd with rfl | rfl
      · obtain ⟨a, xs, e1, e2, e3⟩ := hy.tup hs
        exact ⟨a, xs, e1, .inr e2, e3⟩
      · obtain ⟨a, xs, e1, e2, e3⟩ := hy.list hs
        exact ⟨a, xs, e1, .inl e2, e3⟩
    have hx' := hx.rp hs
    obtain ⟨f1, f2⟩ := inV_of hx' h1 (h4.mono hs) h2
    refine .inr (.inl ⟨a, xs, rfl, h3, flatV_of hx' h1, f1, ?_⟩)
    rw [f2]
    exact k _ _ _ (.refl hs) (.bl _)
  · exact .inr (.inr ⟨i, j, hx.str, hy.str, k _ _ _ (.refl hs) (.bl _)⟩)⟩

def DIx (X : Cx) (F : D → D → Option D) : Prop := ∃ r, IxR X r ∧ OpD X.K r F
theorem d_ix : DIx X ixD := ⟨_, ix_seq, fun Hs H x y u v Q d hs e hx hy k => by
  unfold ixD at e
  split at e
  · obtain ⟨a, xs, rfl, h1, h2⟩ := hx.list hs
    obtain ⟨w, e1, e2⟩ := h2.at e
    exact .inl ⟨a, xs, _, w, rfl, hy.int, h1, e1, k _ _ _ (.refl hs) e2⟩
  · obtain ⟨a, xs, rfl, h1, h2⟩ := hx.tup hs
    obtain ⟨w, e1, e2⟩ := h2.at e
    exact .inr (.inl ⟨a, xs, _, w, rfl, hy.int, h1, e1, k _ _ _ (.refl hs) e2⟩)
  · split at e
    · rename_i hz
      obtain ⟨c, e1, rfl⟩ := Option.map_eq_some_iff.mp e
      exact .inr (.inr ⟨_, _, c, hx.str, hy.int, hz, e1, k _ _ _ (.refl hs) (.str _)⟩)
    · cases e
  · cases e⟩
def DUn (X : Cx) (f : Value → Sem Value) (F : D → Option D) : Prop := ∃ r, UnR X f r ∧ UnD X.K r F
theorem d_neg : DUn X (unaryOp .USub) negD := ⟨_, un_neg, fun Hs H x u Q d hs e hx k => by
  unfold negD at e
  split at e
  · cases e
    exact ⟨_, hx.int, k _ _ _ (.refl hs) (.int _)⟩
  · cases e⟩
end

section
variable {X : Cx} {W : WX} {a b c e : Expr} {es : List Expr} {pos : Pos} {f g h : Ev → R D} {F F' : D → D → Option D}
theorem v_op {op : Operator} (ho : DOp X (binaryOp op) F) (ha : VP X W a f) (hb : VP X W b g) : VE X W (.BinOp a op b pos) (e2 F f g) := let ⟨_, h1, h2⟩ := ho; ve_op h1 h2 ha hb
theorem v_opO {op : Operator} {F : D → D → Option (List D)} (ho : DOpO X (binaryOp op) F) (ha : VP X W a f) (hb : VP X W b g) : VO X W (.BinOp a op b pos) (e2 F f g) := let ⟨_, h1, h2⟩ := ho; vo_op h1 h2 ha hb
theorem v_cmp {op : CmpOp} (ho : DOp X (compareOp op) F) (ha : VP X W a f) (hb : VP X W b g) (hm : behindInMarks op b = false := by first | exact nomark _ | rfl) : VE X W (.Compare a [op] [b] pos) (e2 F f g) := let ⟨_, h1, h2⟩ := ho; ve_cmp h1 h2 ha hb hm
theorem t_cmp {op : CmpOp} (ho : DOp X (compareOp op) F) (ha : VP X W a f) (hb : VP X W b g) (hm : behindInMarks op b = false := by first | exact nomark _ | rfl) : VT X W (.Compare a [op] [b] pos) (e1 bOf (e2 F f g)) := let ⟨_, h1, h2⟩ := ho; vt_cmp h1 h2 ha hb hm
theorem v_ix (ho : DIx X F) (ha : VP X W a f) (hb : VP X W b g) (hs : PlainIx b := by exact fun _ _ => rfl) : VE X W (.Subscript a b pos) (e2 F f g) := let ⟨_, h1, h2⟩ := ho; ve_ix h1 h2 ha hb hs
theorem v_un {op : UnaryOp} {F : D → Option D} (ho : DUn X (unaryOp op) F) (ha : VP X W a f) : VE X W (.UnaryOp op a pos) (e1 F f) := let ⟨_, h1, h2⟩ := ho; ve_un h1 h2 ha
theorem t_tru (ha : VP X W a f) (he : ∀ whole, isTrue a X.env whole = (do let v ← whole; standAt a.pos; holding [v] (truthy v)) := by intro _; rfl) : VT X W a (e1 truD f) := vt_tru ha he
end
end VL

set_option Elab.async false
set_option linter.all false
set_option maxRecDepth 100000
set_option autoImplicit false
namespace VL
open PySem PySem.Spec PyProof.Rows L2

/-! ### arguments that are read at once -/
def PkL (K : Fg) (Hs H : Hp) : List D → List V → Prop
  | [], [] => True
  | d :: ds, v :: vs => Pk K Hs H d v ∧ PkL K Hs H ds vs
  | _, _ => False
theorem PkL.one {K : Fg} {Hs H : Hp} {d : D} {vs : List V} (h : PkL K Hs H [d] vs) : ∃ v, vs = [v] ∧ Pk K Hs H d v := by
  cases vs with
  | nil => exact h.elim
  | cons v r =>
    cases r with
    | nil => exact ⟨v, rfl, h.1⟩
    | cons w r => exact h.2.elim
theorem PkL.two {K : Fg} {Hs H : Hp} {d e : D} {vs : List V} (h : PkL K Hs H [d, e] vs) : ∃ v w, vs = [v, w] ∧ Pk K Hs H d v ∧ Pk K Hs H e w := by
  cases vs with
  | nil => exact h.elim
  | cons v r =>
    cases r with
    | nil => exact h.2.elim
    | cons w r =>
      cases r with
      | nil => exact ⟨v, w, rfl, h.1, h.2.1⟩
      | cons _ r => exact h.2.2.elim
theorem Pk.tupRp {K : Fg} {Hs H : Hp} {l : List D} {v : V} (h : Pk K Hs H (.tuple l) v) : Rp K Hs (.tuple l) v := by
  rcases h with h | ⟨l', a, xs, h1, h2, h3, h4⟩
  · exact h
  · cases h1
def tAp (K : Fg) (mg : Str → Option Value) (W : WX) (f : Ev → R (List D)) : TA := fun σ H Q => ∃ S G Hs ρ, RelE K S G Hs H σ ρ ∧ Post K mg W Hs H σ (f ρ) (fun ds Hs' H' => ∀ vs, PkL K Hs' H' ds vs → Q vs H')
def VAp (X : Cx) (W : WX) (es : List Expr) (f : Ev → R (List D)) : Prop := PA X es (tAp X.K X.mg W f)
section
variable {X : Cx} {W : WX} {e a b c : Expr} {es : List Expr} {pos : Pos} {f g : Ev → R D} {fl : Ev → R (List D)}
theorem vap_nil : VAp X W [] (cst []) := PA.imp pa_nil fun σ H Q ⟨S, G, Hs, ρ, r, p⟩ => p.now r.sub [] trivial
theorem vap_cons (ha : VP X W e f) (hr : VAp X W es fl) (hs : starEach (e :: es) X.env = (false, eval e X.env) :: starEach es X.env := by rfl) : VAp X W (e :: es) (eCons f fl) := PA.imp (pa_cons ha hr hs) fun σ H Q ⟨S, G, Hs, ρ, r, p⟩ => by
  refine ⟨S, G, Hs, ρ, r, (Post.bind p).imp fun x Hs1 H1 e q u hu => ?_⟩
  refine ⟨S, G, Hs1, ρ, r.step e, (Post.bind q).imp fun xs Hs2 H2 e' q' us hus => ?_⟩
  exact q'.now e'.sub (u :: us) ⟨hu.up e', hus⟩

/-! ### built-in functions -/
def CalD (X : Cx) (f : Value) (F : List D → Option D) : Prop := ∃ r, CallR X f r ∧ ∀ (Hs H : Hp) (ds : List D) (vs : List V) (Q : VK) (d : D), Same Hs H → F ds = some d → PkL X.K Hs H ds vs →
  (∀ Hs' H' w, Ext Hs H Hs' H' → Rp X.K Hs' d w → Q w H') → r vs H Q
def CalO (X : Cx) (f : Value) (F : List D → Option (List D)) : Prop := ∃ r, CallR X f r ∧ ∀ (Hs H : Hp) (ds : List D) (vs : List V) (Q : VK) (l : List D), Same Hs H → F ds = some l → PkL X.K Hs H ds vs →
  (∀ Hs' H' p vs, Ext Hs H Hs' H' → H p = none → Hs' p = none → H' p = some (.lst vs) → RpL X.K Hs' l vs → Q (.ref p) H') → r vs H Q
theorem sim_cal {K : Fg} {mg : Str → Option Value} {r : List V → Hp → VK → Prop} {F : List D → Option D} (h : ∀ (Hs H : Hp) (ds : List D) (vs : List V) (Q : VK) (d : D), Same Hs H → F ds = some d → PkL K Hs H ds vs →
    (∀ Hs' H' w, Ext Hs H Hs' H' → Rp K Hs' d w → Q w H') → r vs H Q) : ∀ σ H Q, tE K mg W (e1 F fl) σ H Q → tCB r (tAp K mg W fl) σ H Q := fun σ H Q ⟨S, G, Hs, ρ, r, p⟩ => by
  refine ⟨S, G, Hs, ρ, r, (Post.bind p).imp fun ds Hs1 H1 e q vs hv => ?_⟩
  cases z : F ds with
  | none => rw [z] at q; exact q.elim
  | some d =>
    rw [z] at q
    exact h Hs1 H1 ds vs Q d e.sub z hv fun Hs' H' w e'' hw => q Hs' H' e'' w hw
theorem sim_calO {K : Fg} {mg : Str → Option Value} {r : List V → Hp → VK → Prop} {F : List D → Option (List D)} (h : ∀ (Hs H : Hp) (ds : List D) (vs : List V) (Q : VK) (d : List D), Same Hs H → F ds = some d → PkL K Hs H ds vs →
    (∀ Hs' H' p vs, Ext Hs H Hs' H' → H p = none → Hs' p = none → H' p = some (.lst vs) → RpL K Hs' d vs → Q (.ref p) H') → r vs H Q) : ∀ σ H Q, tO K mg W (e1 F fl) σ H Q → tCB r (tAp K mg W fl) σ H Q := fun σ H Q ⟨S, G, Hs, ρ, r, p⟩ => by
  refine ⟨S, G, Hs, ρ, r, (Post.bind p).imp fun ds Hs1 H1 e q vs hv => ?_⟩
  cases z : F ds with
  | none => rw [z] at q; exact q.elim
  | some d =>
    rw [z] at q
    exact h Hs1 H1 ds vs Q d e.sub z hv fun Hs' H' p vs e'' h0 h1 h2 h3 => q Hs' H' e'' p vs (e.same.free h0) h1 h2 h3
variable {x : Str} {p : Pos} {bid T : String} {F : List D → Option D} {G : List D → Option (List D)}
theorem v_blt (hc : CalD X (.builtin bid) F) (hg : Gl X x) (hm : X.mg x = none) (hv : bootBuiltins x = some (.builtin bid)) (ha : VAp X W (e :: es) fl) (hn : x ≠ "__name__" := by decide) (hdb : (x == ("__debug__" : Str)) = false := by decide)
    (he : starEach (e :: es) X.env = (false, eval e X.env) :: starEach es X.env := by rfl) (hpl : (backTo pos (starEach es X.env)).any (·.1) = false := by rfl) : VE X W (.Call (.Name x p) (e :: es) [] pos) (e1 F fl) :=
  let ⟨_, h1, h2⟩ := hc; PE.imp (pe_callB h1 hg hm hv ha hn hdb he hpl) (sim_cal h2)
theorem v_typ (hc : CalD X (.type T) F) (hg : Gl X x) (hm : X.mg x = none) (hv : bootBuiltins x = some (.type T)) (ha : VAp X W (e :: es) fl) (hn : x ≠ "__name__" := by decide) (hdb : (x == ("__debug__" : Str)) = false := by decide)
    (he : starEach (e :: es) X.env = (false, eval e X.env) :: starEach es X.env := by rfl) (hpl : (backTo pos (starEach es X.env)).any (·.1) = false := by rfl) : VE X W (.Call (.Name x p) (e :: es) [] pos) (e1 F fl) :=
  let ⟨_, h1, h2⟩ := hc; PE.imp (pe_callTy h1 hg hm hv ha hn hdb he hpl) (sim_cal h2)
theorem v_typO (hc : CalO X (.type T) G) (hg : Gl X x) (hm : X.mg x = none) (hv : bootBuiltins x = some (.type T)) (ha : VAp X W (e :: es) fl) (hn : x ≠ "__name__" := by decide) (hdb : (x == ("__debug__" : Str)) = false := by decide)
    (he : starEach (e :: es) X.env = (false, eval e X.env) :: starEach es X.env := by rfl) (hpl : (backTo pos (starEach es X.env)).any (·.1) = false := by rfl) : VO X W (.Call (.Name x p) (e :: es) [] pos) (e1 G fl) :=
  let ⟨_, h1, h2⟩ := hc; PE.imp (pe_callTy h1 hg hm hv ha hn hdb he hpl) (sim_calO h2)
def gcdD : List D → Option D
  | [.int a, .int b] => some (.int ((Nat.gcd a.natAbs b.natAbs : Nat) : Int))
  | _ => none
def lenD : List D → Option D
  | [.list l] => some (.int l.length)
  | [.tuple l] => some (.int l.length)
  | [.str z] => if z.length ≤ sizeLine then some (.int z.length) else none
  | _ => none
theorem c_len : CalD X (.builtin "len") lenD := ⟨_, call_len_seq.or call_len_str, fun Hs H ds vs Q d hs e hv k => by
  unfold lenD at e
  split at e
  · cases e
    obtain ⟨v, rfl, h⟩ := hv.one
    obtain ⟨a, xs, rfl, h1, h2⟩ := h.list hs
    refine .inl ⟨a, xs, rfl, .inl h1, ?_⟩
    rw [← h2.length]
    exact k _ _ _ (.refl hs) (.int _)
  · cases e
    obtain ⟨v, rfl, h⟩ := hv.one
    obtain ⟨a, xs, rfl, h1, h2⟩ := h.tup hs
    refine .inl ⟨a, xs, rfl, .inr h1, ?_⟩
    rw [← h2.length]
    exact k _ _ _ (.refl hs) (.int _)
  · split at e
    · rename_i hz
      cases e
      obtain ⟨v, rfl, h⟩ := hv.one
      exact .inr ⟨_, by rw [h.str], hz, k _ _ _ (.refl hs) (.int _)⟩
    · cases e
  · cases e⟩
def intD : List D → Option D
  | [.int i] => some (.int i)
  | [.bool b] => some (.int (if b then 1 else 0))
  | _ => none
theorem c_int : CalD X (.type "int") intD := ⟨_, call_int1, fun Hs H ds vs Q d hs e hv k => by
  unfold intD at e
  split at e
  · cases e
    obtain ⟨v, rfl, h⟩ := hv.one
    exact .inl ⟨_, by rw [h.int], k _ _ _ (.refl hs) (.int _)⟩
  · cases e
    obtain ⟨v, rfl, h⟩ := hv.one
    exact .inr ⟨_, by rw [h.bl], k _ _ _ (.refl hs) (.int _)⟩
  · cases e⟩
def absD : List D → Option D
  | [.int i] => some (.int (if i < 0 then -i else i))
  | _ => none
def blsD : List D → Option (List Bool)
  | [] => some []
  | .bool b :: r => (blsD r).map (b :: ·)
  | _ :: _ => none
def intsD : List D → Option (List Int)
  | [] => some []
  | .int b :: r => (intsD r).map (b :: ·)
  | _ :: _ => none
theorem intsD_rp {K : Fg} {H : Hp} : ∀ {l : List D} {bs : List Int} {vs : List V}, intsD l = some bs → RpL K H l vs → vs = bs.map V.int
  | [], bs, vs, e, r => by cases e; cases r; rfl
  | .int b :: l, bs, vs, e, r => by
    obtain ⟨bs', e', rfl⟩ := Option.map_eq_some_iff.mp (show (intsD l).map _ = some bs from e)
    cases r with
    | cons h r => cases h; rw [intsD_rp e' r]; rfl
  | .none :: _, _, _, e, _ => by cases e
  | .bool _ :: _, _, _, e, _ => by cases e
  | .str _ :: _, _, _, e, _ => by cases e
  | .list _ :: _, _, _, e, _ => by cases e
  | .tuple _ :: _, _, _, e, _ => by cases e
  | .dict _ :: _, _, _, e, _ => by cases e
theorem blsD_map : ∀ bs : List Bool, blsD (bs.map .bool) = some bs
  | [] => rfl
  | b :: bs => by show (blsD (bs.map .bool)).map _ = _; rw [blsD_map bs]; rfl
theorem intsD_map : ∀ bs : List Int, intsD (bs.map .int) = some bs
  | [] => rfl
  | b :: bs => by show (intsD (bs.map .int)).map _ = _; rw [intsD_map bs]; rfl
def allD : List D → Option D
  | [.list l] => (blsD l).map fun bs => .bool (bs.all id)
  | _ => none
def anyD : List D → Option D
  | [.list l] => (blsD l).map fun bs => .bool (bs.any id)
  | _ => none
def sumD : List D → Option D
  | [.list l] => (intsD l).map fun bs => .int bs.sum
  | _ => none
def maxI : Int → List Int → Int
  | m, [] => m
  | m, x :: r => maxI (if m < x then x else m) r
theorem maxI_ge : ∀ (l : List Int) (m : Int), m ≤ maxI m l ∧ (∀ x ∈ l, x ≤ maxI m l) ∧ (maxI m l = m ∨ maxI m l ∈ l)
  | [], m => ⟨Int.le_refl _, (fun _ h => by cases h), .inl rfl⟩
  | x :: r, m => by
    obtain ⟨h1, h2, h3⟩ := maxI_ge r (if m < x then x else m)
    have e : maxI m (x :: r) = maxI (if m < x then x else m) r := rfl
    rw [e]
    refine ⟨?_, fun y hy => ?_, ?_⟩
    · split at h1 <;> rename_i z <;> simp only [z, if_true, if_false] <;> omega
    · rcases List.mem_cons.mp hy with rfl | hy
      · split at h1 <;> rename_i z <;> simp only [z, if_true, if_false] <;> omega
      · exact h2 y hy
    · rcases h3 with h3 | h3
      · by_cases z : m < x
        · right; rw [h3, if_pos z]; exact List.mem_cons_self
        · left; rw [h3, if_neg z]
      · right; exact List.mem_cons_of_mem _ h3
def maxD : List D → Option D
  | [.list l] => (intsD l).bind fun bs => match bs with
    | [] => none
    | m :: r => some (.int (maxI m r))
  | [.int i, .int j] => some (.int (if j > i then j else i))
  | _ => none
theorem c_max (hc : X.calm = true) : CalD X (.builtin "max") maxD := ⟨_, (cr_max hc).or (call_max2 hc), fun Hs H ds vs Q d hs e hv k => by
  unfold maxD at e
  split at e
  · obtain ⟨bs, e', e⟩ := Option.bind_eq_some_iff.mp e
    obtain ⟨v, rfl, h⟩ := hv.one
    obtain ⟨a, xs, rfl, h1, h2⟩ := h.list hs
    rw [intsD_rp e' h2] at h1
    cases bs with
    | nil => cases e
    | cons m r =>
      cases e
      refine .inl ⟨a, m :: r, rfl, h1, Nat.succ_pos _, fun y hy hge => ?_⟩
      obtain ⟨g1, g2, g3⟩ := maxI_ge r m
      have : y = maxI m r := by
        have a1 := hge m List.mem_cons_self
        have a2 : maxI m r ≤ y := by
          rcases g3 with g | g
          · rw [g]; exact a1
          · exact hge _ (List.mem_cons_of_mem _ g)
        have a3 : y ≤ maxI m r := by
          rcases List.mem_cons.mp hy with rfl | hy
          · exact g1
          · exact g2 y hy
        omega
      rw [this]
      exact k _ _ _ (.refl hs) (.int _)
  · cases e
    obtain ⟨v, w, rfl, h1, h2⟩ := hv.two
    exact .inr ⟨_, _, by rw [h1.int, h2.int], k _ _ _ (.refl hs) (.int _)⟩
  · cases e⟩
def listO : List D → Option (List D)
  | [.list l] => some l
  | [.tuple l] => some l
  | _ => none
theorem c_listO : CalO X (.type "list") listO := ⟨_, call_list_of, fun Hs H ds vs Q d hs e hv k => by
  unfold listO at e
  split at e
  · cases e
    obtain ⟨v, rfl, h⟩ := hv.one
    obtain ⟨a, xs, rfl, h1, h2⟩ := h.list hs
    refine ⟨a, xs, rfl, .inl h1, fun q hq => ?_⟩
    obtain ⟨e1, e2, e3, e4⟩ := new_own hs hq h2
    exact k _ _ _ _ e1 hq e2 e3 e4
  · cases e
    obtain ⟨v, rfl, h⟩ := hv.one
    obtain ⟨a, xs, rfl, h1, h2⟩ := h.tup hs
    refine ⟨a, xs, rfl, .inr h1, fun q hq => ?_⟩
    obtain ⟨e1, e2, e3, e4⟩ := new_own hs hq h2
    exact k _ _ _ _ e1 hq e2 e3 e4
  · cases e⟩
def tupleD : List D → Option D
  | [.list l] => some (.tuple l)
  | [.tuple l] => some (.tuple l)
  | _ => none
/-! ### isinstance of a built-in type -/
def tyD : D → String
  | .none => "NoneType"
  | .bool _ => "bool"
  | .int _ => "int"
  | .str _ => "str"
  | .list _ => "list"
  | .tuple _ => "tuple"
  | .dict _ => "dict"
def isiD (n : String) (d : D) : Option D := match d with
  | .dict _ => none
  | d => (kitB (tyD d) n).map .bool
theorem tyX_of {K : Fg} {Hs H : Hp} {d : D} {v : V} (hs : Same Hs H) (h : Pk K Hs H d v) (nd : ∀ l, d ≠ .dict l) : TyX K H v (.type (tyD d)) := by
  cases d with
  | none => cases h.non; exact .base .non
  | bool b => cases h.bl; exact .base (.bl _)
  | int b => cases h.int; exact .base (.int _)
  | str b => cases h.str; exact .base (.str _)
  | list l =>
    obtain ⟨a, xs, rfl, h1, h2⟩ := h.list hs
    rcases h1 with (h1 | ⟨o, h1⟩) | ⟨o, its, n, h1, h2, _⟩
    · exact .base (.lst h1)
    · exact .base (.frz h1)
    · exact .kList h1 h2
  | tuple l =>
    obtain ⟨a, xs, rfl, h1, h2⟩ := h.tup hs
    rcases h1 with (h1 | ⟨o, h1⟩) | ⟨o, its, n, h1, h2, _⟩
    · exact .base (.tup h1)
    · exact .fTuple h1
    · exact .kTuple h1 h2
  | dict l => exact (nd l rfl).elim
theorem v_isi {xi xt : Str} {p1 p2 : Pos} {n : String} (hg : Gl X xi) (hm : X.mg xi = none) (hv : bootBuiltins xi = some (.builtin "isinstance")) (ha : VP X W a f) (ht : PE X (.Name xt p2) (tC (.ty n)))
    (hn : xi ≠ "__name__" := by decide) (hdb : (xi == ("__debug__" : Str)) = false := by decide)
    (he : starEach [a, .Name xt p2] X.env = (false, eval a X.env) :: starEach [.Name xt p2] X.env := by rfl) (hpl : (backTo pos (starEach [.Name xt p2] X.env)).any (·.1) = false := by rfl) (he2 : starEach [.Name xt p2] X.env = (false, eval (.Name xt p2) X.env) :: starEach [] X.env := by rfl) :
    VE X W (.Call (.Name xi p1) [a, .Name xt p2] [] pos) (e1 (isiD n) f) := by
  refine PE.imp (pe_callB call_isi hg hm hv (pa_cons ha (pa_cons ht pa_nil he2) he) hn hdb he hpl) fun σ H Q ⟨S, G, Hs, ρ, r, p⟩ => ?_
  refine ⟨S, G, Hs, ρ, r, (Post.bind p).imp fun d Hs1 H1 e q u hu => ?_⟩
  cases z : isiD n d with
  | none => rw [z] at q; exact q.elim
  | some d' =>
    rw [z] at q
    have nd : ∀ l, d ≠ .dict l := fun l w => by rw [w] at z; cases z
    have z' : (kitB (tyD d) n).map PyData.bool = some d' := by
      cases d with
      | dict l => exact (nd l rfl).elim
      | _ => exact z
    obtain ⟨b, h1, rfl⟩ := Option.map_eq_some_iff.mp z'
    exact ⟨u, .ty n, .type (tyD d), .type n, b, rfl, .ty n, tyX_of e.sub hu nd, kit_ty h1, q.now e.sub _ (.bl _)⟩
end

/-! ### slices -/
def cutL (l : List D) (lo hi : Option Int) : List D := (l.drop (HT.sIx l.length 0 lo)).take (HT.sIx l.length l.length hi - HT.sIx l.length 0 lo)
theorem cut_rp {K : Fg} {H : Hp} {l : List D} {vs : List V} (r : RpL K H l vs) (lo hi : Option Int) : RpL K H (cutL l lo hi) (cutV vs lo hi) := by
  unfold cutL cutV
  rw [r.length]
  exact (r.drop _).take _
def sliceD (x : D) (lo hi : Option Int) : Option D := match x with
  | .list l => some (.list (cutL l lo hi))
  | .tuple l => some (.tuple (cutL l lo hi))
  | .str z => if z.length ≤ sizeLine then some (.str (cutS z lo hi)) else none
  | _ => none
def sliceO (x : D) (lo hi : Option Int) : Option (List D) := match x with
  | .list l => some (cutL l lo hi)
  | _ => none
def pNo : Ev → R (Option Int) := cst none
def intOf : D → Option (Option Int)
  | .int i => some (some i)
  | _ => none
def tPo (K : Fg) (mg : Str → Option Value) (W : WX) (f : Ev → R (Option Int)) : TO := fun σ H Q => ∃ S G Hs ρ, RelE K S G Hs H σ ρ ∧ Post K mg W Hs H σ (f ρ) (fun o Hs' H' => Q o H')
def VPo (X : Cx) (W : WX) (e : Option Expr) (f : Ev → R (Option Int)) : Prop := PO X e (tPo X.K X.mg W f)
theorem PO.imp {X : Cx} {e : Option Expr} {t t' : TO} (h : PO X e t) (i : ∀ σ H Q, t' σ H Q → t σ H Q) : PO X e t' := ⟨fun pins s σ H Q I q => h.run pins s σ H Q I (i σ H Q q)⟩
def e3 {α β γ δ : Type} (F : α → β → γ → Option δ) (f : Ev → R α) (g : Ev → R β) (h : Ev → R γ) : Ev → R δ := fun ρ => (f ρ).bind fun x => (g ρ).bind fun y => (h ρ).bind fun z => ofO (F x y z)
section
variable {X : Cx} {W : WX} {e a b c : Expr} {lo hi : Option Expr} {p2 pos : Pos} {f g : Ev → R D} {gl gh : Ev → R (Option Int)}
theorem vpo_none : VPo X W none pNo := PO.imp po_none fun σ H Q ⟨S, G, Hs, ρ, r, p⟩ => p.now r.sub
theorem vpo_some (h : VE X W e f) : VPo X W (some e) (e1 intOf f) := PO.imp (po_some h) fun σ H Q ⟨S, G, Hs, ρ, r, p⟩ => by
  refine ⟨S, G, Hs, ρ, r, (Post.bind p).imp fun x Hs1 H1 e q u hu => ?_⟩
  cases x with
  | int i => cases hu; exact ⟨i, rfl, q.now e.sub⟩
  | none => exact q.elim
  | bool _ => exact q.elim
  | str _ => exact q.elim
  | list _ => exact q.elim
  | tuple _ => exact q.elim
  | dict _ => exact q.elim
theorem sl_any : SlR X (fun x lo hi H Q => rSlL X.K x lo hi H Q ∨ rSlA X.K x lo hi H Q ∨ rSlS x lo hi H Q) := sl_list.or (sl_tupA.or sl_str)
theorem cutV_whole {xs : List V} {lo hi : Option Int} (h : HT.sIx xs.length 0 lo = 0 ∧ HT.sIx xs.length xs.length hi = xs.length) : cutV xs lo hi = xs := by
  unfold cutV
  rw [h.1, h.2, Nat.sub_zero, List.drop_zero, List.take_length]
theorem v_slice (he : VP X W e f) (hl : VPo X W lo gl) (hu : VPo X W hi gh) : VE X W (.Subscript e (.Slice lo hi none p2) pos) (e3 sliceD f gl gh) := PE.imp (pe_slice sl_any he hl hu) fun σ H Q ⟨S, G, Hs, ρ, r, p⟩ => by
  refine ⟨S, G, Hs, ρ, r, (Post.bind p).imp fun x Hs1 H1 e q u hu => ?_⟩
  refine ⟨S, G, Hs1, ρ, r.step e, (Post.bind q).imp fun l Hs2 H2 e' q' => ?_⟩
  refine ⟨S, G, Hs2, ρ, (r.step e).step e', (Post.bind q').imp fun h Hs3 H3 e'' q'' => ?_⟩
  have hu3 := (hu.up e').up e''
  cases z : sliceD x l h with
  | none => rw [z] at q''; exact q''.elim
  | some d =>
    rw [z] at q''
    unfold sliceD at z
    split at z
    · cases z
      obtain ⟨a, xs, rfl, h1, h2⟩ := hu3.list e''.sub
      refine .inl ⟨a, xs, rfl, h1, fun p hp => ?_⟩
      obtain ⟨x1, x2⟩ := new_lst e''.sub hp (cut_rp h2 l h)
      exact q'' _ _ x1 _ x2
    · cases z
      have w := hu3.tupRp
      cases w with
      | @tup a xs _ h1 h2 =>
        refine .inr (.inl ⟨a, xs, rfl, SqT.mono e''.sub h1, fun hw => ?_, fun _ p hp => ?_⟩)
        · refine q''.now e''.sub _ (.tup h1 ?_)
          have := cut_rp h2 l h
          rw [cutV_whole hw] at this
          exact this
        · have x := Ext.new (o := .tup (cutV xs l h)) e''.sub hp
          exact q'' _ _ x _ (.tup (.inl (.inl upd_same)) ((cut_rp h2 l h).mono x.grow))
    · split at z
      · rename_i hz
        cases z
        exact .inr (.inr ⟨_, hu3.str, hz, q''.now e''.sub _ (.str _)⟩)
      · cases z
    · cases z
end
end VL

set_option Elab.async false
set_option linter.all false
set_option maxRecDepth 100000
set_option autoImplicit false
namespace VL
open PySem PySem.Spec PyProof.Rows L2

section
variable {X : Cx} {W : WX} {e a b c : Expr} {lo hi : Option Expr} {p2 pos : Pos} {f g : Ev → R D} {gl gh : Ev → R (Option Int)}
theorem v_sliceO (he : VP X W e f) (hl : VPo X W lo gl) (hu : VPo X W hi gh) : VO X W (.Subscript e (.Slice lo hi none p2) pos) (e3 sliceO f gl gh) := PE.imp (pe_slice sl_list he hl hu) fun σ H Q ⟨S, G, Hs, ρ, r, p⟩ => by
  refine ⟨S, G, Hs, ρ, r, (Post.bind p).imp fun x Hs1 H1 e q u hu => ?_⟩
  refine ⟨S, G, Hs1, ρ, r.step e, (Post.bind q).imp fun l Hs2 H2 e' q' => ?_⟩
  refine ⟨S, G, Hs2, ρ, (r.step e).step e', (Post.bind q').imp fun h Hs3 H3 e'' q'' => ?_⟩
  have hu3 := (hu.up e').up e''
  cases z : sliceO x l h with
  | none => rw [z] at q''; exact q''.elim
  | some d =>
    rw [z] at q''
    unfold sliceO at z
    split at z
    · cases z
      obtain ⟨a, xs, rfl, h1, h2⟩ := hu3.list e''.sub
      refine ⟨a, xs, rfl, h1, fun p hp => ?_⟩
      obtain ⟨x1, x2, x3, x4⟩ := new_own e''.sub hp (cut_rp h2 l h)
      exact q'' _ _ x1 p _ ((e.trans (e'.trans e'')).same.free hp) x2 x3 x4
    · cases z
/-- xs[::-1] -/
def revO : D → Option (List D)
  | .list l => some l.reverse
  | _ => none
theorem v_revO {k : Nat} {p1 p3 p4 : Pos} (he : VP X W e f) : VO X W (.Subscript e (.Slice none none (some (.UnaryOp .USub (.Constant (.int 1) k p1) p3)) p4) pos) (e1 revO f) := PE.imp (pe_revL he) fun σ H Q ⟨S, G, Hs, ρ, r, p⟩ => by
  refine ⟨S, G, Hs, ρ, r, (Post.bind p).imp fun x Hs1 H1 e q u hu => ?_⟩
  cases z : revO x with
  | none => rw [z] at q; exact q.elim
  | some d =>
    rw [z] at q
    unfold revO at z
    split at z
    · cases z
      obtain ⟨a, xs, rfl, h1, h2⟩ := hu.list e.sub
      refine ⟨a, xs, rfl, h1, fun p hp => ?_⟩
      obtain ⟨x1, x2, x3, x4⟩ := new_own e.sub hp h2.reverse
      exact q _ _ x1 p _ (e.same.free hp) x2 x3 x4
    · cases z
end

/-! ### statements -/
/-- what a def's end hands back -/
def RpO (K : Fg) (G Hs H : Hp) : SD → V → Prop
  | .no, _ => False
  | .bo _, _ => False
  | .sh d, v => Rp K Hs d v
  | .ow l, v => ∃ p vs, v = .ref p ∧ G p = none ∧ Hs p = none ∧ H p = some (.lst vs) ∧ RpL K Hs l vs
def OutOk (K : Fg) (mg : Str → Option Value) (W : WX) (S : Hp) (G : Gx) (Hs : Hp) (D : Ends) : Out → Prop
  | .nx ρ => ∀ Hs' H' σ', Same Hs Hs' → RelE K S G Hs' H' σ' ρ → D.nx σ' H'
  | .bk ρ => ∀ Hs' H' σ', Same Hs Hs' → RelE K S G Hs' H' σ' ρ → D.bk σ' H'
  | .ct ρ => ∀ Hs' H' σ', Same Hs Hs' → RelE K S G Hs' H' σ' ρ → D.ct σ' H'
  | .rt r => ∀ Hs' H' v, Ext S G.h Hs' H' → RpO K G.h Hs' H' r v → D.rt v H'
  | .rtB r ρ => ∀ Hs' H' v σ', Same Hs Hs' → RelE K S G Hs' H' σ' ρ → RpO K G.h Hs' H' r v → (∀ l, r = .ow l → ∀ i p, G.b i = some p → v ≠ .ref p) → D.rt v H'
  | .ex x ρ => ∀ Hs' H' σ' cls dd, Same Hs Hs' → RelE K S G Hs' H' σ' ρ → XRp K mg Hs' x cls dd → W cls dd σ' H'
  | .bad => False
def tS (K : Fg) (mg : Str → Option Value) (W : WX) (F : Ev → Out) : TS := fun D σ H => ∃ S G Hs ρ, RelE K S G Hs H σ ρ ∧ OutOk K mg W S G Hs D (F ρ)
def VS (X : Cx) (W : WX) (st : Stmt) (F : Ev → Out) : Prop := PS X st (tS X.K X.mg W F)
def VSs (X : Cx) (W : WX) (st : List Stmt) (F : Ev → Out) : Prop := PSs X st (tS X.K X.mg W F)

theorem OutOk.up {K : Fg} {mg : Str → Option Value} {W : WX} {S Hs Hs1 : Hp} {G : Gx} {D : Ends} {o : Out} (h : OutOk K mg W S G Hs D o) (e : Same Hs Hs1) : OutOk K mg W S G Hs1 D o := by
  cases o with
  | nx ρ => exact fun Hs' H' σ' a => h Hs' H' σ' (e.trans a)
  | bk ρ => exact fun Hs' H' σ' a => h Hs' H' σ' (e.trans a)
  | ct ρ => exact fun Hs' H' σ' a => h Hs' H' σ' (e.trans a)
  | rt r => exact h
  | rtB r ρ => exact fun Hs' H' v σ' a => h Hs' H' v σ' (e.trans a)
  | ex x ρ => exact fun Hs' H' σ' cls dd a => h Hs' H' σ' cls dd (e.trans a)
  | bad => exact h
theorem RelE.ext' {K : Fg} {S Hs H : Hp} {G : Gx} {σ : Sg} {ρ : Ev} (r : RelE K S G Hs H σ ρ) : Ext S G.h Hs H := ⟨r.sub, r.old, r.ext.sub, r.new⟩

/-- an evaluation ahead -/
def liftE {α : Type} (r : R α) (ρ : Ev) (k : α → Out) : Out := match r with
  | .ok a => k a
  | .ex x => .ex x ρ
  | .bad => .bad
theorem lift_post {α : Type} {K : Fg} {mg : Str → Option Value} {W : WX} {S Hs H : Hp} {G : Gx} {σ : Sg} {ρ : Ev} {D : Ends} {r : R α} {k : α → Out} (rl : RelE K S G Hs H σ ρ) (h : OutOk K mg W S G Hs D (liftE r ρ k)) :
    Post K mg W Hs H σ r (fun a Hs' H' => OutOk K mg W S G Hs' D (k a)) := by
  cases r with
  | ok a => exact fun Hs' H' e => OutOk.up h e.grow
  | ex x => exact fun Hs' H' cls dd e hx => h Hs' H' σ cls dd e.grow (rl.step e) hx
  | bad => exact h

def seqO (o : Out) (k : Ev → Out) : Out := match o with
  | .nx ρ => k ρ
  | o => o
def sNil : Ev → Out := .nx
def sSeq (F G : Ev → Out) : Ev → Out := fun ρ => seqO (F ρ) G
section
variable {X : Cx} {W : WX} {e a b c : Expr} {es : List Expr} {pos : Pos} {f g : Ev → R D} {fl : Ev → R (List D)} {fb : Ev → R Bool} {st : Stmt} {rest : List Stmt} {F F' : Ev → Out}
theorem sim_seq {K : Fg} {mg : Str → Option Value} : ∀ D σ H, tS K mg W (sSeq F F') D σ H → tSeq (tS K mg W F) (tS K mg W F') D σ H := fun D σ H ⟨S, G, Hs, ρ, r, h⟩ => by
  refine ⟨S, G, Hs, ρ, r, ?_⟩
  unfold sSeq seqO at h
  cases q : F ρ with
  | nx ρ' =>
    rw [q] at h
    exact fun Hs' H' σ' a r' => ⟨S, G, Hs', ρ', r', h.up a⟩
  | bk ρ' => rw [q] at h; exact h
  | ct ρ' => rw [q] at h; exact h
  | rt r' => rw [q] at h; exact h
  | rtB r' ρ' => rw [q] at h; exact h
  | ex x ρ' => rw [q] at h; exact h
  | bad => rw [q] at h; exact h
theorem vss_nil : VSs X W [] sNil := PSs.imp pss_nil fun D σ H ⟨S, G, Hs, ρ, r, h⟩ => h Hs H σ (.refl _) r
theorem vss_cons (h1 : VS X W st F) (h2 : VSs X W rest F') : VSs X W (st :: rest) (sSeq F F') := PSs.imp (pss_cons h1 h2) sim_seq
theorem vss_one (h1 : VS X W st F) : VSs X W [st] F := pss_one h1
def sRet (f : Ev → R D) : Ev → Out := fun ρ => liftE (f ρ) ρ fun d => .rt (.sh d)
def sRetO (f : Ev → R (List D)) : Ev → Out := fun ρ => liftE (f ρ) ρ fun d => .rt (.ow d)
theorem vs_ret (he : VE X W e f) : VS X W (.Return (some e) pos) (sRet f) := PS.imp (ps_ret he) fun D σ H ⟨S, G, Hs, ρ, r, h⟩ =>
  ⟨S, G, Hs, ρ, r, (lift_post r h).imp fun d Hs' H' e q v hv => q Hs' H' v (r.step e).ext' hv⟩
theorem vs_retO (he : VO X W e fl) : VS X W (.Return (some e) pos) (sRetO fl) := PS.imp (ps_ret he) fun D σ H ⟨S, G, Hs, ρ, r, h⟩ =>
  ⟨S, G, Hs, ρ, r, (lift_post r h).imp fun d Hs' H' e q p vs h0 h1 h2 h3 => q Hs' H' _ (r.step e).ext' ⟨p, vs, rfl, r.old.free h0, h1, h2, h3⟩⟩
/-- return x, x a list of one's own -/
def sRetV (i : Nat) : Ev → Out := fun ρ => match ρ[i]? with
  | some (.ow l) => .rt (.ow l)
  | some (.sh d) => .rt (.sh d)
  | _ => .bad
theorem vs_retV (i : Nat) {x : Str} {p : Pos} (h : PE X (.Name x p) (tVar i)) : VS X W (.Return (some (.Name x p)) pos) (sRetV i) := PS.imp (ps_ret h) fun D σ H ⟨S, G, Hs, ρ, r, h⟩ => by
  unfold sRetV at h
  cases q : ρ[i]? with
  | none => rw [q] at h; exact h.elim
  | some s =>
    rw [q] at h
    cases s with
    | no => exact h.elim
    | sh d =>
      obtain ⟨v, e1, e2⟩ := r.get q
      exact ⟨v, e1, h Hs H v r.ext' e2⟩
    | bo l => exact h.elim
    | ow l =>
      obtain ⟨p, vs, e1, e2, e3, e4, e5⟩ := r.own q
      exact ⟨_, e1, h Hs H _ r.ext' ⟨p, vs, rfl, e2, e3, e4, e5⟩⟩
def sRetN : Ev → Out := fun _ => .rt (.sh .none)
theorem vs_retN : VS X W (.Return none pos) sRetN := PS.imp ps_retN fun D σ H ⟨S, G, Hs, ρ, r, h⟩ => h Hs H _ r.ext' .non
def sIf (c : Ev → R Bool) (F F' : Ev → Out) : Ev → Out := fun ρ => liftE (c ρ) ρ fun b => if b then F ρ else F' ρ
theorem vs_if {p q : List Stmt} (hc : VT X W c fb) (ha : VSs X W p F) (hb : VSs X W q F') : VS X W (.If c p q pos) (sIf fb F F') := PS.imp (ps_if hc ha hb) fun D σ H ⟨S, G, Hs, ρ, r, h⟩ => by
  refine ⟨S, G, Hs, ρ, r, (lift_post r h).imp fun k Hs' H' e q => ?_⟩
  cases k with
  | true => exact ⟨S, G, Hs', ρ, r.step e, q⟩
  | false => exact ⟨S, G, Hs', ρ, r.step e, q⟩
def sDrop (f : Ev → R D) : Ev → Out := fun ρ => liftE (f ρ) ρ fun _ => .nx ρ
theorem vs_expr (he : VE X W e f) (hs : swapsWith e none pos.line X.env = pure false := by rfl) : VS X W (.Expr e pos) (sDrop f) := PS.imp (ps_expr he hs) fun D σ H ⟨S, G, Hs, ρ, r, h⟩ =>
  ⟨S, G, Hs, ρ, r, (lift_post r h).imp fun d Hs' H' e q v hv => q Hs' H' σ (.refl _) (r.step e)⟩
/-- a list of one's own is frozen here -/
def sFz (i : Nat) (F : Ev → Out) : Ev → Out := fun ρ => match ρ[i]? with
  | some (.ow l) => F (ρ.set i (.sh (.list l)))
  | _ => F ρ
theorem sim_fz {K : Fg} {mg : Str → Option Value} (i : Nat) : ∀ D σ H, tS K mg W (sFz i F) D σ H → tS K mg W F D σ H := fun D σ H ⟨S, G, Hs, ρ, r, h⟩ => by
  unfold sFz at h
  cases q : ρ[i]? with
  | none => rw [q] at h; exact ⟨S, G, Hs, ρ, r, h⟩
  | some s =>
    rw [q] at h
    cases s with
    | no => exact ⟨S, G, Hs, ρ, r, h⟩
    | bo l => exact ⟨S, G, Hs, ρ, r, h⟩
    | sh d => exact ⟨S, G, Hs, ρ, r, h⟩
    | ow l =>
      obtain ⟨Hs', g, r'⟩ := r.fz q
      exact ⟨S, G, Hs', _, r', OutOk.up h g⟩
theorem vs_fz (i : Nat) (h : VS X W st F) : VS X W st (sFz i F) := PS.imp h (sim_fz i)
theorem vss_fz {sts : List Stmt} (i : Nat) (h : VSs X W sts F) : VSs X W sts (sFz i F) := PSs.imp h (sim_fz i)

/-! ### targets -/
/-- g: what an assigned item makes of the slots; ts: the slots that it may change -/
def tGt (K : Fg) (ts : List Nat) (g : D → Ev → Option Ev) : TG := fun v σ H Q => ∃ S G Hs ρ d ρ', RelE K S G Hs H σ ρ ∧ Rp K Hs d v ∧ g d ρ = some ρ' ∧
  ∀ σ', σ'.length = σ.length → (∀ j, j ∉ ts → σ'[j]? = σ[j]?) → RelE K S G Hs H σ' ρ' → Q σ' H
def VG (X : Cx) (tg : Expr) (ts : List Nat) (g : D → Ev → Option Ev) : Prop := PG X tg (tGt X.K ts g)
def gSet (i : Nat) : D → Ev → Option Ev := fun d ρ => some (ρ.set i (.sh d))
theorem vg_name {i : Nat} {x : Str} (h : PG X (.Name x pos) (gName i)) : VG X (.Name x pos) [i] (gSet i) := PG.imp h fun v σ H Q ⟨S, G, Hs, ρ, d, ρ', r, hd, e, q⟩ => by
  cases e
  refine q _ (by simp) (fun j hj => ?_) (r.set hd)
  rw [List.getElem?_set_ne]
  intro z
  exact hj (by simp [z])
def tGts (K : Fg) (ts : List Nat) (g : List D → Ev → Option Ev) : TGs := fun vs σ H Q => ∃ S G Hs ρ ds ρ', RelE K S G Hs H σ ρ ∧ RpL K Hs ds vs ∧ g ds ρ = some ρ' ∧
  ∀ σ', σ'.length = σ.length → (∀ j, j ∉ ts → σ'[j]? = σ[j]?) → RelE K S G Hs H σ' ρ' → Q σ' H
def VGs (X : Cx) (tg : List Expr) (ts : List Nat) (g : List D → Ev → Option Ev) : Prop := PGs X tg (tGts X.K ts g)
def gsNil : List D → Ev → Option Ev
  | [], ρ => some ρ
  | _ :: _, _ => none
def gsCons (g : D → Ev → Option Ev) (h : List D → Ev → Option Ev) : List D → Ev → Option Ev
  | [], _ => none
  | d :: ds, ρ => (g d ρ).bind (h ds)
theorem PGs.imp {tg : List Expr} {t t' : TGs} (h : PGs X tg t) (i : ∀ v σ H Q, t' v σ H Q → t v σ H Q) : PGs X tg t' := ⟨fun pins s σ H v u Q I r q => h.run pins s σ H v u Q I r (i v σ H Q q)⟩
theorem vgs_nil : VGs X [] [] gsNil := PGs.imp pgs_nil fun v σ H Q ⟨S, G, Hs, ρ, ds, ρ', r, hd, e, q⟩ => by
  cases hd with
  | nil => cases e; exact ⟨rfl, q σ rfl (fun _ _ => rfl) r⟩
  | cons _ _ => cases e
theorem vgs_cons {ts us : List Nat} {g : D → Ev → Option Ev} {k : List D → Ev → Option Ev} (h1 : VG X e ts g) (h2 : VGs X es us k)
    (hs : (assignEach (e :: es) X.env).map (·.2) = assign e X.env :: (assignEach es X.env).map (·.2) := by rfl) : VGs X (e :: es) (ts ++ us) (gsCons g k) := PGs.imp (pgs_cons h1 h2 hs) fun v σ H Q ⟨S, G, Hs, ρ, ds, ρ', r, hd, e, q⟩ => by
  cases hd with
  | nil => cases e
  | cons h r' =>
    obtain ⟨ρ1, e1, e2⟩ := Option.bind_eq_some_iff.mp e
    refine ⟨_, _, rfl, S, G, Hs, ρ, _, ρ1, r, h, e1, fun σ1 l1 f1 r1 => ?_⟩
    refine ⟨S, G, Hs, ρ1, _, ρ', r1, r', e2, fun σ2 l2 f2 r2 => q σ2 (l2.trans l1) (fun j hj => ?_) r2⟩
    rw [List.mem_append, not_or] at hj
    exact (f2 j hj.2).trans (f1 j hj.1)
def gTupD (n : Nat) (k : List D → Ev → Option Ev) : D → Ev → Option Ev := fun d ρ => match d with
  | .tuple l => if l.length = n then k l ρ else none
  | .list l => if l.length = n then k l ρ else none
  | _ => none
theorem PG.or {tg : Expr} {t t' : TG} (h : PG X tg t) (h' : PG X tg t') : PG X tg (fun v σ H Q => t v σ H Q ∨ t' v σ H Q) := ⟨fun pins s σ H v u Q I r q => q.elim (h.run pins s σ H v u Q I r) (h'.run pins s σ H v u Q I r)⟩
theorem vg_tup {k0 n : Nat} {ts : List Nat} {k : List D → Ev → Option Ev} (hc : X.calm = true) (h : VGs X es ts k)
    (hn : (assignEach es X.env).length = n := by rfl) (hst : (assignEach es X.env).findIdx? (·.1) = none := by rfl) : VG X (.Tuple es k0 pos) ts (gTupD n k) := PG.imp (PG.or (pg_tup hc h hn hst) (pg_lst hc h hn hst)) fun v σ H Q ⟨S, G, Hs, ρ, d, ρ', r, hd, e, q⟩ => by
  unfold gTupD at e
  split at e
  · split at e
    · rename_i hz
      cases hd with
      | tup h1 h2 => exact .inl ⟨_, _, rfl, SqT.mono r.sub h1, by rw [← h2.length]; exact hz, S, G, Hs, ρ, _, ρ', r, h2, e, q⟩
    · cases e
  · split at e
    · rename_i hz
      cases hd with
      | lst h1 h2 => exact .inr ⟨_, _, rfl, Same.seq r.sub h1, by rw [← h2.length]; exact hz, S, G, Hs, ρ, _, ρ', r, h2, e, q⟩
    · cases e
  · cases e
/-! ### assignments -/
def sAsg (f : Ev → R D) (g : D → Ev → Option Ev) : Ev → Out := fun ρ => liftE (f ρ) ρ fun d => match g d ρ with
  | some ρ' => .nx ρ'
  | none => .bad
theorem sim_asg {K : Fg} {mg : Str → Option Value} {ts : List Nat} {k : D → Ev → Option Ev} : ∀ D σ H, tS K mg W (sAsg f k) D σ H → tAsg (tE K mg W f) (tGt K ts k) D σ H := fun D σ H ⟨S, G, Hs, ρ, r, h⟩ => by
  refine ⟨S, G, Hs, ρ, r, (lift_post r h).imp fun d Hs' H' e q v hv => ?_⟩
  cases z : k d ρ with
  | none => rw [z] at q; exact q.elim
  | some ρ' =>
    rw [z] at q
    exact ⟨S, G, Hs', ρ, d, ρ', r.step e, hv, z, fun σ' _ _ r' => q Hs' H' σ' (.refl _) r'⟩
theorem vs_asg {tg : Expr} {ts : List Nat} {k : D → Ev → Option Ev} (he : VE X W e f) (hg : VG X tg ts k) (hs : swapsWithSole [tg] e pos.line X.env = pure false := by rfl) (hw : swappedStores [tg] e X.env = pure none := by rfl)
    (h1 : (assignEach [tg] X.env).map (·.2) = [assign tg X.env] := by rfl) : VS X W (.Assign [tg] e pos) (sAsg f k) := PS.imp (ps_asg he hg hs hw h1) sim_asg
def sSet (i : Nat) (f : Ev → R D) : Ev → Out := fun ρ => liftE (f ρ) ρ fun d => .nx (ρ.set i (.sh d))
theorem sim_set {K : Fg} {mg : Str → Option Value} {i : Nat} : ∀ D σ H, tS K mg W (sSet i f) D σ H → tAsg (tE K mg W f) (gName i) D σ H := fun D σ H ⟨S, G, Hs, ρ, r, h⟩ =>
  ⟨S, G, Hs, ρ, r, (lift_post r h).imp fun d Hs' H' e q v hv => q Hs' H' _ (.refl _) ((r.step e).set hv)⟩
def sSetO (i : Nat) (f : Ev → R (List D)) : Ev → Out := fun ρ => liftE (f ρ) ρ fun d => .nx (ρ.set i (.ow d))
theorem sim_setO {K : Fg} {mg : Str → Option Value} {i : Nat} : ∀ D σ H, tS K mg W (sSetO i fl) D σ H → tAsg (tO K mg W fl) (gName i) D σ H := fun D σ H ⟨S, G, Hs, ρ, r, h⟩ =>
  ⟨S, G, Hs, ρ, r, (lift_post r h).imp fun d Hs' H' e q p vs h0 h1 h2 h3 => q Hs' H' _ (.refl _) (r.setOw e h0 h1 h2 h3)⟩
theorem vs_set {i : Nat} {x : Str} {pos' : Pos} (hN : X.N.Nodup) (hi : X.N[i]? = some x) (hx : Loc X.env.scope x) (he : VE X W e f) (hs : swapsWith e (some (.Name x pos')) pos.line X.env = pure false := by rfl) (hf : X.fn x = true ∨ X.env.scope.names.lookup x = some .local := by first | exact .inl rfl | exact .inr rfl | assumption) :
    VS X W (.Assign [.Name x pos'] e pos) (sSet i f) := PS.imp (ps_set hN hi hx he hs hf) sim_set
theorem vs_setO {i : Nat} {x : Str} {pos' : Pos} (hN : X.N.Nodup) (hi : X.N[i]? = some x) (hx : Loc X.env.scope x) (he : VO X W e fl) (hs : swapsWith e (some (.Name x pos')) pos.line X.env = pure false := by rfl) (hf : X.fn x = true ∨ X.env.scope.names.lookup x = some .local := by first | exact .inl rfl | exact .inr rfl | assumption) :
    VS X W (.Assign [.Name x pos'] e pos) (sSetO i fl) := PS.imp (ps_set hN hi hx he hs hf) sim_setO
def sPar (i j : Nat) (fl : Ev → R (List D)) : Ev → Out := fun ρ => liftE (fl ρ) ρ fun ds => match ds with
  | [d, d'] => .nx ((ρ.set i (.sh d)).set j (.sh d'))
  | _ => .bad
theorem vs_par {i j : Nat} {x y : Str} {px py pt : Pos} {kt k2 pt2} (hc : X.calm = true) (hN : X.N.Nodup) (hi : X.N[i]? = some x) (hj : X.N[j]? = some y) (hij : i ≠ j)
    (hx : X.env.scope.names.lookup x = some .local) (hy : X.env.scope.names.lookup y = some .local) (ha : VA X W [a, b] fl)
    (hw : swappedStores [.Tuple [.Name x px, .Name y py] kt pt] (.Tuple [a, b] k2 pt2) X.env = pure (some [x, y]))
    (hs : swapsWithSole [.Tuple [.Name x px, .Name y py] kt pt] (.Tuple [a, b] k2 pt2) pos.line X.env = pure false := by rfl) :
    VS X W (.Assign [.Tuple [.Name x px, .Name y py] kt pt] (.Tuple [a, b] k2 pt2) pos) (sPar i j fl) := PS.imp (ps_par hc hN hi hj hij hx hy ha hw hs) fun D σ H ⟨S, G, Hs, ρ, r, h⟩ => by
  refine ⟨S, G, Hs, ρ, r, (lift_post r h).imp fun ds Hs' H' e q vs hv => ?_⟩
  cases hv with
  | nil => exact q.elim
  | cons h1 hv =>
    cases hv with
    | nil => exact q.elim
    | cons h2 hv =>
      cases hv with
      | cons _ _ => exact q.elim
      | nil => exact ⟨_, _, rfl, q Hs' H' _ (.refl _) (((r.step e).set h1).set h2)⟩
/-- x op= e -/
def sAug (i : Nat) (F : D → D → Option D) (f : Ev → R D) : Ev → Out := fun ρ => liftE ((eVar i ρ).bind fun x => (f ρ).bind fun y => ofO (F x y)) ρ fun d => .nx (ρ.set i (.sh d))
def DIp (X : Cx) (op : Operator) (F : D → D → Option D) : Prop := ∃ r, PIp X op r ∧ OpD X.K r F
def iaddD : D → D → Option D
  | .int i, .int j => some (.int (i + j))
  | _, _ => none
theorem dip_add : DIp X .Add iaddD := ⟨_, ip_add, fun Hs H x y u v Q d hs e hx hy k => by
  unfold iaddD at e
  split at e
  · cases e
    exact ⟨_, _, hx.int, hy.int, k _ _ _ (.refl hs) (.int _)⟩
  · cases e⟩
def imulD : D → D → Option D
  | .int i, .int j => if okMul i j then some (.int (i * j)) else none
  | _, _ => none
theorem vs_aug {i : Nat} {x : Str} {op : Operator} {F : D → D → Option D} {pos' : Pos} (hN : X.N.Nodup) (hi : X.N[i]? = some x) (hx : Loc X.env.scope x) (he : VP X W e f) (ho : DIp X op F) (hf : X.fn x = true ∨ X.env.scope.names.lookup x = some .local := by first | exact .inl rfl | exact .inr rfl | assumption) :
    VS X W (.AugAssign (.Name x pos') op e pos) (sAug i F f) := by
  obtain ⟨ti, h1, h2⟩ := ho
  refine PS.imp (ps_aug hN hi hx he h1 hf) fun D σ H ⟨S, G, Hs, ρ, r, h⟩ => ?_
  have p := lift_post r h
  unfold eVar at p
  cases q : ρ[i]? with
  | none => rw [q] at p; exact p.elim
  | some s =>
    rw [q] at p
    cases s with
    | no => exact p.elim
    | ow l => exact p.elim
    | bo l => exact p.elim
    | sh d =>
      obtain ⟨v, e1, e2⟩ := r.get q
      refine ⟨v, e1, S, G, Hs, ρ, r, (Post.bind (show Post X.K X.mg W Hs H σ ((f ρ).bind fun y => ofO (F d y)) _ from p)).imp fun y Hs1 H1 e q w hw => ?_⟩
      cases z : F d y with
      | none => rw [z] at q; exact q.elim
      | some d' =>
        rw [z] at q
        refine h2 Hs1 H1 d y v w _ d' e.sub z (.inl (e2.mono e.grow)) hw fun Hs' H' z e' hz => ?_
        exact q Hs' H' e' Hs' H' _ (.refl _) (((r.step e).step e').set hz)
/-- x.append(e), x a list of one's own -/
def onOw (i : Nat) (ρ : Ev) (k : List D → Out) : Out := match ρ[i]? with
  | some (.ow l) => k l
  | _ => .bad
theorem on_own {K : Fg} {mg : Str → Option Value} {S Hs : Hp} {G : Gx} {En : Ends} {i : Nat} {ρ : Ev} {k : List D → Out} (h : OutOk K mg W S G Hs En (onOw i ρ k)) : ∃ l, ρ[i]? = some (.ow l) ∧ OutOk K mg W S G Hs En (k l) := by
  unfold onOw at h
  split at h
  · exact ⟨_, by assumption, h⟩
  · exact h.elim
def sApp (i : Nat) (f : Ev → R D) : Ev → Out := fun ρ => onOw i ρ fun l => liftE (f ρ) ρ fun d => if l.length < sizeLine then .nx (ρ.set i (.ow (l ++ [d]))) else .bad
theorem vs_app (i : Nat) {x : Str} {p apos cpos : Pos} (ho : PE X (.Name x p) (tVar i)) (he : VE X W e f)
    (hbase : attributeBase (.Name x p) "append" X.env (eval (.Name x p) X.env) = eval (.Name x p) X.env := by rfl)
    (hfew : ((backTo cpos (starEach [e] X.env)).all (fun x => !x.1) && (backToKw cpos (keywordEach [] X.env)).all (fun x => x.1.isSome)
      && decide ([e].length + ([] : List Keyword).length + (if ([] : List Keyword).isEmpty then 0 else 1) < 30)) = true := by rfl)
    (hline : (apos.endLine == cpos.line) = true := by rfl) (hs : starEach [e] X.env = (false, eval e X.env) :: starEach [] X.env := by rfl) (hplain : (backTo cpos (starEach [] X.env)).any (·.1) = false := by rfl)
    (hsw : swapsWith (.Call (.Attribute (.Name x p) "append" apos) [e] [] cpos) none pos.line X.env = pure false := by rfl) :
    VS X W (.Expr (.Call (.Attribute (.Name x p) "append" apos) [e] [] cpos) pos) (sApp i f) := by
  refine PS.imp (ps_expr (pe_bm PySem.F.plainAttrs_list PySem.F.slot_list_append PySem.F.type_list_append mt_append ho (pa_cons he pa_nil hs) hbase hfew hline hs hplain) hsw) fun D σ H ⟨S, G, Hs, ρ, r, h⟩ => ?_
  obtain ⟨l, hl, h⟩ := on_own h
  obtain ⟨a, vs, o1, o2, o3, o4, o5⟩ := r.own hl
  refine ⟨_, o1, .inl ⟨rfl, vs, .inl (.inl o4)⟩, S, G, Hs, ρ, r, (lift_post r h).imp fun d Hs' H' e q v hv => ?_⟩
  split at q
  · rename_i hz
    have r' := r.step e
    refine ⟨a, vs, v, rfl, rfl, e.same _ _ o4, by rw [← o5.length]; exact hz, ?_⟩
    exact q Hs' _ σ (.refl _) (r'.wr hl o1 ((o5.mono e.grow).append (.cons hv .nil)))
  · exact q.elim
/-- x.extend(e) -/
theorem list_extendW (l : Addr) (items : Array Value) (n : Nat) (b : Addr) (items2 : Array Value) (n2 : Nat) (sl2 : Array (Option Value)) (hc0 : ¬(!items.isEmpty && Builtin.List.listTooLong (items.size + items2.size)) = true) (hc1 : items.size ≤ sizeLine) (hs2 : items.size + items2.size ≤ sizeLine + 1) :
    Meets (Builtin.«list.extend» ⟨[.ref l, .ref b], []⟩) (fun _ R s => s.heap.get? l = some { cls := .type "list", dict := none, data := .seq items n, slots := #[] } ∧ s.heap.get? b = some { cls := .type "list", dict := none, data := .seq items2 n2, slots := sl2 } ∧ R (.ok (.ret Value.none)) { s with heap := s.heap.update l (Obj.mapSeq fun x => x ++ items2), toks := s.toks }) :=
  .of_wp fun prog w A R s h => by
    obtain ⟨hp, g, d, tk, os⟩ := s; obtain ⟨hl, hb, h⟩ := h; have f1 := AutoSeq1.idx_int; have f2 := AutoSeq1.sub_tuple_tuple; have f3 := AutoSeq1.sub_list_list; have f4 := AutoSeq1.sub_tuple_list; have f5 := AutoSeq1.sub_list_tuple;
    have hz' : (items ++ items2).size ≤ sizeLine + 1 := by rw [Array.size_append]; exact hs2
    wp_walk using (wpAny_updateSeq hl rfl (hz := hc1) (_hz' := hz')), AutoSeq1.wpAny_loadPart' hl, AutoSeq1.wpAny_loadPart' hb; exact ⟨_, rfl, h⟩
def rExtendR (K : Fg) : V → List V → Hp → VK → Prop := fun x vs H Q => ∃ l b xs zs, x = .ref l ∧ vs = [.ref b] ∧ H l = some (.lst xs) ∧ SqL K H b zs ∧ xs.length + zs.length ≤ sizeLine ∧ Q .non (upd H l (.lst (xs ++ zs)))
theorem mt_extendR : MtR X "list.extend" (rExtendR X.K) := by
  intro pins s σ H x vs v us Q I rx rv h
  obtain ⟨l, b, xs, zs, rfl, rfl, hH, hB, hz, q⟩ := h
  cases rx
  obtain ⟨u, rfl, ru⟩ := rv.one
  cases ru
  obtain ⟨z, its, n, r, hl, e⟩ := I.lstM hH
  obtain ⟨z2, its2, n2, sl2, r2, hl2, e2⟩ := rd_obj I hB
  have hsz : its.toArray.size + its2.toArray.size ≤ sizeLine := by rw [List.size_toArray, List.size_toArray]; omega
  have hlong : ¬ (!its.toArray.isEmpty && Builtin.List.listTooLong (its.toArray.size + its2.toArray.size)) = true := by
    rw [notLongL hsz, Bool.and_false]
    exact Bool.false_ne_true
  refine call_meets F.slot_list_extend ⟨_, e, rfl⟩ F.entry_list_extend (F.args_list_extend_2 _ _)
    (list_extendW l its.toArray n b its2.toArray n2 sl2 hlong (by rw [List.size_toArray]; omega) (by omega)) ⟨e, e2, ?_⟩
  refine ⟨.non, _, I.lset (its' := its ++ its2) hH e (by simp) (r.append r2) ?_, rfl, q⟩
  rw [List.length_append]
  omega
def sExt (i : Nat) (f : Ev → R D) : Ev → Out := fun ρ => onOw i ρ fun l => liftE (f ρ) ρ fun d => match d with
  | .list l' => if l.length + l'.length ≤ sizeLine then .nx (ρ.set i (.ow (l ++ l'))) else .bad
  | _ => .bad
theorem vs_ext (i : Nat) {x : Str} {p apos cpos : Pos} (ho : PE X (.Name x p) (tVar i)) (he : VP X W e f)
    (hbase : attributeBase (.Name x p) "extend" X.env (eval (.Name x p) X.env) = eval (.Name x p) X.env := by rfl)
    (hfew : ((backTo cpos (starEach [e] X.env)).all (fun x => !x.1) && (backToKw cpos (keywordEach [] X.env)).all (fun x => x.1.isSome)
      && decide ([e].length + ([] : List Keyword).length + (if ([] : List Keyword).isEmpty then 0 else 1) < 30)) = true := by rfl)
    (hline : (apos.endLine == cpos.line) = true := by rfl) (hs : starEach [e] X.env = (false, eval e X.env) :: starEach [] X.env := by rfl) (hplain : (backTo cpos (starEach [] X.env)).any (·.1) = false := by rfl)
    (hsw : swapsWith (.Call (.Attribute (.Name x p) "extend" apos) [e] [] cpos) none pos.line X.env = pure false := by rfl) :
    VS X W (.Expr (.Call (.Attribute (.Name x p) "extend" apos) [e] [] cpos) pos) (sExt i f) := by
  refine PS.imp (ps_expr (pe_bm PySem.F.plainAttrs_list PySem.F.slot_list_extend PySem.F.type_list_extend mt_extendR ho (pa_cons he pa_nil hs) hbase hfew hline hs hplain) hsw) fun D σ H ⟨S, G, Hs, ρ, r, h⟩ => ?_
  obtain ⟨l, hl, h⟩ := on_own h
  obtain ⟨a, vs, o1, o2, o3, o4, o5⟩ := r.own hl
  refine ⟨_, o1, .inl ⟨rfl, vs, .inl (.inl o4)⟩, S, G, Hs, ρ, r, (lift_post r h).imp fun d Hs' H' e q v hv => ?_⟩
  split at q
  · split at q
    · rename_i hz
      have r' := r.step e
      obtain ⟨b, xs, rfl, h1, h2⟩ := hv.list e.sub
      refine ⟨a, b, vs, xs, rfl, rfl, e.same _ _ o4, h1, by rw [← o5.length, ← h2.length]; exact hz, ?_⟩
      exact q Hs' _ σ (.refl _) (r'.wr hl o1 ((o5.mono e.grow).append h2))
    · exact q.elim
  · exact q.elim
/-- x[e] = v -/
def sStore (i : Nat) (fi fv : Ev → R D) : Ev → Out := fun ρ => onOw i ρ fun l => liftE ((fv ρ).bind fun d => (fi ρ).bind fun k => .ok (d, k)) ρ fun (d, k) => match k with
  | .int z => match ixN l.length z with
    | some j => .nx (ρ.set i (.ow (l.set j d)))
    | none => .bad
  | _ => .bad
theorem vs_store (i : Nat) {x : Str} {p spos : Pos} (ho : PE X (.Name x p) (tVar i)) (hi : VE X W a g) (he : VE X W e f)
    (hs : swapsWithSole [.Subscript (.Name x p) a spos] e pos.line X.env = pure false := by rfl) (hw : swappedStores [.Subscript (.Name x p) a spos] e X.env = pure none := by rfl)
    (h1 : (assignEach [.Subscript (.Name x p) a spos] X.env).map (·.2) = [assign (.Subscript (.Name x p) a spos) X.env] := by rfl)
    (ha : ∀ v, assign (.Subscript (.Name x p) a spos) X.env v = (do
      let ov ← holding [v] (eval (.Name x p) X.env)
      let iv ← holding [v, ov] (eval a X.env)
      standAt spos
      holding [v, ov, iv] (setItem ov iv v)
      release [v, ov, iv] []) := by intro _; rfl) : VS X W (.Assign [.Subscript (.Name x p) a spos] e pos) (sStore i g f) := by
  refine PS.imp (ps_asg he (pg_sub ho hi set_list ha) hs hw h1) fun D σ H ⟨S, G, Hs, ρ, r, h⟩ => ?_
  obtain ⟨l, hl, h⟩ := on_own h
  obtain ⟨b, vs, o1, o2, o3, o4, o5⟩ := r.own hl
  refine ⟨S, G, Hs, ρ, r, (Post.bind (lift_post r h)).imp fun d Hs' H' e q v hv => ?_⟩
  refine ⟨_, o1, S, G, Hs', ρ, r.step e, (Post.bind q).imp fun k Hs2 H2 e2 q2 w hw => ?_⟩
  have q3 := q2.now e2.sub
  cases k with
  | int z =>
    cases hw
    cases y : ixN l.length z with
    | none => simp only [y] at q3; exact q3.elim
    | some j =>
      simp only [y] at q3
      refine ⟨b, vs, z, j, rfl, rfl, e2.same _ _ (e.same _ _ o4), by rw [← o5.length]; exact y, ?_⟩
      exact q3 Hs2 _ σ (.refl _) (((r.step e).step e2).wr hl o1 (((o5.mono e.grow).mono e2.grow).set (hv.mono e2.grow) j))
  | none => exact q3.elim
  | bool _ => exact q3.elim
  | str _ => exact q3.elim
  | list _ => exact q3.elim
  | tuple _ => exact q3.elim
  | dict _ => exact q3.elim
def placeD (l : List D) : D → Option (Nat × D)
  | .int z => if 0 ≤ z ∧ z < 2 ^ 63 then (l[z.toNat]?).map fun y => (z.toNat, y) else none
  | _ => none
def sAugIx (i : Nat) (F : D → D → Option D) (fi fv : Ev → R D) : Ev → Out := fun ρ => onOw i ρ fun l => liftE ((fi ρ).bind fun k => ofO (placeD l k)) ρ fun jy => liftE ((fv ρ).bind fun d => ofO (F jy.2 d)) ρ fun d => .nx (ρ.set i (.ow (l.set jy.1 d)))
/-- x = y.pop() -/
def sPop (i j : Nat) : Ev → Out := fun ρ => onOw j ρ fun l => match l.getLast? with
  | some d => .nx ((ρ.set j (.ow l.dropLast)).set i (.sh d))
  | none => .bad
theorem pop_at {K : Fg} {H : Hp} {l : List VL.D} {vs : List V} {d : VL.D} (r : RpL K H l vs) (e : l.getLast? = some d) : ∃ v, vs[vs.length - 1]? = some v ∧ Rp K H d v := by
  rw [List.getLast?_eq_getElem?] at e
  rw [← r.length]
  exact r.get e
end
end VL

set_option Elab.async false
set_option linter.all false
set_option maxRecDepth 100000
set_option autoImplicit false
namespace VL
open PySem PySem.Spec PyProof.Rows L2

/-! ### what is walked -/
def ItD (K : Fg) (J : It) (Hs : Hp) (l : List D) : Prop := ∀ (i : Nat) (Hs' H' : Hp), Same Hs Hs' → Same Hs' H' →
  (∀ d, l[i]? = some d → J.go i H' ∧ ∀ x H'', J.yld i H' x H'' → ∃ Hs'', Ext Hs' H' Hs'' H'' ∧ Rp K Hs'' d x) ∧ (l.length ≤ i → J.stop i H')
def tIt (K : Fg) (mg : Str → Option Value) (W : WX) (f : Ev → R (List D)) : TI := fun σ H Rr => ∃ S G Hs ρ, RelE K S G Hs H σ ρ ∧ Post K mg W Hs H σ (f ρ) (fun l Hs' H' => ∀ J, ItD K J Hs' l → Rr J H')
def VI (X : Cx) (W : WX) (tg iter : Expr) (f : Ev → R (List D)) : Prop := PI X tg iter (tIt X.K X.mg W f)
def seqD : D → Option (List D)
  | .list l => some l
  | .tuple l => some l
  | .str z => some (z.cps.toList.map fun c => .str ⟨#[c]⟩)
  | _ => none
theorem it_list {K : Fg} {Hs : Hp} {a : Addr} {xs : List V} {l : List D} (h : SqL K Hs a xs) (r : RpL K Hs l xs) : ItD K (Itl K a) Hs l := fun i Hs' H' g s => by
  have h' : SqL K H' a xs := Same.seq s (Same.seq g h)
  refine ⟨fun d e => ?_, fun hl => ⟨xs, h', by rw [← r.length]; exact hl⟩⟩
  obtain ⟨v, v1, v2⟩ := r.get e
  refine ⟨⟨xs, v, h', v1⟩, fun x H'' y => ?_⟩
  obtain ⟨rfl, y⟩ := y
  have := y xs h'
  rw [v1] at this
  cases this
  exact ⟨Hs', .refl s, v2.mono g⟩
section
variable {X : Cx} {W : WX} {tg e : Expr} {pos : Pos}
/-- a list, a tuple or a text, walked -/
def iSeq (K : Fg) (tl : TE) : TI := fun σ H Rr => tl σ H fun x H1 => (∃ a, x = .ref a ∧ (∃ xs, SqL K H1 a xs) ∧ Rr (Itl K a) H1) ∨ (∃ a, x = .ref a ∧ (∃ xs, SqT K H1 a xs) ∧ Rr (Itt K a) H1) ∨ (∃ z, x = .str z ∧ Rr (Its z) H1)
theorem pi_seq {tl : TE} (hl : PE X e tl) : PI X tg e (iSeq X.K tl) := by
  refine ⟨fun pins s σ H R I h => ?_⟩
  -- the three rules, by the value that comes
  have k1 : ∀ (a : Addr) (s1 : Shared) (H1 : Hp), Inv X pins σ H1 s1 → (∃ xs, SqL X.K H1 a xs) → R (Itl X.K a) H1 → wpAny (model X.prog X.w) X.A (pyIter (.ref a)) (PIE X pins σ tg R) X.xe s1 := fun a s1 H1 I1 ⟨xs, hq⟩ q => by
    obtain ⟨its, rv, p, hz⟩ := I1.list hq
    refine wpAny_pyIter_list p.isList ?_
    refine ⟨s1.heap.objs.size, [s1.heap.objs.size], _, _, H1, rfl, I1.kept (t' := s1.toks) fun b o e => Heap.get?_push_of_some _ e, turn_list a _, ⟨_, Heap.get?_push_size _ rfl, rfl, rfl⟩, fun b hb => ?_, q⟩
    have e : b = s1.heap.objs.size := by simpa using hb
    subst e
    exact I1.fpOk (Nat.le_refl _) (I1.hok.fresh (Nat.le_refl _))
  have k2 : ∀ (a : Addr) (s1 : Shared) (H1 : Hp), Inv X pins σ H1 s1 → (∃ xs, SqT X.K H1 a xs) → R (Itt X.K a) H1 → wpAny (model X.prog X.w) X.A (pyIter (.ref a)) (PIE X pins σ tg R) X.xe s1 := fun a s1 H1 I1 ⟨xs, hq⟩ q => by
    obtain ⟨its, rv, p, hz⟩ := I1.tuple hq
    refine wpAny_pyIter_tuple (show s1.heap.IsTuple a its.toArray from p) ?_
    refine ⟨s1.heap.objs.size, [s1.heap.objs.size], _, _, H1, rfl, I1.kept (t' := s1.toks) fun b o e => Heap.get?_push_of_some _ e, turn_tuple a _, ⟨_, Heap.get?_push_size _ rfl, rfl, rfl⟩, fun b hb => ?_, q⟩
    have e : b = s1.heap.objs.size := by simpa using hb
    subst e
    exact I1.fpOk (Nat.le_refl _) (I1.hok.fresh (Nat.le_refl _))
  refine thn (hl.run pins s σ H _ I h) fun v s1 ⟨x, H1, I1, r1, q1⟩ => ?_
  rcases q1 with ⟨a, ex, hx, q⟩ | ⟨a, ex, hx, q⟩ | ⟨z, ex, q⟩
  · subst ex; cases r1; exact k1 a s1 H1 I1 hx q
  · subst ex; cases r1; exact k2 a s1 H1 I1 hx q
  · subst ex
    obtain ⟨t, rfl⟩ := r1
    cases ha : z.cps.all (· < 128)
    · exact wpAny_pyIter_wide ha (pi_one (tk := s1.toks) I1 _ (turn_str _ z t "str_iterator" (.inr rfl)) ⟨_, Heap.get?_push_size _ rfl, rfl, rfl⟩ q)
    · exact wpAny_pyIter_ascii ha (pi_one (tk := s1.toks) I1 _ (turn_str _ z t "str_ascii_iterator" (.inl rfl)) ⟨_, Heap.get?_push_size _ rfl, rfl, rfl⟩ q)
end
theorem it_tup {K : Fg} {Hs : Hp} {a : Addr} {xs : List V} {l : List D} (h : SqT K Hs a xs) (r : RpL K Hs l xs) : ItD K (Itt K a) Hs l := fun i Hs' H' g s => by
  have h' : SqT K H' a xs := SqT.mono s (SqT.mono g h)
  refine ⟨fun d e => ?_, fun hl => ⟨xs, h', by rw [← r.length]; exact hl⟩⟩
  obtain ⟨v, v1, v2⟩ := r.get e
  refine ⟨⟨xs, v, h', v1⟩, fun x H'' y => ?_⟩
  obtain ⟨rfl, y⟩ := y
  have := y xs h'
  rw [v1] at this
  cases this
  exact ⟨Hs', .refl s, v2.mono g⟩
theorem it_str {K : Fg} {Hs : Hp} (z : Str) : ItD K (Its z) Hs (z.cps.toList.map fun c => .str ⟨#[c]⟩) := fun i Hs' H' g s => by
  refine ⟨fun d e => ?_, fun hl => by rw [List.length_map, Array.length_toList] at hl; exact hl⟩
  rw [List.getElem?_map] at e
  obtain ⟨c, e1, rfl⟩ := Option.map_eq_some_iff.mp e
  have e2 : z.cps[i]? = some c := by rw [← Array.getElem?_toList]; exact e1
  refine ⟨(Array.getElem?_eq_some_iff.mp e2).1, fun x H'' y => ?_⟩
  obtain ⟨rfl, c', e3, rfl⟩ := y
  rw [e2] at e3
  cases e3
  exact ⟨Hs', .refl s, .str _⟩
/-- lo, lo + c, .. (n of them) -/
def rngL (lo c : Int) (n : Nat) : List D := (List.range n).map fun i => .int (lo + (i : Nat) * c)
theorem rngL_length (lo c : Int) (n : Nat) : (rngL lo c n).length = n := by simp [rngL]
theorem rngL_get {lo c : Int} {n i : Nat} {d : D} (h : (rngL lo c n)[i]? = some d) : i < n ∧ d = .int (lo + (i : Nat) * c) := by
  unfold rngL at h
  rw [List.getElem?_map] at h
  obtain ⟨j, e1, rfl⟩ := Option.map_eq_some_iff.mp h
  obtain ⟨h1, h2⟩ := List.getElem?_eq_some_iff.mp e1
  rw [List.getElem_range] at h2
  subst h2
  exact ⟨by simpa using h1, rfl⟩
theorem it_rng {K : Fg} {Hs : Hp} {lo : Int} {n : Nat} : ItD K (Itr lo n) Hs (rngL lo 1 n) := fun i Hs' H' g s => by
  refine ⟨fun d e => ?_, fun hl => by rw [rngL_length] at hl; exact hl⟩
  obtain ⟨h1, rfl⟩ := rngL_get e
  refine ⟨h1, fun x H'' y => ?_⟩
  obtain ⟨rfl, rfl⟩ := y
  rw [Int.mul_one]
  exact ⟨Hs', .refl s, .int _⟩
theorem it_rngC {K : Fg} {Hs : Hp} {lo c : Int} {n : Nat} : ItD K (Itc lo c n) Hs (rngL lo c n) := fun i Hs' H' g s => by
  refine ⟨fun d e => ?_, fun hl => by rw [rngL_length] at hl; exact hl⟩
  obtain ⟨h1, rfl⟩ := rngL_get e
  refine ⟨h1, fun x H'' y => ?_⟩
  obtain ⟨rfl, rfl⟩ := y
  exact ⟨Hs', .refl s, .int _⟩
def in62 (i : Int) : Bool := decide (-(2 ^ 62) ≤ i ∧ i < 2 ^ 62)
def range1D : List D → Option (List D)
  | [.int j] => if in62 j then some (rngL 0 1 j.toNat) else none
  | _ => none
def range3D : List D → Option (List D)
  | [.int i, .int j, .int c] => if decide (c ≠ 0) && decide (c.natAbs < 1073741824) && Builtin.Range.small i j c && decide (Builtin.Range.rangeSize i j c = ((Builtin.Range.rangeSize i j c).toNat : Int)) then some (rngL i c (Builtin.Range.rangeSize i j c).toNat) else none
  | _ => none
theorem PkL.three {K : Fg} {Hs H : Hp} {d e f : D} {vs : List V} (h : PkL K Hs H [d, e, f] vs) : ∃ v w u, vs = [v, w, u] ∧ Pk K Hs H d v ∧ Pk K Hs H e w ∧ Pk K Hs H f u := by
  cases vs with
  | nil => exact h.elim
  | cons v r =>
    cases r with
    | nil => exact h.2.elim
    | cons w r =>
      cases r with
      | nil => exact h.2.2.elim
      | cons u r =>
        cases r with
        | nil => exact ⟨v, w, u, rfl, h.1, h.2.1, h.2.2.1⟩
        | cons _ r => exact h.2.2.2.elim
section
variable {X : Cx} {W : WX} {tg e a b c : Expr} {pos p : Pos} {f : Ev → R D} {fl : Ev → R (List D)}
theorem vi_seq (h : VE X W e f) : VI X W tg e (e1 seqD f) := PI.imp (pi_seq h) fun σ H Rr ⟨S, G, Hs, ρ, r, p⟩ => by
  refine ⟨S, G, Hs, ρ, r, (Post.bind p).imp fun d Hs1 H1 e q v hv => ?_⟩
  cases z : seqD d with
  | none => rw [z] at q; exact q.elim
  | some l =>
    rw [z] at q
    have q' := q.now e.sub
    unfold seqD at z
    split at z
    · cases z
      cases hv with
      | lst h1 h2 => exact .inl ⟨_, rfl, ⟨_, Same.seq e.sub h1⟩, q' _ (it_list h1 h2)⟩
    · cases z
      cases hv with
      | tup h1 h2 => exact .inr (.inl ⟨_, rfl, ⟨_, SqT.mono e.sub h1⟩, q' _ (it_tup h1 h2)⟩)
    · cases z
      cases hv
      exact .inr (.inr ⟨_, rfl, q' _ (it_str _)⟩)
    · cases z
theorem vi_range1 (hg : Gl X "range") (hm : X.mg "range" = none) (ha : VAp X W [a] fl) (hs : starEach [a] X.env = [(false, eval a X.env)] := by rfl) : VI X W tg (.Call (.Name "range" p) [a] [] pos) (e1 range1D fl) := PI.imp (pi_range1 hg hm ha hs) fun σ H Rr ⟨S, G, Hs, ρ, r, p⟩ => by
  refine ⟨S, G, Hs, ρ, r, (Post.bind p).imp fun ds Hs1 H1 e q vs hv => ?_⟩
  cases z : range1D ds with
  | none => rw [z] at q; exact q.elim
  | some l =>
    rw [z] at q
    have q' := q.now e.sub
    unfold range1D at z
    split at z
    · split at z
      · rename_i hz
        cases z
        unfold in62 at hz
        have hz' := of_decide_eq_true hz
        obtain ⟨v, rfl, h⟩ := hv.one
        exact ⟨_, by rw [h.int], hz'.1, hz'.2, q' _ it_rng⟩
      · cases z
    · cases z
theorem vi_range3 (hg : Gl X "range") (hm : X.mg "range" = none) (ha : VAp X W [a, b, c] fl)
    (h1 : starEach [a, b, c] X.env = (false, eval a X.env) :: starEach [b, c] X.env := by rfl) (h2 : (backTo pos (starEach [b, c] X.env)).any (·.1) = false := by rfl) : VI X W tg (.Call (.Name "range" p) [a, b, c] [] pos) (e1 range3D fl) := PI.imp (pi_range3 hg hm ha h1 h2) fun σ H Rr ⟨S, G, Hs, ρ, r, p⟩ => by
  refine ⟨S, G, Hs, ρ, r, (Post.bind p).imp fun ds Hs1 H1 e q vs hv => ?_⟩
  cases z : range3D ds with
  | none => rw [z] at q; exact q.elim
  | some l =>
    rw [z] at q
    have q' := q.now e.sub
    unfold range3D at z
    split at z
    · split at z
      · rename_i hz
        cases z
        rw [Bool.and_eq_true, Bool.and_eq_true, Bool.and_eq_true] at hz
        have hz1 := of_decide_eq_true hz.1.1.1
        have hz2 := of_decide_eq_true hz.1.1.2
        have hz3 := of_decide_eq_true hz.2
        obtain ⟨v, w, u, rfl, h, h', h''⟩ := hv.three
        exact ⟨_, _, _, _, by rw [h.int, h'.int, h''.int], ⟨hz1, hz2, hz.1.2, hz3⟩, q' _ it_rngC⟩
      · cases z
    · cases z
/-- enumerate, zip of lists -/
def enuL (l : List D) : List D := (List.range l.length).zipWith (fun i d => .tuple [.int (i : Nat), d]) l
def zipL (l m : List D) : List D := l.zipWith (fun d e => .tuple [d, e]) m
def enuD : List D → Option (List D)
  | [.list l] => some (enuL l)
  | _ => none
def zipD : List D → Option (List D)
  | [.list l, .list m] => some (zipL l m)
  | _ => none
theorem RpL.one {K : Fg} {H : Hp} {d : D} {vs : List V} (h : RpL K H [d] vs) : ∃ v, vs = [v] ∧ Rp K H d v := by
  cases h with
  | cons h r => cases r; exact ⟨_, rfl, h⟩
theorem RpL.two {K : Fg} {H : Hp} {d e : D} {vs : List V} (h : RpL K H [d, e] vs) : ∃ v w, vs = [v, w] ∧ Rp K H d v ∧ Rp K H e w := by
  cases h with
  | cons h r => cases r with
    | cons h' r => cases r; exact ⟨_, _, rfl, h, h'⟩
end

/-! ### for, while -/
def forO (body : D → Ev → Out) : List D → Ev → Out
  | [], ρ => .nx ρ
  | d :: ds, ρ => match body d ρ with
    | .nx ρ' => forO body ds ρ'
    | .ct ρ' => forO body ds ρ'
    | .bk ρ' => .nx ρ'
    | .rt r => .rt r
    | .rtB r ρ' => .rtB r ρ'
    | .ex x ρ' => .ex x ρ'
    | .bad => .bad
def gTo (g : D → Ev → Option Ev) (F : Ev → Out) : D → Ev → Out := fun d ρ => match g d ρ with
  | some ρ' => F ρ'
  | none => .bad
def sFor (fi : Ev → R (List D)) (g : D → Ev → Option Ev) (F : Ev → Out) : Ev → Out := fun ρ => liftE (fi ρ) ρ fun l => forO (gTo g F) l ρ
def whileO (c : Ev → R Bool) (F : Ev → Out) : Nat → Ev → Out
  | 0, _ => .bad
  | n + 1, ρ => liftE (c ρ) ρ fun b => if b then (match F ρ with
    | .nx ρ' => whileO c F n ρ'
    | .ct ρ' => whileO c F n ρ'
    | .bk ρ' => .nx ρ'
    | .rt r => .rt r
    | .rtB r ρ' => .rtB r ρ'
    | .ex x ρ' => .ex x ρ'
    | .bad => .bad) else .nx ρ
open Classical in
noncomputable def sWhile (c : Ev → R Bool) (F : Ev → Out) : Ev → Out := fun ρ => if h : ∃ n, whileO c F n ρ ≠ .bad then whileO c F (Classical.choose h) ρ else .bad
theorem whileO_mono {c : Ev → R Bool} {F : Ev → Out} : ∀ (n m : Nat) (ρ : Ev), n ≤ m → whileO c F n ρ ≠ .bad → whileO c F m ρ = whileO c F n ρ
  | 0, _, _, _, h => (h rfl).elim
  | n + 1, 0, _, h, _ => by omega
  | n + 1, m + 1, ρ, h, hb => by
    show liftE (c ρ) ρ _ = liftE (c ρ) ρ _
    have hb' : liftE (c ρ) ρ (fun b => if b then (match F ρ with
      | .nx ρ' => whileO c F n ρ'
      | .ct ρ' => whileO c F n ρ'
      | .bk ρ' => .nx ρ'
      | .rt r => .rt r
      | .rtB r ρ' => .rtB r ρ'
      | .ex x ρ' => .ex x ρ'
      | .bad => .bad) else .nx ρ) ≠ .bad := hb
    cases e : c ρ with
    | ex x => rfl
    | bad => rfl
    | ok b =>
      rw [e] at hb'
      cases b with
      | false => rfl
      | true =>
        show (match F ρ with
          | .nx ρ' => whileO c F m ρ'
          | .ct ρ' => whileO c F m ρ'
          | .bk ρ' => .nx ρ'
          | .rt r => .rt r
          | .rtB r ρ' => .rtB r ρ'
          | .ex x ρ' => .ex x ρ'
          | .bad => .bad) = (match F ρ with
          | .nx ρ' => whileO c F n ρ'
          | .ct ρ' => whileO c F n ρ'
          | .bk ρ' => .nx ρ'
          | .rt r => .rt r
          | .rtB r ρ' => .rtB r ρ'
          | .ex x ρ' => .ex x ρ'
          | .bad => .bad)
        have hb2 : (match F ρ with
          | .nx ρ' => whileO c F n ρ'
          | .ct ρ' => whileO c F n ρ'
          | .bk ρ' => .nx ρ'
          | .rt r => .rt r
          | .rtB r ρ' => .rtB r ρ'
          | .ex x ρ' => .ex x ρ'
          | .bad => .bad) ≠ .bad := hb'
        cases e2 : F ρ with
        | nx ρ' => rw [e2] at hb2; exact whileO_mono n m ρ' (by omega) hb2
        | ct ρ' => rw [e2] at hb2; exact whileO_mono n m ρ' (by omega) hb2
        | bk ρ' => rfl
        | rt r => rfl
        | rtB r ρ' => rfl
        | ex x ρ' => rfl
        | bad => rfl
theorem sWhile_eq {c : Ev → R Bool} {F : Ev → Out} {n : Nat} {ρ : Ev} {o : Out} (h : whileO c F n ρ = o) (ho : o ≠ .bad) : sWhile c F ρ = o := by
  have hex : ∃ n, whileO c F n ρ ≠ .bad := ⟨n, by rw [h]; exact ho⟩
  have e1 : sWhile c F ρ = whileO c F (Classical.choose hex) ρ := by unfold sWhile; rw [dif_pos hex]
  have e2 := Classical.choose_spec hex
  rw [e1]
  rcases Nat.le_total n (Classical.choose hex) with l | l
  · rw [whileO_mono _ _ _ l (by rw [h]; exact ho), h]
  · rw [← whileO_mono _ _ _ l e2, h]
section
variable {X : Cx} {W : WX} {tg iter c : Expr} {body : List Stmt} {pos : Pos} {fi : Ev → R (List D)} {ts : List Nat} {g : D → Ev → Option Ev} {F : Ev → Out} {fb : Ev → R Bool}
theorem vs_for (hp : PassesOwn (model X.prog X.w) X.A X.env X.xe) (hc : X.calm = true) (hi : VI X W tg iter fi) (hg : VG X tg ts g) (hb : VSs X W body F)
    (hs : ∀ x, foldedSetIterable iter X.env x = pure x := by intro _; rfl) : VS X W (.For tg iter body [] pos) (sFor fi g F) := by
  refine PS.imp (ps_for hp hc hi hg hb hs) fun En σ H ⟨S, G, Hs, ρ, r, h⟩ => ?_
  refine ⟨S, G, Hs, ρ, r, (lift_post r h).imp fun l Hs1 H1 e q J hJ => ?_⟩
  refine ⟨fun i m σ' H' => m = l.length - i ∧ i ≤ l.length ∧ ∃ Hs2 ρ2, Same Hs1 Hs2 ∧ RelE X.K S G Hs2 H' σ' ρ2 ∧ OutOk X.K X.mg W S G Hs2 En (forO (gTo g F) (l.drop i) ρ2),
    ⟨l.length, by simp, Nat.zero_le _, Hs1, ρ, .refl _, r.step e, q⟩, ?_⟩
  rintro i m σ' H' ⟨rfl, hi, Hs2, ρ2, g2, r2, q2⟩
  obtain ⟨j1, j2⟩ := hJ i Hs2 H' g2 r2.sub
  by_cases hl : i < l.length
  · obtain ⟨j1, j3⟩ := j1 l[i] (List.getElem?_eq_getElem hl)
    rw [List.drop_eq_getElem_cons hl] at q2
    refine .inr ⟨j1, fun σ3 H3 => ∃ Hs3 ρ3, Same Hs1 Hs3 ∧ RelE X.K S G Hs3 H3 σ3 ρ3 ∧ OutOk X.K X.mg W S G Hs3 En (forO (gTo g F) (l.drop (i + 1)) ρ3), fun σ3 H3 ⟨Hs3, ρ3, a1, a2, a3⟩ => ⟨_, (by omega : l.length - (i + 1) < l.length - i), rfl, hl, Hs3, ρ3, a1, a2, a3⟩, fun x H3 y => ?_⟩
    obtain ⟨Hs3, e3, d3⟩ := j3 x H3 y
    unfold forO gTo at q2
    cases z : g l[i] ρ2 with
    | none => rw [z] at q2; exact q2.elim
    | some ρ3 =>
      rw [z] at q2
      refine ⟨S, G, Hs3, ρ2, l[i], ρ3, r2.step e3, d3, z, fun σ4 _ _ r4 => ⟨S, G, Hs3, ρ3, r4, ?_⟩⟩
      have g3 := g2.trans e3.grow
      cases z2 : F ρ3 with
      | nx ρ' => simp only [z2] at q2; exact fun Hs' H' σ' a b => ⟨Hs', ρ', g3.trans a, b, q2.up (e3.grow.trans a)⟩
      | ct ρ' => simp only [z2] at q2; exact fun Hs' H' σ' a b => ⟨Hs', ρ', g3.trans a, b, q2.up (e3.grow.trans a)⟩
      | bk ρ' => simp only [z2] at q2; exact fun Hs' H' σ' a b => q2 Hs' H' σ' (e3.grow.trans a) b
      | rt r => simp only [z2] at q2; exact q2
      | rtB r ρ' => simp only [z2] at q2; exact OutOk.up (o := .rtB r ρ') q2 e3.grow
      | ex x ρ' => simp only [z2] at q2; exact fun Hs' H' σ' cls dd a => q2 Hs' H' σ' cls dd (e3.grow.trans a)
      | bad => simp only [z2] at q2; exact q2.elim
  · have e0 : i = l.length := by omega
    subst e0
    rw [List.drop_length] at q2
    exact .inl ⟨j2 (Nat.le_refl _), q2 Hs2 H' σ' (.refl _) r2⟩
end
end VL

set_option Elab.async false
set_option linter.all false
set_option maxRecDepth 100000
set_option autoImplicit false
namespace VL
open PySem PySem.Spec PyProof.Rows L2

/-! ### list comprehensions -/
abbrev WF : WX := fun _ _ _ _ => False
def wipeE (ρ : Ev) : List Nat → Ev
  | [] => ρ
  | v :: vs => (wipeE ρ vs).set v .no
theorem RelE.wipe {K : Fg} {S Hs H : Hp} {G : Gx} {σ : Sg} {ρ : Ev} (r : RelE K S G Hs H σ ρ) : ∀ vs : List Nat, RelE K S G Hs H (wipe σ vs) (wipeE ρ vs)
  | [] => r
  | v :: vs => (RelE.wipe r vs).setNo
theorem wipe_get {σ : Sg} {j : Nat} : ∀ {vs : List Nat}, j < σ.length → (wipe σ vs)[j]? = if j ∈ vs then some none else σ[j]?
  | [], h => by simp [L2.wipe]
  | v :: vs, h => by
    unfold L2.wipe
    by_cases e : v = j
    · subst e
      rw [List.getElem?_set_self (by rw [wipe_length]; exact h), if_pos List.mem_cons_self]
    · rw [List.getElem?_set_ne e, wipe_get h]
      by_cases m : j ∈ vs
      · rw [if_pos m, if_pos (List.mem_cons_of_mem _ m)]
      · rw [if_neg m, if_neg (by simp only [List.mem_cons, not_or]; exact ⟨fun z => e z.symm, m⟩)]
theorem wipe_same {σ σ' : Sg} {vs ts : List Nat} (hl : σ'.length = (wipe σ vs).length) (hj : ∀ j, j ∉ ts → σ'[j]? = (wipe σ vs)[j]?) (ht : ∀ t ∈ ts, t ∈ vs) : wipe σ' vs = wipe σ vs := by
  rw [wipe_length] at hl
  apply List.ext_getElem?
  intro j
  by_cases h : j < σ.length
  · rw [wipe_get h, wipe_get (by omega)]
    by_cases m : j ∈ vs
    · rw [if_pos m, if_pos m]
    · rw [if_neg m, if_neg m, hj j (fun z => m (ht j z)), wipe_get h, if_neg m]
  · rw [List.getElem?_eq_none (by rw [wipe_length]; omega), List.getElem?_eq_none (by rw [wipe_length]; omega)]

theorem Ext.updNew {Hs H Hs' H' : Hp} {p : Addr} {o : HO} (e : Ext Hs H Hs' H') (h0 : H p = none) (h1 : Hs' p = none) : Ext Hs H Hs' (upd H' p o) where
  sub := fun b u q => by rw [upd_ne (ne_of_none q h1)]; exact e.sub b u q
  same := fun b u q => by rw [upd_ne (ne_of_none q h0)]; exact e.same b u q
  grow := e.grow
  fresh := e.fresh
theorem Ext.hidden {Hs H Hs' H' : Hp} {p : Addr} {o : HO} (e : Ext Hs H Hs' H') (h0 : Hs p = none) (h1 : H p = some o) : Hs' p = none := by
  cases q : Hs' p with
  | none => rfl
  | some u =>
    have := e.fresh p u q h0
    rw [h1] at this; cases this

def compR (step : D → R (Option D)) : List D → R (List D)
  | [] => .ok []
  | d :: ds => (step d).bind fun o => (compR step ds).bind fun r => .ok (match o with | some y => y :: r | none => r)
def compS (vs : List Nat) (g : D → Ev → Option Ev) (ft : Ev → R Bool) (fe : Ev → R D) (ρ : Ev) : D → R (Option D) := fun d => match g d (wipeE ρ vs) with
  | some ρ' => (noex (ft ρ')).bind fun b => if b then (noex (fe ρ')).bind fun y => .ok (some y) else .ok none
  | none => .bad
def eComp (vs : List Nat) (fi : Ev → R (List D)) (g : D → Ev → Option Ev) (ft : Ev → R Bool) (fe : Ev → R D) : Ev → R (List D) := fun ρ => (fi ρ).bind fun l => if l.length ≤ sizeLine then compR (compS vs g ft fe ρ) l else .bad
def VTs (X : Cx) (W : WX) (ifs : List Expr) (f : Ev → R Bool) : Prop := PTs X ifs (tT X.K X.mg W f)
theorem PTs.imp {X : Cx} {ifs : List Expr} {t t' : TT} (h : PTs X ifs t) (i : ∀ σ H Q, t' σ H Q → t σ H Q) : PTs X ifs t' := ⟨fun pins s σ H Q I q => h.run pins s σ H Q I (i σ H Q q)⟩
section
variable {X : Cx} {W : WX} {c : Expr} {fb : Ev → R Bool}
theorem vts_nil : VTs X W [] (cst true) := PTs.imp pts_nil fun σ H Q ⟨S, G, Hs, ρ, r, p⟩ => p.now r.sub
end
theorem noex_ok {α : Type} (a : α) : noex (.ok a : R α) = .ok a := rfl
theorem noex_cases {α β : Type} {r : R α} {k : α → R β} {K : Fg} {mg : Str → Option Value} {W : WX} {Hs H : Hp} {σ : Sg} {P : β → Hp → Hp → Prop} (h : Post K mg W Hs H σ ((noex r).bind k) P) : ∃ a, r = .ok a := by
  cases r with
  | ok a => exact ⟨a, rfl⟩
  | ex x => exact h.elim
  | bad => exact h.elim
theorem bind_assoc {α β γ : Type} (r : R α) (f : α → R β) (g : β → R γ) : (r.bind f).bind g = r.bind fun a => (f a).bind g := by cases r <;> rfl

theorem sim_comp {K : Fg} {mg : Str → Option Value} {W : WX} {vs ts : List Nat} {fi : Ev → R (List D)} {g : D → Ev → Option Ev} {ft : Ev → R Bool} {fe : Ev → R D} (ht : ∀ t ∈ ts, t ∈ vs) :
    ∀ σ H Q, tO K mg W (eComp vs fi g ft fe) σ H Q → tLc (tIt K mg W fi) (tGt K ts g) (tT K mg WF ft) (tE K mg WF fe) vs σ H Q := fun σ H Q ⟨S, G, Hs, ρ, r, p⟩ => by
  refine ⟨S, G, Hs, ρ, r, (Post.bind p).imp fun l Hs1 H1 e1 q J hJ Dd hD => ?_⟩
  by_cases hz : l.length ≤ sizeLine
  case neg => rw [if_neg hz] at q; exact q.elim
  rw [if_pos hz] at q
  refine ⟨fun i m H' => m = l.length - i ∧ i ≤ l.length ∧ ∃ Hs2 acc ws, Ext Hs1 H1 Hs2 H' ∧ Hs2 Dd = none ∧ H' Dd = some (.lst ws) ∧ RpL K Hs2 acc ws ∧ acc.length ≤ i ∧
      Post K mg W Hs1 H1 σ ((compR (compS vs g ft fe ρ) (l.drop i)).bind fun r => .ok (acc ++ r)) (fun l Hs' H' => ∀ p vs, H p = none → Hs' p = none → H' p = some (.lst vs) → RpL K Hs' l vs → Q (.ref p) H'),
    ⟨l.length, by simp, Nat.zero_le _, Hs1, [], [], Ext.hid e1.sub hD, e1.sub.free hD, upd_same, .nil, Nat.le_refl _, ?_⟩, ?_⟩
  · rw [List.drop_zero]
    cases z : compR (compS vs g ft fe ρ) l with
    | ok a => rw [z] at q; exact q
    | ex x => rw [z] at q; exact q
    | bad => rw [z] at q; exact q
  · rintro i m H' ⟨rfl, hi, Hs2, acc, ws, e2, d1, d2, d3, d4, q2⟩
    obtain ⟨j1, j2⟩ := hJ i Hs2 H' e2.grow e2.sub
    by_cases hl : i < l.length
    · obtain ⟨j1, j3⟩ := j1 l[i] (List.getElem?_eq_getElem hl)
      rw [List.drop_eq_getElem_cons hl] at q2
      refine .inr ⟨j1, fun H3 => ∃ Hs2 acc ws, Ext Hs1 H1 Hs2 H3 ∧ Hs2 Dd = none ∧ H3 Dd = some (.lst ws) ∧ RpL K Hs2 acc ws ∧ acc.length ≤ i + 1 ∧
        Post K mg W Hs1 H1 σ ((compR (compS vs g ft fe ρ) (l.drop (i + 1))).bind fun r => .ok (acc ++ r)) (fun l Hs' H' => ∀ p vs, H p = none → Hs' p = none → H' p = some (.lst vs) → RpL K Hs' l vs → Q (.ref p) H'),
        fun H3 ⟨Hs3, acc', ws', a⟩ => ⟨_, (by omega : l.length - (i + 1) < l.length - i), rfl, hl, Hs3, acc', ws', a⟩, fun x H3 y => ?_⟩
      obtain ⟨Hs3, e3, h3⟩ := j3 x H3 y
      unfold compR at q2
      rw [bind_assoc] at q2
      unfold compS at q2
      cases z : g l[i] (wipeE ρ vs) with
      | none => simp only [z] at q2; exact q2.elim
      | some ρ' =>
        simp only [z] at q2
        rw [bind_assoc] at q2
        have r3 : RelE K S G Hs3 H3 (wipe σ vs) (wipeE ρ vs) := (((r.step e1).step e2).step e3).wipe vs
        refine ⟨S, G, Hs3, wipeE ρ vs, l[i], ρ', r3, h3, z, fun σ' s1 s2 r4 => ⟨wipe_same s1 s2 ht, S, G, Hs3, ρ', r4, ?_⟩⟩
        obtain ⟨b, z1⟩ := noex_cases q2
        rw [z1] at q2 ⊢
        intro Hs5 H5 e5
        cases b with
        | false =>
          simp only [Bool.false_eq_true, if_false]
          have e6 := (e2.trans e3).trans e5
          have k1 := (e3.trans e5).hidden d1 d2
          refine ⟨Hs5, acc, ws, e6, k1, e5.same _ _ (e3.same _ _ d2), (d3.mono e3.grow).mono e5.grow, by omega, ?_⟩
          simp only [noex, bind_ok, Bool.false_eq_true, if_false, bind_assoc] at q2
          exact q2
        | true =>
          simp only [if_true]
          have q3 := q2
          simp only [noex_ok, bind_ok, if_true, bind_assoc] at q3
          obtain ⟨y, z2⟩ := noex_cases q3
          refine ⟨S, G, Hs5, ρ', r4.step e5, ?_⟩
          rw [z2] at q3 ⊢
          intro Hs6 H6 e6 v hv
          have e7 := (e3.trans e5).trans e6
          have k1 := e7.hidden d1 d2
          have k2 := e7.same _ _ d2
          have k3 := d3.mono e7.grow
          refine ⟨ws, k2, by rw [← d3.length]; omega, Hs6, acc ++ [y], ws ++ [v], (e2.trans e7).updNew hD k1, k1, upd_same, k3.append (.cons hv .nil), by rw [List.length_append, List.length_singleton]; omega, ?_⟩
          simp only [noex_ok, bind_ok] at q3
          simp only [List.append_assoc, List.singleton_append]
          exact q3
    · have e0 : i = l.length := by omega
      subst e0
      rw [List.drop_length] at q2
      unfold compR at q2
      simp only [bind_ok, List.append_nil] at q2
      exact .inl ⟨j2 (Nat.le_refl _), q2 Hs2 H' e2 Dd ws (e1.same.free hD) d1 d2 d3⟩

section
variable {X : Cx} {W : WX} {elt tg iter : Expr} {ifs : List Expr} {scope : Scope} {own : List (Str × Nat)} {pos : Pos} {ts : List Nat} {fi : Ev → R (List D)} {g : D → Ev → Option Ev} {ft : Ev → R Bool} {fe : Ev → R D}
theorem vo_comp (hc : X.calm = true) (hN : X.N.Nodup) (hi : VI X W tg iter fi) (ok : BlkOk X.N X.env.scope scope own)
    (hg : ∀ (s : Shared) (H : Hp) (C : Addr) (cl : List (Str × Addr)) (fp : List Addr), VG (X.blk s H scope (compEnvC scope cl C X.env) fp) tg ts g)
    (ht : ∀ (s : Shared) (H : Hp) (C : Addr) (cl : List (Str × Addr)) (fp : List Addr), VTs (X.blk s H scope (compEnvC scope cl C X.env) fp) WF ifs ft)
    (he : ∀ (s : Shared) (H : Hp) (C : Addr) (cl : List (Str × Addr)) (fp : List Addr), VE (X.blk s H scope (compEnvC scope cl C X.env) fp) WF elt fe)
    (hts : ∀ t ∈ ts, t ∈ own.map (·.2) := by decide) (hs : ∀ x, foldedSetIterable iter X.env x = pure x := by intro _; rfl) :
    VO X W (.ListComp elt [⟨tg, iter, ifs, 0⟩] scope pos) (eComp (own.map (·.2)) fi g ft fe) := PE.imp (pe_lc (g := tGt X.K ts g) (tt := tT X.K X.mg WF ft) (te := tE X.K X.mg WF fe) hc hN hi ok hg ht he hs) (sim_comp hts)
theorem sim_asgO {f : Ev → R (List D)} {K : Fg} {mg : Str → Option Value} {i : Nat} {t : TE} (h : ∀ σ H Q, tO K mg W f σ H Q → t σ H Q) : ∀ En σ H, tS K mg W (sSetO i f) En σ H → tAsg t (gName i) En σ H := fun En σ H q => h σ H _ (sim_setO En σ H q)
theorem vs_compO {i : Nat} {y : Str} {py spos : Pos} (hc : X.calm = true) (hN : X.N.Nodup) (hy : X.N[i]? = some y) (hyl : X.env.scope.names.lookup y = some .local)
    (hsw : swapsWith (.ListComp elt [⟨tg, iter, ifs, 0⟩] scope pos) (some (.Name y py)) spos.line X.env = pure true) (hi : VI X W tg iter fi) (ok : BlkOk X.N X.env.scope scope own)
    (hg : ∀ (s : Shared) (H : Hp) (C : Addr) (cl : List (Str × Addr)) (fp : List Addr), VG (X.blk s H scope (compEnvC scope cl C X.env) fp) tg ts g)
    (ht : ∀ (s : Shared) (H : Hp) (C : Addr) (cl : List (Str × Addr)) (fp : List Addr), VTs (X.blk s H scope (compEnvC scope cl C X.env) fp) WF ifs ft)
    (he : ∀ (s : Shared) (H : Hp) (C : Addr) (cl : List (Str × Addr)) (fp : List Addr), VE (X.blk s H scope (compEnvC scope cl C X.env) fp) WF elt fe)
    (hts : ∀ t ∈ ts, t ∈ own.map (·.2) := by decide) (hs : ∀ x, foldedSetIterable iter X.env x = pure x := by intro _; rfl) :
    VS X W (.Assign [.Name y py] (.ListComp elt [⟨tg, iter, ifs, 0⟩] scope pos) spos) (sSetO i (eComp (own.map (·.2)) fi g ft fe)) := PS.imp (ps_setLc (g := tGt X.K ts g) (tt := tT X.K X.mg WF ft) (te := tE X.K X.mg WF fe) hc hN hy hyl hsw hi ok hg ht he hs) (sim_asgO (sim_comp hts))
end

/-! ### defs, calls -/
/-- the promise of a def that computes f -/
def spD (K : Fg) (mg : Str → Option Value) (n : Nat) (f : List D → R SD) : Sp := fun vs H Q E => vs.length = n ∧ ∃ Hs ds, SubT K Hs H ∧ RpL K Hs ds vs ∧ (match f ds with
  | .ok r => ∀ Hs' H' v, Ext Hs H Hs' H' → RpO K H Hs' H' r v → Q v H'
  | .ex x => ∀ Hs' H' cls dd, Ext Hs H Hs' H' → XRp K mg Hs' x cls dd → E cls dd H'
  | .bad => False)
def startE (n : Nat) (ds : List D) : Ev := ds.map .sh ++ List.replicate (n - ds.length) .no
def runD (np n : Nat) (F : Ev → Out) : List D → R SD := fun ds => if ds.length = np then match F (startE n ds) with
  | .nx _ => .ok (.sh .none)
  | .rt r => .ok r
  | .ex x _ => .ex x
  | _ => .bad
  else .bad
theorem startE_rel {K : Fg} {N : List Str} {Hs H : Hp} {ds : List D} {vs : List V} (hl : vs.length ≤ N.length) (hs : SubT K Hs H) (r : RpL K Hs ds vs) : RelE K Hs ⟨H, fun _ => none⟩ Hs H (L2.start N vs) (startE N.length ds) where
  sub := hs.sub
  old := .refl _
  ext := ⟨.refl _, hs.tab⟩
  new := fun p o a b => by rw [a] at b; cases b
  len := by
    have := r.length
    simp [L2.start, startE, this]
  slot := fun i s hi => by
    unfold startE at hi
    have hl2 := r.length
    by_cases h : i < ds.length
    · rw [List.getElem?_append_left (by simpa using h), List.getElem?_map] at hi
      obtain ⟨d, e1, rfl⟩ := Option.map_eq_some_iff.mp hi
      obtain ⟨v, e2, e3⟩ := r.get e1
      refine ⟨v, ?_, e3⟩
      unfold L2.start
      rw [List.getElem?_append_left (by simp; omega), List.getElem?_map, e2]
      rfl
    · rw [List.getElem?_append_right (by simpa using h), List.getElem?_replicate] at hi
      split at hi
      · cases hi; trivial
      · cases hi
  dis := fun i j l m p a b _ _ => by
    exfalso
    unfold startE at a
    by_cases h : i < ds.length
    · rw [List.getElem?_append_left (by simpa using h), List.getElem?_map] at a
      obtain ⟨d, e1, e2⟩ := Option.map_eq_some_iff.mp a
      cases e2
    · rw [List.getElem?_append_right (by simpa using h), List.getElem?_replicate] at a
      split at a <;> cases a
  bor := fun _ p hp => by cases hp
  one := fun _ _ _ hp => by cases hp
section
variable {P : Program} {w : World} {K : Fg} {mg : Str → Option Value} {base : Heap}
theorem FnScope.le {N ps : List Str} {sc : Scope} (S : FnScope N ps sc) : ps.length ≤ N.length := by
  have h := congrArg List.length S.pre
  rw [List.length_take] at h
  omega
/-- a promise kept where no guard stands around -/
structure FnG (P : Program) (w : World) (K : Fg) (mg : Str → Option Value) (base : Heap) (k : Nat) (f : Addr) (fd : FuncData) (ps : List Str) (sp : Sp) : Prop where
  len : ∀ vs H Q E, sp vs H Q E → vs.length = ps.length
  run : ∀ (A : Around) (outer : List Env) (s : Shared) (H : Hp) (args : Args) (us : List Value) (vs : List V) (Q : VK) (E : XK), Room k A → A.guards = some [] → Env0 P w K mg base A outer s H → BindsTo s fd args (ps.zip us) → Vals vs us → sp vs H Q E →
    codeAny (model P w) A (.call (.ref f) args) (CR (L2N.CX P w) outer P w H s Q E) s
theorem fn_ofG {k : Nat} {f : Addr} {name qual : Str} {params : Arguments} {body : List Stmt} {scope : Scope} {dV kV doc pm cdv ct oc : Value} {an od : Option Addr}
    {osl : Array (Option Value)} {N ps : List Str} {sp : Sp} (lk : K.lookup f = some ⟨oc, od, .func (PySem.W.fnOf name qual params body scope dV kV doc pm an cdv ct), osl⟩) (hcd : PySem.W.codeIn K cdv qual = true) (S : FnScope N ps scope)
    (len : ∀ vs H Q E, sp vs H Q E → vs.length = ps.length)
    (hbody : ∀ (A : Around) (outer : List Env) (s : Shared) (H : Hp) (vs : List V) (Q : VK) (E : XK), Room k (A.deeper (envOfC qual scope s.heap.objs.size f cdv)) → A.guards = some [] → sp vs H Q E →
      ∃ t, PSs (cxOf (L2N.CX P w) P w K mg base N qual scope f cdv A outer s H E) body t ∧ t { nx := fun _ H' => Q .non H', rt := Q } (L2.start N vs) H) :
    FnG P w K mg base (k + 1) f (PySem.W.fnOf name qual params body scope dV kV doc pm an cdv ct) ps sp := by
  refine ⟨len, fun A outer s H args us vs Q E hr hgd e0 hb r hsp => ?_⟩
  have hl := len _ _ _ _ hsp
  have KX : K.In s.heap := e0.mod.kin.keeps fun b o e => (e0.bs b o e).1
  have lim : s.heap.NoLimit := e0.mod.nolimit.keeps fun b o e => (e0.bs b o e).1
  have hkind : ∀ y ∈ ps.zip us, scope.names.lookup y.1 = some .local ∨ (scope.names.lookup y.1 = some .cell ∧ ((cellsFrom (s.heap.objs.size + 1) scope.names []).lookup y.1).isSome = true) := fun ⟨n, v⟩ hy => by
    rcases S.par n (List.of_mem_zip hy).1 with q | q
    · exact .inl q
    · exact .inr ⟨q, PySem.W.cellsFrom_some _ _ _ (.inl q)⟩
  refine codeAny_call_function hr.depth (KX _ _ lk) rfl S.co S.gen rfl (PySem.W.codeRec_of KX hcd) (hb _ _ _ _ ?_)
  refine wpAny_newFunctionEnv_cells S.kind hkind fun env he s1 x => ?_
  subst he
  refine ⟨lim.keeps x.toInCall.keep, codeAny_func ?_⟩
  obtain ⟨t, ht, hq⟩ := hbody A outer s H vs Q E (hr.deeper _) hgd hsp
  have I : Inv (cxOf (L2N.CX P w) P w K mg base N qual scope f cdv A outer s H E) [] (L2.start N vs) H s1 := inv_start S hr.hd e0 hl r x
  refine wpAny_mono (ht.run [] s1 (L2.start N vs) H _ I hq) (fun fl s' hs => ?_) fun e s' hs => hs
  have fin : ∀ {σ' : Sg} {H' : Hp} {v : V} {u : Value}, Inv (cxOf (L2N.CX P w) P w K mg base N qual scope f cdv A outer s H E) [] σ' H' s' → RelV v u → Q v H' → CE outer P w H s Q u s' :=
    fun {σ' H' v u} J rv q => ⟨v, H', J.os, J.bare, J.base, J.hok, rv, q⟩
  cases fl with
  | ret u =>
    obtain ⟨v, σ', H', J, rv, q⟩ := hs
    exact fin J rv q
  | next =>
    obtain ⟨σ', H', J, q⟩ := hs
    exact fin (v := V.non) (u := Value.none) J rfl q
  | brk =>
    obtain ⟨_, _, _, q⟩ := hs
    exact False.elim q
  | cont =>
    obtain ⟨_, _, _, q⟩ := hs
    exact False.elim q
theorem FnG.imp {k : Nat} {f : Addr} {fd : FuncData} {ps : List Str} {sp sp' : Sp} (F : FnG P w K mg base k f fd ps sp) (h : ∀ vs H Q E, sp' vs H Q E → sp vs H Q E) : FnG P w K mg base k f fd ps sp' :=
  ⟨fun vs H Q E q => F.len vs H Q E (h _ _ _ _ q), fun A outer s H args us vs Q E hr hg he hb hv hs => F.run A outer s H args us vs Q E hr hg he hb hv (h _ _ _ _ hs)⟩
theorem FnG.mono {j k : Nat} {f : Addr} {fd : FuncData} {ps : List Str} {sp : Sp} (F : FnG P w K mg base j f fd ps sp) (h : j ≤ k) : FnG P w K mg base k f fd ps sp :=
  ⟨F.len, fun A outer s H args us vs Q E hr => F.run A outer s H args us vs Q E (hr.mono h)⟩
/-- a def that computes m on data -/
structure DOk (P : Program) (w : World) (K : Fg) (mg : Str → Option Value) (base : Heap) (k : Nat) (f : Addr) (fd : FuncData) (ps : List Str) (m : List D → R SD) : Prop where
  fn : FnG P w K mg base k f fd ps (spD K mg ps.length m)
  ar : ∀ ds, m ds ≠ .bad → ds.length = ps.length
/-- the room, the guards, what takes an exception, what passes -/
structure Inn (X : Cx) (W : WX) (k : Nat) : Prop where
  hr : Room k X.A
  gd : X.A.guards = some []
  tk : L2N.Takes X W
  hp : PassesOwn (model X.prog X.w) X.A X.env X.xe
/-- THE RULE for a def -/
theorem def_okV {x qual : Str} {st : Stmt} {f : Addr} {oc kV doc pm cdv ct : Value} {od an : Option Addr} {osl : Array (Option Value)} {N ps : List Str} {k : Nat} {F : Ev → Out}
    (lk : K.lookup f = some ⟨oc, od, .func (PySem.W.fnOf x qual (defArgs st) (defBody st) (defScope st) .none kV doc pm an cdv ct), osl⟩) (hcd : PySem.W.codeIn K cdv qual = true) (S : FnScope N ps (defScope st))
    (body : ∀ (A : Around) (outer : List Env) (s : Shared) (H : Hp) (E : XK), Inn (cxOf (L2N.CX P w) P w K mg base N qual (defScope st) f cdv A outer s H E) (fun cls d _ H => E cls d H) k →
      VSs (cxOf (L2N.CX P w) P w K mg base N qual (defScope st) f cdv A outer s H E) (fun cls d _ H => E cls d H) (defBody st) F) :
    DOk P w K mg base (k + 1) f (PySem.W.fnOf x qual (defArgs st) (defBody st) (defScope st) .none kV doc pm an cdv ct) ps (runD ps.length N.length F) := by
  refine ⟨?_, fun ds h => ?_⟩
  · refine fn_ofG lk hcd S (fun vs H Q E h => h.1) fun A outer s H vs Q E hr hgd h => ⟨_, body A outer s H E ⟨hr, hgd, L2N.takes_of rfl rfl rfl rfl, passes_of rfl⟩, ?_⟩
    obtain ⟨hl, Hs, ds, hs, hds, h⟩ := h
    refine ⟨Hs, ⟨H, fun _ => none⟩, Hs, _, startE_rel (by rw [hl]; exact VL.FnScope.le S) hs hds, ?_⟩
    unfold runD at h
    rw [if_pos (hds.length.trans hl)] at h
    show OutOk K mg (fun cls d _ H => E cls d H) Hs ⟨H, fun _ => none⟩ Hs _ (F (startE N.length ds))
    cases z : F (startE N.length ds) with
    | nx ρ =>
      rw [z] at h
      exact fun Hs' H' σ' g r => h Hs' H' .non r.ext' .non
    | rt r =>
      rw [z] at h
      exact fun Hs' H' v e hv => h Hs' H' v e hv
    | ex x ρ =>
      rw [z] at h
      exact fun Hs' H' σ' cls dd g r hx => h Hs' H' cls dd r.ext' hx
    | rtB r ρ => rw [z] at h; exact h.elim
    | bk ρ => rw [z] at h; exact h.elim
    | ct ρ => rw [z] at h; exact h.elim
    | bad => rw [z] at h; exact h.elim
  · unfold runD at h
    split at h
    · assumption
    · exact (h rfl).elim
theorem def_ok {x qual : Str} {st : Stmt} {f : Addr} {fd : FuncData} {N ps : List Str} {k : Nat} {F : Ev → Out} (Fn : Fun K x qual st f fd) (S : FnScope N ps (defScope st))
    (body : ∀ (cdv : Value) (A : Around) (outer : List Env) (s : Shared) (H : Hp) (E : XK), Inn (cxOf (L2N.CX P w) P w K mg base N qual (defScope st) f cdv A outer s H E) (fun cls d _ H => E cls d H) k →
      VSs (cxOf (L2N.CX P w) P w K mg base N qual (defScope st) f cdv A outer s H E) (fun cls d _ H => E cls d H) (defBody st) F) :
    DOk P w K mg base (k + 1) f fd ps (runD ps.length N.length F) := by
  obtain ⟨oc, od, kV, doc, pm, an, cdv, ct, osl, rfl, lk, hcd⟩ := Fn.ex
  exact def_okV lk hcd S fun A outer s H E I => body cdv A outer s H E I
theorem DOk.mono {j k : Nat} {f : Addr} {fd : FuncData} {ps : List Str} {m : List D → R SD} (F : DOk P w K mg base j f fd ps m) (h : j ≤ k) : DOk P w K mg base k f fd ps m := ⟨F.fn.mono h, F.ar⟩
end
section
variable {X : Cx} {k : Nat} {f : Addr} {fd : FuncData} {ps : List Str} {sp : Sp} {E : Sg → XK} {x : Str} {p pos : Pos} {e : Expr} {es : List Expr} {t : TA}
theorem run_fnG {pins : List (Addr × Obj)} {σ : Sg} {H : Hp} {s : Shared} {Q : VK} {us : List Value} {vs : List V} (F : FnG X.prog X.w X.K X.mg X.base k f fd ps sp) (hr : Room k X.A) (hgd : X.A.guards = some []) (hb : Binds X.K fd ps []) (hx : PassesAt (L2N.CX X.prog X.w) X σ (E σ))
    (I : Inv X pins σ H s) (r : Vals vs us) (h : sp vs H Q (E σ)) : wpAny (model X.prog X.w) X.A (call (.ref f) us) (EP X pins σ Q) X.xe s := by
  have hl : us.length = ps.length := by rw [← r.length]; exact F.len _ _ _ _ h
  have b := hb s us I.kIn (by rw [List.append_nil]; exact hl)
  rw [List.append_nil] at b
  refine wpAny_call (codeAny_mono (F.run X.A X.stack s H ⟨us, []⟩ us vs Q (E σ) hr hgd I.env0 b r h) fun r s' hq => ?_)
  cases r with
  | error e => exact hx pins H s e s' I hq
  | ok fl =>
    cases fl with
    | ret u => exact I.after hq
    | next => exact False.elim hq
    | brk => exact False.elim hq
    | cont => exact False.elim hq
theorem pe_callG (F : FnG X.prog X.w X.K X.mg X.base k f fd ps sp) (hr : Room k X.A) (hgd : X.A.guards = some []) (hg : Gl X x) (hm : X.mg x = some (.ref f)) (hk : PySem.W.keepIn X.K (.ref f) = true) (hb : Binds X.K fd ps []) (hx : ∀ σ, PassesAt (L2N.CX X.prog X.w) X σ (E σ))
    (ha : PA X (e :: es) t) (hdb : (x == ("__debug__" : Str)) = false := by decide) (he : starEach (e :: es) X.env = (false, eval e X.env) :: starEach es X.env := by rfl) (hpl : (backTo pos (starEach es X.env)).any (·.1) = false := by rfl) :
    PE X (.Call (.Name x p) (e :: es) [] pos) (tCallS sp E t) := by
  refine ⟨fun pins s σ H Q I h => ?_⟩
  refine wpAny_Call_Name_kw (ld_glob I hg hm ?_ hdb)
  refine PySem.W.callWith_K (h₀ := X.base) I.ok.mod.kin hk (thn (ha.run pos pins s σ H _ I h) fun us s1 ⟨vs, H1, I1, r, q⟩ => ⟨I1.kIn, ?_⟩) he hpl
  exact run_fnG F hr hgd hb (hx σ) I1 r q
end
/-- what a call gives: shared data -/
def toD : SD → Option D
  | .sh d => some d
  | .ow l => some (.list l)
  | _ => none
def toL : SD → Option (List D)
  | .ow l => some l
  | _ => none
def eCall (m : List D → R SD) (fl : Ev → R (List D)) : Ev → R D := fun ρ => (fl ρ).bind fun ds => (m ds).bind fun s => ofO (toD s)
def eCallO (m : List D → R SD) (fl : Ev → R (List D)) : Ev → R (List D) := fun ρ => (fl ρ).bind fun ds => (m ds).bind fun s => ofO (toL s)
section
variable {X : Cx} {W : WX} {e : Expr} {es : List Expr} {pos p : Pos} {x : Str} {fl : Ev → R (List D)} {k n : Nat} {f : Addr} {fd : FuncData} {ps : List Str} {m : List D → R SD}
theorem sim_call {K : Fg} {mg : Str → Option Value} {n : Nat} (vn : ∀ (ds : List D), m ds ≠ .bad → ds.length = n) : ∀ σ H Q, tE K mg W (eCall m fl) σ H Q → tCallS (spD K mg n m) (WE W) (tA K mg W fl) σ H Q := fun σ H Q ⟨S, G, Hs, ρ, r, p⟩ => by
  refine ⟨S, G, Hs, ρ, r, (Post.bind p).imp fun ds Hs1 H1 e q vs hv => ?_⟩
  have nb : m ds ≠ .bad := fun z => by rw [z] at q; exact q
  refine ⟨by rw [← hv.length]; exact vn ds nb, Hs1, ds, r.st e, hv, ?_⟩
  cases z : m ds with
  | bad => exact nb z
  | ex x => rw [z] at q; exact q
  | ok s =>
    rw [z] at q
    intro Hs' H' v e' hr
    cases s with
    | no => exact q.elim
    | bo l => exact q.elim
    | sh d => exact q Hs' H' e' v hr
    | ow l =>
      obtain ⟨p, us, rfl, h0, h1, h2, h3⟩ := hr
      have g : Same Hs' (upd Hs' p (.lst us)) := fun b u z => by rw [upd_ne (ne_of_none z h1)]; exact z
      exact q _ _ (e'.frz h0 h2 h1) _ (.lst (.inl (.inl upd_same)) (h3.mono g))
theorem sim_callO {K : Fg} {mg : Str → Option Value} {n : Nat} (vn : ∀ (ds : List D), m ds ≠ .bad → ds.length = n) : ∀ σ H Q, tO K mg W (eCallO m fl) σ H Q → tCallS (spD K mg n m) (WE W) (tA K mg W fl) σ H Q := fun σ H Q ⟨S, G, Hs, ρ, r, p⟩ => by
  refine ⟨S, G, Hs, ρ, r, (Post.bind p).imp fun ds Hs1 H1 e q vs hv => ?_⟩
  have nb : m ds ≠ .bad := fun z => by rw [z] at q; exact q
  refine ⟨by rw [← hv.length]; exact vn ds nb, Hs1, ds, r.st e, hv, ?_⟩
  cases z : m ds with
  | bad => exact nb z
  | ex x => rw [z] at q; exact q
  | ok s =>
    rw [z] at q
    intro Hs' H' v e' hr
    cases s with
    | no => exact q.elim
    | bo l => exact q.elim
    | sh d => exact q.elim
    | ow l =>
      obtain ⟨p, us, rfl, h0, h1, h2, h3⟩ := hr
      exact q _ _ e' p us (e.same.free h0) h1 h2 h3
theorem v_call (F : DOk X.prog X.w X.K X.mg X.base k f fd ps m) (hr : Room k X.A) (hgd : X.A.guards = some []) (hg : Gl X x) (hm : X.mg x = some (.ref f)) (hk : PySem.W.keepIn X.K (.ref f) = true) (hb : Binds X.K fd ps []) (tk : L2N.Takes X W)
    (ha : VA X W (e :: es) fl) (hdb : (x == ("__debug__" : Str)) = false := by decide) (he : starEach (e :: es) X.env = (false, eval e X.env) :: starEach es X.env := by rfl) (hpl : (backTo pos (starEach es X.env)).any (·.1) = false := by rfl) :
    VE X W (.Call (.Name x p) (e :: es) [] pos) (eCall m fl) := PE.imp (pe_callG F.fn hr hgd hg hm hk hb (L2N.passAt tk) ha hdb he hpl) (sim_call F.ar)
theorem v_callO (F : DOk X.prog X.w X.K X.mg X.base k f fd ps m) (hr : Room k X.A) (hgd : X.A.guards = some []) (hg : Gl X x) (hm : X.mg x = some (.ref f)) (hk : PySem.W.keepIn X.K (.ref f) = true) (hb : Binds X.K fd ps []) (tk : L2N.Takes X W)
    (ha : VA X W (e :: es) fl) (hdb : (x == ("__debug__" : Str)) = false := by decide) (he : starEach (e :: es) X.env = (false, eval e X.env) :: starEach es X.env := by rfl) (hpl : (backTo pos (starEach es X.env)).any (·.1) = false := by rfl) :
    VO X W (.Call (.Name x p) (e :: es) [] pos) (eCallO m fl) := PE.imp (pe_callG F.fn hr hgd hg hm hk hb (L2N.passAt tk) ha hdb he hpl) (sim_callO F.ar)
/-- a constant of the module's top -/
theorem v_glob {u : Value} {d : D} (hg : Gl X x) (hm : X.mg x = some u) (v : V) (r : RelV v u) (hd : ∀ H, Rp X.K H d v) (hdb : (x == ("__debug__" : Str)) = false := by decide) : VE X W (.Name x pos) (cst d) :=
  PE.imp (pe_glob hg hm r hdb) fun σ H Q ⟨S, G, Hs, ρ, r, p⟩ => p.now r.sub v (hd _)
end
end VL

set_option Elab.async false
set_option linter.all false
set_option maxRecDepth 100000
set_option autoImplicit false
namespace VL
open PySem PySem.Spec PyProof.Rows L2

/-! ### and, or, not as values; chains -/
def eAndV (f g : Ev → R D) : Ev → R D := fun ρ => (f ρ).bind fun x => (ofO (truD x)).bind fun k => if k then g ρ else .ok x
def eOrV (f g : Ev → R D) : Ev → R D := fun ρ => (f ρ).bind fun x => (ofO (truD x)).bind fun k => if k then .ok x else g ρ
def notD (x : D) : Option D := (truD x).map fun k => .bool (!k)
def eChain (F F' : D → D → Option D) (f g h : Ev → R D) : Ev → R D := fun ρ => (f ρ).bind fun x => (g ρ).bind fun y => (ofO (F x y)).bind fun r => (ofO (bOf r)).bind fun b => if b then (h ρ).bind fun z => ofO (F' y z) else .ok (.bool false)
section
variable {X : Cx} {W : WX} {a b c e : Expr} {rest : List Expr} {pos : Pos} {f g h : Ev → R D} {F F' : D → D → Option D}
theorem v_and1 (ha : VE X W a f) : VE X W (.BoolOp .And [a] pos) f := pe_one ha
theorem v_or1 (ha : VE X W a f) : VE X W (.BoolOp .Or [a] pos) f := pe_one ha
theorem v_and (ha : VE X W a f) (hb : VE X W (.BoolOp .And (b :: rest) pos) g) : VE X W (.BoolOp .And (a :: b :: rest) pos) (eAndV f g) := PE.imp (pe_andT ha hb) fun σ H Q ⟨S, G, Hs, ρ, r, p⟩ => by
  refine ⟨S, G, Hs, ρ, r, (Post.bind p).imp fun x Hs1 H1 e q v hv => ?_⟩
  cases z : truD x with
  | none => rw [z] at q; exact q.elim
  | some k =>
    rw [z] at q
    refine ⟨k, truV_of e.sub (.inl hv) z, ?_⟩
    cases k with
    | true => exact ⟨S, G, Hs1, ρ, r.step e, q⟩
    | false => exact q.now e.sub v hv
theorem v_or (ha : VE X W a f) (hb : VE X W (.BoolOp .Or (b :: rest) pos) g) : VE X W (.BoolOp .Or (a :: b :: rest) pos) (eOrV f g) := PE.imp (pe_orT ha hb) fun σ H Q ⟨S, G, Hs, ρ, r, p⟩ => by
  refine ⟨S, G, Hs, ρ, r, (Post.bind p).imp fun x Hs1 H1 e q v hv => ?_⟩
  cases z : truD x with
  | none => rw [z] at q; exact q.elim
  | some k =>
    rw [z] at q
    refine ⟨k, truV_of e.sub (.inl hv) z, ?_⟩
    cases k with
    | false => exact ⟨S, G, Hs1, ρ, r.step e, q⟩
    | true => exact q.now e.sub v hv
theorem v_not (ha : VP X W a f) : VE X W (.UnaryOp .Not a pos) (e1 notD f) := PE.imp (pe_notT ha) fun σ H Q ⟨S, G, Hs, ρ, r, p⟩ => by
  refine ⟨S, G, Hs, ρ, r, (Post.bind p).imp fun x Hs1 H1 e q v hv => ?_⟩
  unfold notD at q
  cases z : truD x with
  | none => rw [z] at q; exact q.elim
  | some k =>
    rw [z] at q
    exact ⟨k, truV_of e.sub hv z, q.now e.sub _ (.bl _)⟩
theorem sim_chain {K : Fg} {mg : Str → Option Value} {r r' : R2} (hd : OpD K r F) (hd' : OpD K r' F') : ∀ σ H Q, tE K mg W (eChain F F' f g h) σ H Q → tChain r r' (tPk K mg W f) (tPk K mg W g) (tPk K mg W h) σ H Q := fun σ H Q ⟨S, G, Hs, ρ, r, p⟩ => by
  refine ⟨S, G, Hs, ρ, r, (Post.bind p).imp fun x Hs1 H1 e q u hu => ?_⟩
  refine ⟨S, G, Hs1, ρ, r.step e, (Post.bind q).imp fun y Hs2 H2 e' q' v hv => ?_⟩
  cases z : F x y with
  | none => rw [z] at q'; exact q'.elim
  | some d =>
    rw [z] at q'
    cases d with
    | bool k =>
      refine hd Hs2 H2 x y u v _ _ e'.sub z (hu.up e') hv fun Hs3 H3 w e3 hw => ?_
      cases hw
      refine ⟨k, rfl, ?_⟩
      have r3 := ((r.step e).step e').step e3
      have q3 := Post.up e3 q'
      cases k with
      | false => exact q3.now e3.sub _ (.bl _)
      | true =>
        have q5 : Post K mg W Hs3 H3 σ ((h ρ).bind fun z => ofO (F' y z)) (fun d Hs' H' => ∀ v, Rp K Hs' d v → Q v H') := q3
        refine ⟨S, G, Hs3, ρ, r3, (Post.bind q5).imp fun t Hs4 H4 e4 q4 w hw => ?_⟩
        cases z2 : F' y t with
        | none => rw [z2] at q4; exact q4.elim
        | some d =>
          rw [z2] at q4
          exact hd' Hs4 H4 y t v w Q d e4.sub z2 ((hv.up e3).up e4) hw fun Hs' H' w e'' hw => q4 Hs' H' e'' w hw
    | none => exact q'.elim
    | int _ => exact q'.elim
    | str _ => exact q'.elim
    | list _ => exact q'.elim
    | tuple _ => exact q'.elim
    | dict _ => exact q'.elim
theorem t_chain {op op' : CmpOp} (ho : DOp X (compareOp op) F) (ho' : DOp X (compareOp op') F') (ha : VP X W a f) (hb : VP X W b g) (hc : VP X W c h) (hm : lastMarks [op, op'] [b, c] = false := by with_unfolding_all rfl) :
    VT X W (.Compare a [op, op'] [b, c] pos) (e1 bOf (eChain F F' f g h)) := by
  obtain ⟨_, h1, h2⟩ := ho
  obtain ⟨_, h3, h4⟩ := ho'
  refine PT.imp (pt_chain h1 h3 ha hb hc hm) fun σ H Q ⟨S, G, Hs, ρ, r, p⟩ => ?_
  refine sim_chain h2 h4 σ H _ ⟨S, G, Hs, ρ, r, (Post.bind p).imp fun x Hs1 H1 e q v hv => ?_⟩
  cases x with
  | bool k => cases hv; exact ⟨k, rfl, q.now e.sub⟩
  | none => exact q.elim
  | int _ => exact q.elim
  | str _ => exact q.elim
  | list _ => exact q.elim
  | tuple _ => exact q.elim
  | dict _ => exact q.elim
end

/-! ### a def of the text, as a callee sees it -/
structure Cl (P : Program) (w : World) (K : Fg) (mg : Str → Option Value) (base : Heap) (k : Nat) (x : Str) (ps : List Str) (m : List D → R SD) : Prop where
  ex : ∃ f fd, DOk P w K mg base k f fd ps m ∧ mg x = some (.ref f) ∧ PySem.W.keepIn K (.ref f) = true ∧ Binds K fd ps []
/-- where it stands -/
structure Df (K : Fg) (mg : Str → Option Value) (x : Str) (st : Stmt) (ps : List Str) : Prop where
  ex : ∃ f fd, Fun K x x st f fd ∧ mg x = some (.ref f) ∧ Binds K fd ps []
section
variable {P : Program} {w : World} {K : Fg} {mg : Str → Option Value} {base : Heap}
theorem Cl.mono {j k : Nat} {x : Str} {ps : List Str} {m : List D → R SD} (F : Cl P w K mg base j x ps m) (h : j ≤ k) : Cl P w K mg base k x ps m :=
  let ⟨f, fd, d, r⟩ := F.ex; ⟨f, fd, d.mono h, r⟩
theorem cl_ok {x : Str} {st : Stmt} {N ps : List Str} {k : Nat} {F : Ev → Out} (Fn : Df K mg x st ps) (S : FnScope N ps (defScope st))
    (body : ∀ (f : Addr) (cdv : Value) (A : Around) (outer : List Env) (s : Shared) (H : Hp) (E : XK), Inn (cxOf (L2N.CX P w) P w K mg base N x (defScope st) f cdv A outer s H E) (fun cls d _ H => E cls d H) k →
      VSs (cxOf (L2N.CX P w) P w K mg base N x (defScope st) f cdv A outer s H E) (fun cls d _ H => E cls d H) (defBody st) F) :
    Cl P w K mg base (k + 1) x ps (runD ps.length N.length F) := by
  obtain ⟨f, fd, h1, h2, h3⟩ := Fn.ex
  exact ⟨f, fd, def_ok h1 S fun cdv A outer s H E I => body f cdv A outer s H E I, h2, h1.kp, h3⟩
end
section
variable {X : Cx} {W : WX} {e : Expr} {es : List Expr} {pos p : Pos} {x : Str} {fl : Ev → R (List D)} {k j : Nat} {ps : List Str} {m : List D → R SD}
theorem v_calC (C : Cl X.prog X.w X.K X.mg X.base k x ps m) (hr : Room j X.A) (hgd : X.A.guards = some []) (tk : L2N.Takes X W) (ha : VA X W (e :: es) fl) (hg : Gl X x := by rfl) (hj : k ≤ j := by decide)
    (hdb : (x == ("__debug__" : Str)) = false := by decide) (he : starEach (e :: es) X.env = (false, eval e X.env) :: starEach es X.env := by rfl) (hpl : (backTo pos (starEach es X.env)).any (·.1) = false := by rfl) :
    VE X W (.Call (.Name x p) (e :: es) [] pos) (eCall m fl) := by
  obtain ⟨f, fd, h1, h2, h3, h4⟩ := C.ex
  exact v_call h1 (hr.mono hj) hgd hg h2 h3 h4 tk ha hdb he hpl
theorem v_calCO (C : Cl X.prog X.w X.K X.mg X.base k x ps m) (hr : Room j X.A) (hgd : X.A.guards = some []) (tk : L2N.Takes X W) (ha : VA X W (e :: es) fl) (hg : Gl X x := by rfl) (hj : k ≤ j := by decide)
    (hdb : (x == ("__debug__" : Str)) = false := by decide) (he : starEach (e :: es) X.env = (false, eval e X.env) :: starEach es X.env := by rfl) (hpl : (backTo pos (starEach es X.env)).any (·.1) = false := by rfl) :
    VO X W (.Call (.Name x p) (e :: es) [] pos) (eCallO m fl) := by
  obtain ⟨f, fd, h1, h2, h3, h4⟩ := C.ex
  exact v_callO h1 (hr.mono hj) hgd hg h2 h3 h4 tk ha hdb he hpl
end
end VL

set_option Elab.async false
set_option linter.all false
set_option maxRecDepth 100000
set_option autoImplicit false
namespace VL
open PySem PySem.Spec PyProof.Rows L2

theorem b_len : bootBuiltins "len" = some (.builtin "len") := by decide +kernel
theorem b_max : bootBuiltins "max" = some (.builtin "max") := by decide +kernel
theorem b_all : bootBuiltins "all" = some (.builtin "all") := by decide +kernel
theorem b_isinstance : bootBuiltins "isinstance" = some (.builtin "isinstance") := by decide +kernel
theorem b_int : bootBuiltins "int" = some (.type "int") := by decide +kernel
theorem b_bool : bootBuiltins "bool" = some (.type "bool") := by decide +kernel
theorem b_str : bootBuiltins "str" = some (.type "str") := by decide +kernel
theorem b_list : bootBuiltins "list" = some (.type "list") := by decide +kernel
theorem u65 {k : Nat} {A : Around} (r : Room k A) : A.units + 65 < cLine := by have := r.un; omega
/-! ### constants of the top -/
structure Gc (K : Fg) (mg : Str → Option Value) (x : Str) (d : D) : Prop where
  ex : ∃ u v, mg x = some u ∧ RelV v u ∧ ∀ H, Rp K H d v
section
variable {X : Cx} {W : WX} {x : Str} {d : D} {pos : Pos}
theorem v_gl (G : Gc X.K X.mg x d) (hg : Gl X x := by rfl) (hdb : (x == ("__debug__" : Str)) = false := by decide) : VE X W (.Name x pos) (cst d) := by
  obtain ⟨u, v, h1, h2, h3⟩ := G.ex
  exact v_glob hg h1 v h2 h3 hdb
end
section
variable {K : Fg} {mg : Str → Option Value} {x : Str}
theorem gc_int {i : Int} {t : Tok} (h : mg x = some (.int i t)) : Gc K mg x (.int i) := ⟨_, .int i, h, ⟨_, rfl⟩, fun _ => .int i⟩
theorem gc_str {i : Str} {t : Tok} (h : mg x = some (.str i t)) : Gc K mg x (.str i) := ⟨_, .str i, h, ⟨_, rfl⟩, fun _ => .str i⟩
/-- flat data of a written value -/
def absD' : Value → Option (D × V)
  | .none => some (.none, .non)
  | .bool b => some (.bool b, .bl b)
  | .int i _ => some (.int i, .int i)
  | .str s _ => some (.str s, .str s)
  | _ => none
theorem absD'_ok {u : Value} {d : D} {v : V} (h : absD' u = some (d, v)) : RelV v u ∧ ∀ H, Rp K H d v := by
  cases u <;> simp only [absD', Option.some.injEq, Prod.mk.injEq, reduceCtorEq] at h
  · obtain ⟨rfl, rfl⟩ := h; exact ⟨rfl, fun _ => .non⟩
  · obtain ⟨rfl, rfl⟩ := h; exact ⟨rfl, fun _ => .bl _⟩
  · obtain ⟨rfl, rfl⟩ := h; exact ⟨⟨_, rfl⟩, fun _ => .int _⟩
  · obtain ⟨rfl, rfl⟩ := h; exact ⟨⟨_, rfl⟩, fun _ => .str _⟩
def absL : List Value → Option (List (D × V))
  | [] => some []
  | u :: us => (absD' u).bind fun d => (absL us).map (d :: ·)
theorem absL_ok : ∀ {us : List Value} {ds : List (D × V)}, absL us = some ds → Vals (ds.map (·.2)) us ∧ ∀ H, RpL K H (ds.map (·.1)) (ds.map (·.2))
  | [], ds, h => by cases h; exact ⟨.nil, fun _ => .nil⟩
  | u :: us, ds, h => by
    obtain ⟨⟨d, v⟩, h1, h2⟩ := Option.bind_eq_some_iff.mp h
    obtain ⟨ds', h3, rfl⟩ := Option.map_eq_some_iff.mp h2
    obtain ⟨a1, a2⟩ := absD'_ok (K := K) h1
    obtain ⟨b1, b2⟩ := absL_ok h3
    exact ⟨.cons a1 b1, fun H => .cons (a2 H) (b2 H)⟩
/-- a written tuple of flat things -/
structure TupO (o : Obj) (d : D) : Prop where
  cls : o.cls = .type "tuple"
  dat : ∃ ds its n ps, d = .tuple ds ∧ o.data = .seq its n ∧ its.size ≤ sizeLine ∧ absL its.toList = some ps ∧ ps.map (·.1) = ds
theorem tupO_mk {d : D} {cl : Value} {od : Option Addr} {its : Array Value} {n : Nat} {sl : Array (Option Value)} {ps : List (D × V)} (h1 : cl = .type "tuple") (h3 : absL its.toList = some ps) (h4 : d = .tuple (ps.map (·.1))) (h5 : its.size ≤ sizeLine) : TupO ⟨cl, od, .seq its n, sl⟩ d := ⟨h1, _, its, n, ps, h4, rfl, h5, h3, rfl⟩
theorem gc_tup {a : Addr} {o : Obj} {d : D} (h : mg x = some (.ref a)) (hk : K.lookup a = some o) (t : TupO o d) : Gc K mg x d := by
  obtain ⟨h1, ds, its, n, ps, rfl, h2, h3, h4, rfl⟩ := t
  obtain ⟨v, r⟩ := absL_ok (K := K) h4
  exact ⟨_, .ref a, h, rfl, fun H => .tup (.inr ⟨o, its, n, hk, h1, h2, h3, v⟩) (r H)⟩
end

/-! ### repr -/
def reprD : List D → Option D
  | [d] => if SeqAt.shaped d && d.showable && decide (d.shown.length ≤ sizeLine) then some (.str d.shown) else none
  | _ => none
section
variable {X : Cx}
/-- lists and tuples (and ints) -/
def reprL : List D → Option D
  | [.list l] => reprD [.list l]
  | [.tuple l] => reprD [.tuple l]
  | _ => none
end

/-! ### the end -/
/-- the def of that name, its code object, that one's table -/
structure TabI (K : Fg) (n : Str) (c P : Addr) : Prop where
  ex : ∃ (f : Addr) (o : Obj) (fd : FuncData), PySem.W.nsIn K mainGlobals n = some (some (.ref f)) ∧ K.lookup f = some o ∧ o.data = .func fd ∧ fd.code = .ref c
  hd : PySem.W.codeHdIn K c P = true
  no : K.lookup P = none
theorem codeHd_one {K : Fg} {c P P' : Addr} (h : PySem.W.codeHdIn K c P = true) (h' : PySem.W.codeHdIn K c P' = true) : P = P' := by
  unfold PySem.W.codeHdIn at h h'
  cases e : K.lookup c with
  | none => rw [e] at h; cases h
  | some o =>
    rw [e] at h h'
    split at h
    · rename_i d vs sl z
      cases z
      simp only [Bool.and_eq_true] at h h'
      obtain ⟨⟨⟨⟨⟨a, _⟩, _⟩, _⟩, _⟩, _⟩ := h
      obtain ⟨⟨⟨⟨⟨a', _⟩, _⟩, _⟩, _⟩, _⟩ := h'
      split at a
      · rename_i Q z2
        rw [z2] at a'
        exact (beq_iff_eq.mp a).symm.trans (beq_iff_eq.mp a')
      · cases a
    · cases h
abbrev Tabs := List (Str × Addr × Addr)
def tadr (cs : Tabs) : List Addr := cs.map (·.2.2)
theorem tabA_of {K : Fg} {cs : Tabs} (I : ∀ t ∈ cs, TabI K t.1 t.2.1 t.2.2) (cov : ∀ n ∈ tabNames, PySem.W.nsIn K mainGlobals n = some none ∨ ∃ t ∈ cs, t.1 = n) {P : Addr} (h : TabA K P) : P ∈ tadr cs := by
  obtain ⟨n, hn, f, o, fd, c, h1, h2, h3, h4, h5⟩ := h
  rcases cov n hn with z | ⟨t, ht, rfl⟩
  · rw [z] at h1; cases h1
  · obtain ⟨⟨f', o', fd', g1, g2, g3, g4⟩, g5, _⟩ := I t ht
    rw [h1] at g1; cases g1
    rw [h2] at g2; cases g2
    rw [h3] at g3; cases g3
    rw [h4] at g4; cases g4
    exact List.mem_map.mpr ⟨t, ht, codeHd_one g5 h5⟩
def tab0 : Obj := { cls := .none, data := .fields #[] }
/-- a heap in which the script and the tables alone are known -/
def OnlyT (cs : Tabs) (H : Hp) : Prop := ∀ b, H b = none ∨ (b ∈ tadr cs ∧ H b = some (.ext (TabP b))) ∨ ∃ o xs, H b = some (.frz o (.lst xs))
theorem tri0 : TriplesOk ([] : List Value) := by first | trivial | simp [TriplesOk] | exact fun _ h => nomatch h
theorem tabP_ok {P : Program} {w : World} {H : Hp} {h : Heap} {b : Addr} (e : h.get? b = some tab0) : ObjOk P w H h b (.ext (TabP b)) :=
  ⟨⟨#[], e, tri0⟩, ⟨_, e⟩, fun h1 h2 z k => let ⟨ps, q, t⟩ := z; ⟨ps, k _ q, t⟩⟩
theorem law_callG {P : Program} {w : World} {K : Fg} {mg mb : Str → Option Value} {k : Nat} {fa a : Addr} {fd : FuncData} {x : Str} {sp : Sp} {s₁ : Shared} {vs : List Value} {ns : List Int} {cs : Tabs}
    (KX : K.In s₁.heap) (hns : s₁.heap.Ns mainGlobals mg) (hb : s₁.heap.Ns builtinsNs mb) (hbb : ∀ x : Str, x ≠ "__name__" → mb x = bootBuiltins x) (hlim : s₁.heap.NoLimit) (hg : s₁.gens = #[])
    (hT : ∀ t ∈ cs, s₁.heap.get? t.2.2 = some tab0) (nT : ∀ t ∈ cs, K.lookup t.2.2 = none) (hC : ∀ t ∈ cs, PySem.W.CodeHd s₁.heap t.2.1 t.2.2)
    (hbm : ∃ (bm : Addr) (ob : Obj), mg "__builtins__" = some (.ref bm) ∧ bm ≠ builtinsNs ∧ s₁.heap.get? bm = some ob ∧ ob.cls = .type "module" ∧ ob.dict = some builtinsNs ∧ ob.data = .plain)
    (ha : s₁.heap.get? a = some { cls := .type "list", data := .seq vs.toArray }) (hi : IntsAre vs ns) (hl : ns.length ≤ sizeLine) (hr : Room k callerA)
    (F : ∀ base : Heap, (∀ t ∈ cs, GxR.TabB base mg t.2.1 t.2.2) → FnG P w K mg base k fa fd [x] sp) (hbind : ∀ (s : Shared) (u : Value), BindsTo s fd ⟨[u], []⟩ [(x, u)])
    (hsp : ∀ H : Hp, (∀ t ∈ cs, H t.2.2 = some (.ext (TabP t.2.2))) → SqL K H a (ns.map V.int) → sp [.ref a] H (fun v H' => v = .bl true ∧ ∀ t ∈ cs, H' t.2.2 = some (.ext (TabP t.2.2))) fun _ _ _ => False) :
    codeAny (model P w) callerA (.call (.ref fa) ⟨[.ref a], []⟩) (fun r s' => r = .ok (.ret (.bool true)) ∧ OldK s₁.heap s'.heap ∧ s'.os = s₁.os ∧ AllBare s'.gens) s₁ := by
  have rv := L2.vals_ints hi
  have lenV := hi.length
  have isT : ∀ b ∈ tadr cs, s₁.heap.get? b = some tab0 ∧ K.lookup b = none := fun b hb => by
    obtain ⟨t, ht, rfl⟩ := List.mem_map.mp hb
    exact ⟨hT t ht, nT t ht⟩
  have aT : a ∉ tadr cs := fun z => by
    have q := (isT a z).1
    rw [ha] at q
    have z' : Data.seq vs.toArray _ = Data.fields #[] := congrArg Obj.data (Option.some.inj q)
    cases z'
  have tin : ∀ t ∈ cs, t.2.2 ∈ tadr cs := fun t ht => List.mem_map.mpr ⟨t, ht, rfl⟩
  have core : ∀ H : Hp, OnlyT cs H → (∀ t ∈ cs, H t.2.2 = some (.ext (TabP t.2.2))) → SqL K H a (ns.map V.int) → HOk P w H s₁.heap → (∀ b, H b ≠ none → b = a ∨ b ∈ tadr cs) → (H a ≠ none → K.lookup a = none) →
      codeAny (model P w) callerA (.call (.ref fa) ⟨[.ref a], []⟩) (fun r s' => r = .ok (.ret (.bool true)) ∧ OldK s₁.heap s'.heap ∧ s'.os = s₁.os ∧ AllBare s'.gens) s₁ := by
    intro H hO hH hS hok hA hK
    have base_of : ∀ {b : Addr} {o : Obj}, s₁.heap.get? b = some o → H b = none → (hidT s₁.heap H).get? b = some o := fun e n => hidT_get e n
    have free : ∀ {b : Addr} {o : Obj}, s₁.heap.get? b = some o → (∀ vs n, o.data ≠ .seq vs n) → o.data ≠ .fields #[] → H b = none := fun {b o} e n1 n2 => by
      cases q : H b with
      | none => rfl
      | some u =>
        exfalso
        rcases hA b (by rw [q]; simp) with rfl | e'
        · rw [ha] at e; cases e
          exact n1 _ _ rfl
        · rw [(isT b e').1] at e; cases e
          exact n2 rfl
    have noA : ∀ {b : Addr} {o : Obj} {es : Array DictEntry} {ep : Nat}, s₁.heap.get? b = some o → o.data = .dict es ep → H b = none := fun {b o es ep} e d =>
      free e (fun vs n z => by rw [d] at z; cases z) fun z => by rw [d] at z; cases z
    have nsK : ∀ {b : Addr} {m : Str → Option Value}, s₁.heap.Ns b m → (hidT s₁.heap H).Ns b m := fun {b m} ⟨o, es, ep, e, d, r⟩ => ⟨o, es, ep, base_of e (noA e d), d, r⟩
    have hKb : K.In (hidT s₁.heap H) := fun b o e => base_of (KX b o e) (by
      cases q : H b with
      | none => rfl
      | some u =>
        rcases hA b (by rw [q]; simp) with e' | e'
        · rw [e'] at e q
          rw [hK (by rw [q]; simp)] at e; cases e
        · rw [(isT b e').2] at e; cases e)
    have hM : Mod K mg (hidT s₁.heap H) := ⟨hKb, nsK hns, ⟨mb, nsK hb, hbb⟩, let ⟨mc, h1, h2⟩ := hlim; ⟨mc, nsK h1, h2⟩⟩
    have e0 : Env0 P w K mg (hidT s₁.heap H) callerA [] s₁ H := ⟨rfl, hM, fun b o e => of_hidT e, Nat.le_of_eq (hidT_size _ _), trivial, fun b hb => absurd (show b ∈ ([] : List Addr) from hb) (by simp), hok, .of_eq hg⟩
    have TB : ∀ t ∈ cs, GxR.TabB (hidT s₁.heap H) mg t.2.1 t.2.2 := fun t ht => by
      have hTt := hT t ht
      obtain ⟨oc, vc, r1, r2, r3, r4, r5, r6, r7, e1, e2, e3, e4, rest⟩ := hC t ht
      refine ⟨⟨oc, vc, r1, r2, r3, r4, r5, r6, r7, base_of e1 (free e1 (fun vs n z => ?_) fun z => ?_), e2, e3, e4, rest⟩, ?_, fun z => ?_⟩
      · rw [e3] at z
        cases z
      · rw [e3] at z
        cases z
        simp at e4
      · obtain ⟨bm, ob, b1, b2, b3, b4, b5, b6⟩ := hbm
        refine ⟨bm, ob, b1, b2, fun q => ?_, fun q => ?_, base_of b3 (free b3 (fun vs n z => ?_) fun z => ?_), b4, b5, b6⟩
        · obtain ⟨o, es, ep, e, hd, _⟩ := hns
          rw [q, e] at b3; cases b3
          rw [hd] at b6; cases b6
        · rw [q, hTt] at b3; cases b3
          cases b6
        · rw [b6] at z; cases z
        · rw [b6] at z; cases z
      · obtain ⟨o, es, ep, e, hd, _⟩ := hns
        rw [z, hTt] at e; cases e
        cases hd
    refine codeAny_mono ((F _ TB).run callerA [] s₁ H ⟨[.ref a], []⟩ [.ref a] [.ref a] _ _ hr rfl e0 (hbind s₁ (.ref a)) (.cons rfl .nil) (hsp H hH hS)) fun r s' h => ?_
    cases r with
    | error e =>
      obtain ⟨_, _, _, _, _, _, _, _, _, _, _, _, z⟩ := h
      exact z.elim
    | ok fl =>
      cases fl with
      | next => exact False.elim h
      | brk => exact False.elim h
      | cont => exact False.elim h
      | ret u =>
        obtain ⟨v, H', os, bare, un, hok', r', q⟩ := h
        obtain ⟨q', qT⟩ := (q : v = .bl true ∧ ∀ t ∈ cs, H' t.2.2 = some (.ext (TabP t.2.2)))
        subst q'
        obtain rfl : u = Value.bool true := r'
        have grown : ∀ b ∈ tadr cs, isCodeTable s₁.heap b ∧ ∃ ps : Array Value, s'.heap.get? b = some { cls := .none, data := .fields ps } := fun b hb => by
          obtain ⟨t, ht, rfl⟩ := List.mem_map.mp hb
          obtain ⟨⟨ps, z, _⟩, _⟩ := hok' _ _ (qT t ht)
          exact ⟨((hC t ht).tab (hT t ht)).isCodeTable, ps, z⟩
        have key : ∀ b o, b ∉ tadr cs → s₁.heap.get? b = some o → s'.heap.get? b = some o := fun b o nb e => by
          rcases hO b with z | z | ⟨ob, xs, z⟩
          · exact un.keep b o e z (by intro z; exact absurd (show b ∈ ([] : List Addr) from z) (by simp)) (by simp)
          · exact absurd z.1 nb
          · obtain ⟨e1, _⟩ := hok b _ z
            obtain ⟨e2, _⟩ := hok' b _ (un.frzs b ob _ z)
            rw [e] at e1; cases e1
            exact e2
        refine ⟨rfl, ⟨fun b o e => ?_, fun b o e => ?_⟩, os, bare⟩
        · by_cases nb : b ∈ tadr cs
          · obtain ⟨g1, ps, g2⟩ := grown b nb
            have e0 := (isT b nb).1
            rw [e] at e0; cases e0
            exact .inr (.inl ⟨g1, rfl, #[], ps, rfl, by rw [Array.empty_append]; exact g2⟩)
          · exact .inl (key b o nb e)
        · by_cases nb : b ∈ tadr cs
          · obtain ⟨_, ps, g2⟩ := grown b nb
            exact ⟨_, g2⟩
          · exact ⟨o, key b o nb e⟩
  let T : Hp := fun b => if b ∈ tadr cs then some (.ext (TabP b)) else none
  cases hk : K.lookup a with
  | some o =>
    have e := KX a o hk
    rw [ha] at e
    cases e
    have T1 : ∀ b, T b ≠ none → b ∈ tadr cs := fun b z => by
      by_cases hb : b ∈ tadr cs
      · exact hb
      · exact absurd (if_neg hb) z
    refine core T (fun b => ?_) (fun t ht => if_pos (tin t ht)) (.inr ⟨_, vs.toArray, _, hk, rfl, rfl, rfl, by rw [List.size_toArray, lenV]; exact hl, by simpa using rv⟩) (fun b u z => ?_) (fun b z => .inr (T1 b z)) fun z => absurd (T1 a z) aT
    · by_cases hb : b ∈ tadr cs
      · exact .inr (.inl ⟨hb, if_pos hb⟩)
      · exact .inl (if_neg hb)
    · have hb := T1 b (by rw [z]; simp)
      have z' := (if_pos hb).symm.trans z
      cases z'
      exact tabP_ok (isT b hb).1
  | none =>
    let U : Hp := fun b => if b = a then some (.frz { cls := .type "list", data := .seq vs.toArray } (.lst (ns.map V.int))) else T b
    have U1 : ∀ b, b ≠ a → U b = T b := fun b z => if_neg z
    have ta : ∀ t ∈ cs, t.2.2 ≠ a := fun t ht z => aT (z ▸ tin t ht)
    refine core U (fun b => ?_) (fun t ht => (U1 _ (ta t ht)).trans (if_pos (tin t ht))) (.inl (.inr ⟨{ cls := .type "list", data := .seq vs.toArray }, if_pos rfl⟩)) (fun b u z => ?_) (fun b z => ?_) fun _ => hk
    · by_cases hb : b = a
      · exact .inr (.inr ⟨_, _, if_pos hb⟩)
      · by_cases hb2 : b ∈ tadr cs
        · exact .inr (.inl ⟨hb2, (U1 b hb).trans (if_pos hb2)⟩)
        · exact .inl ((U1 b hb).trans (if_neg hb2))
    · by_cases hb : b = a
      · have z' := (if_pos hb).symm.trans z
        cases z'
        subst hb
        exact ⟨ha, by rw [List.length_map]; exact hl, vs, _, rv, ha⟩
      · have z1 := (U1 b hb).symm.trans z
        by_cases hb2 : b ∈ tadr cs
        · have z' := (if_pos hb2).symm.trans z1
          cases z'
          exact tabP_ok (isT b hb2).1
        · have z' := (if_neg hb2).symm.trans z1
          cases z'
    · by_cases hb : b = a
      · exact .inl hb
      · by_cases hb2 : b ∈ tadr cs
        · exact .inr hb2
        · exact absurd ((U1 b hb).trans (if_neg hb2)) z
/-- the goal that k_head leaves -/
theorem law_end {l : PySem.W.OpenLaw} {k : Nat} {q : Program} {loose : List Str} {XP : (Str → Option Value) → Heap → Prop} {YP : World → Heap → Prop} {d : DefRec} {K : Params → Fg} {x : Str} {m : List D → R SD}
    (hn : l.most = some 63) (hdf : d.params.defaults = []) (hr : Room k callerA)
    (hY : ∀ (w : World) (h : Heap), YP w h → (K w.params).In h)
    (true_ : ∀ ns : List Int, ns.length ≤ 63 → (∀ z ∈ ns, Builtin.Int.intBits z ≤ 1048576) → m [.list (ns.map .int)] = .ok (.sh (.bool true)))
    (F : ∀ (w : World) (mg : Str → Option Value) (fa : Addr) (h : Heap), (K w.params).In h → h.Ns mainGlobals mg → mg d.name = some (.ref fa) →
      ∃ cs : Tabs, ((∀ t ∈ cs, TabI (K w.params) t.1 t.2.1 t.2.2 ∧ ((recsOf q).any fun e => e.name == t.1) = true) ∧ ∀ n ∈ tabNames, PySem.W.nsIn (K w.params) mainGlobals n = some none ∨ ∃ t ∈ cs, t.1 = n) ∧
      ∃ fd : FuncData, (∀ (s : Shared) (u : Value), BindsTo s fd ⟨[u], []⟩ [(x, u)]) ∧ ∀ base : Heap, (∀ t ∈ cs, GxR.TabB base mg t.2.1 t.2.2) → DOk l.prog w (K w.params) mg base k fa fd [x] m) :
    PySem.W.WalkO q loose XP YP l.row.toRowW d [] (fun f vs => PySem.call f vs) := by
  refine Att.attach_callB hn hdf fun w s₀ s₁ mg mb fa o pm cd doc a vs ns G Y ho hd hcd hmg hobj hints hlen hbits hg => ?_
  have KX := hY w _ Y
  obtain ⟨cs, ⟨TR, cov⟩, fd, hb, hF⟩ := F w mg fa _ KX G.T.g hmg
  have TI := fun t ht => (TR t ht).1
  have hC : ∀ t ∈ cs, PySem.W.CodeHd s₁.heap t.2.1 t.2.2 := fun t ht => PySem.W.codeHd_of_K KX (TI t ht).hd
  have hT : ∀ t ∈ cs, s₁.heap.get? t.2.2 = some tab0 := fun t ht => by
    obtain ⟨f, o1, fd1, h1, h2, h3, h4⟩ := (TI t ht).ex
    obtain ⟨dL, hm, hn1⟩ := List.any_eq_true.mp (TR t ht).2
    obtain ⟨a', o', fd', c', P', g1, g2, g3, g4, g5, g6⟩ := G.T.tab dL hm
    rw [beq_iff_eq.mp hn1, PySem.W.mg_of KX G.T.g h1] at g1
    cases g1
    have k1 := KX _ _ h2
    rw [k1] at g2; cases g2
    rw [h3] at g3; cases g3
    rw [h4] at g4; cases g4
    obtain ⟨oc, vc, r1, r2, r3, r4, r5, r6, r7, e1, e2, e3, e4, rest⟩ := hC t ht
    obtain ⟨⟨oc', vc', y1, _, y3, y4⟩, hP⟩ := g6
    rw [e1] at y1; cases y1
    rw [e3] at y3; cases y3
    rw [e4] at y4; cases y4
    exact hP
  refine law_callG KX G.T.g G.T.b G.T.builtins G.T.nolimit hg hT (fun t ht => (TI t ht).no) hC G.T.bmain hobj hints (Nat.le_trans hlen (by decide)) hr (fun base TB => (hF base TB).fn) hb fun H hH hS => ?_
  have tabs : TabsOk (K w.params) H := fun P hP => by
    obtain ⟨t, ht, rfl⟩ := List.mem_map.mp (tabA_of TI cov hP)
    exact hH t ht
  refine ⟨rfl, H, [.list (ns.map .int)], ⟨.refl _, tabs⟩, .cons (.lst hS (RpL.of_ints ns)) .nil, ?_⟩
  rw [true_ ns hlen hbits]
  intro Hs' H' v e hv
  have hv' : Rp (K w.params) Hs' (.bool true) v := hv
  cases hv'
  exact ⟨rfl, fun t ht => e.same _ _ (hH t ht)⟩
end VL

set_option Elab.async false
set_option linter.all false
set_option maxRecDepth 100000
set_option autoImplicit false
namespace VL
open PySem PySem.Spec PyProof.Rows L2

section
variable {X : Cx} {W : WX} {e o : Expr} {pos : Pos} {f g : Ev → R D}
/-! ### str(int), str(str) -/
def strD : List D → Option D
  | [.int i] => if i.natAbs.log2 < 1920 then some (.str (toString i)) else none
  | [.str x] => some (.str x)
  | _ => none
theorem c_str : CalD X (.type "str") strD := ⟨_, call_str_int.or SkE.call_str_str, fun Hs H ds vs Q d hs e hv k => by
  unfold strD at e
  split at e
  · split at e
    · rename_i hz
      cases e
      obtain ⟨v, rfl, h⟩ := hv.one
      exact .inl ⟨_, by rw [h.int], hz, k _ _ _ (.refl hs) (.str _)⟩
    · cases e
  · cases e
    obtain ⟨v, rfl, h⟩ := hv.one
    exact .inr ⟨_, by rw [h.str], k _ _ _ (.refl hs) (.str _)⟩
  · cases e⟩
/-! ### x.pop() as a statement -/
def sPopX (j : Nat) : Ev → Out := fun ρ => onOw j ρ fun l => match l.getLast? with
  | some _ => .nx (ρ.set j (.ow l.dropLast))
  | none => .bad
/-! ### {"k": e, ..}[e] -/
def selD (ks : List Str) (ds : List D) (k : D) : Option D := match k with
  | .str x => (ks.zip ds).foldl (fun acc p => if x = p.1 then some p.2 else acc) none
  | _ => none
def eDSel (ks : List Str) (fs : Ev → R (List D)) (fk : Ev → R D) : Ev → R D := fun ρ => (fs ρ).bind fun ds => (fk ρ).bind fun k => ofO (selD ks ds k)
/-- the values of a display -/
structure VPs (X : Cx) (W : WX) (dpos : Pos) (ks : List Str) (keys : List (Option Expr)) (vals : List Expr) (fs : Ev → R (List D)) : Prop where
  ex : ∃ trs, PPs X dpos keys vals trs ∧ ∀ σ H (Q : List (V × V) → Hp → Prop), tA X.K X.mg W fs σ H (fun vs H' => vs.length = ks.length → Q ((ks.map V.str).zip vs) H') → tPairs trs σ H Q
  n1 : keys.length = ks.length
  n2 : vals.length = ks.length
  n3 : keys.all (·.isSome) = true
end
end VL

set_option Elab.async false
set_option linter.all false
set_option maxRecDepth 100000
set_option autoImplicit false
namespace VL
open PySem PySem.Spec PyProof.Rows L2

/-! ### evaluations that change a list of one's own, or the lent one -/
inductive RX (α : Type) where
  | ok (a : α) (ρ : Ev)
  | bad
def RX.bind {α β : Type} (r : RX α) (f : α → Ev → RX β) : RX β := match r with
  | .ok a ρ => f a ρ
  | .bad => .bad
def PostX {α : Type} (K : Fg) (S : Hp) (G : Gx) (σ : Sg) (Hs : Hp) : RX α → (α → Ev → Hp → Hp → Prop) → Prop
  | .ok a ρ, P => ∀ Hs' H', Same Hs Hs' → RelE K S G Hs' H' σ ρ → P a ρ Hs' H'
  | .bad, _ => False
section
variable {α β : Type} {K : Fg} {S Hs H Hs1 : Hp} {G : Gx} {σ : Sg}
theorem PostX.up {r : RX α} {P : α → Ev → Hp → Hp → Prop} (h : PostX K S G σ Hs r P) (g : Same Hs Hs1) : PostX K S G σ Hs1 r P := by
  cases r with
  | ok a ρ => exact fun Hs' H' e => h Hs' H' (g.trans e)
  | bad => exact h
theorem PostX.imp {r : RX α} {P P' : α → Ev → Hp → Hp → Prop} (h : PostX K S G σ Hs r P) (hp : ∀ a ρ Hs' H', Same Hs Hs' → RelE K S G Hs' H' σ ρ → P a ρ Hs' H' → P' a ρ Hs' H') : PostX K S G σ Hs r P' := by
  cases r with
  | ok a ρ => exact fun Hs' H' g r' => hp _ _ _ _ g r' (h Hs' H' g r')
  | bad => exact h
theorem PostX.bind {r : RX α} {f : α → Ev → RX β} {P : β → Ev → Hp → Hp → Prop} (h : PostX K S G σ Hs (r.bind f) P) : PostX K S G σ Hs r (fun a ρ Hs' H' => PostX K S G σ Hs' (f a ρ) P) := by
  cases r with
  | ok a ρ => exact fun Hs' H' g r' => PostX.up h g
  | bad => exact h
theorem PostX.now {a : α} {ρ : Ev} {P : α → Ev → Hp → Hp → Prop} (h : PostX K S G σ Hs (.ok a ρ) P) (r : RelE K S G Hs H σ ρ) : P a ρ Hs H := h Hs H (.refl _) r
end
def tX (K : Fg) (f : Ev → RX D) : TE := fun σ H Q => ∃ S G Hs ρ, RelE K S G Hs H σ ρ ∧ PostX K S G σ Hs (f ρ) (fun d _ Hs' H' => ∀ v, Rp K Hs' d v → Q v H')
def tXO (K : Fg) (f : Ev → RX (List D)) : TE := fun σ H Q => ∃ S G Hs ρ, RelE K S G Hs H σ ρ ∧
  PostX K S G σ Hs (f ρ) (fun l _ Hs' H' => ∀ Hs2 H2 p vs, Ext Hs' H' Hs2 H2 → H' p = none → Hs2 p = none → H2 p = some (.lst vs) → RpL K Hs2 l vs → Q (.ref p) H2)
def tXT (K : Fg) (f : Ev → RX Bool) : TT := fun σ H Q => ∃ S G Hs ρ, RelE K S G Hs H σ ρ ∧ PostX K S G σ Hs (f ρ) (fun b _ _ H' => Q b H')
def tXA (K : Fg) (f : Ev → RX (List D)) : TA := fun σ H Q => ∃ S G Hs ρ, RelE K S G Hs H σ ρ ∧ PostX K S G σ Hs (f ρ) (fun ds _ Hs' H' => ∀ vs, RpL K Hs' ds vs → Q vs H')
def tXI (K : Fg) (f : Ev → RX (List D)) : TI := fun σ H Rr => ∃ S G Hs ρ, RelE K S G Hs H σ ρ ∧ PostX K S G σ Hs (f ρ) (fun l _ Hs' H' => ∀ J, ItD K J Hs' l → Rr J H')
def XE (X : Cx) (e : Expr) (f : Ev → RX D) : Prop := PE X e (tX X.K f)
def XO (X : Cx) (e : Expr) (f : Ev → RX (List D)) : Prop := PE X e (tXO X.K f)
def XT (X : Cx) (e : Expr) (f : Ev → RX Bool) : Prop := PT X e (tXT X.K f)
def XW (X : Cx) (e : Expr) (f : Ev → RX Bool) : Prop := PW X e (tXT X.K f)
def XA (X : Cx) (es : List Expr) (f : Ev → RX (List D)) : Prop := PA X es (tXA X.K f)
def XI (X : Cx) (tg iter : Expr) (f : Ev → RX (List D)) : Prop := PI X tg iter (tXI X.K f)
/-- without a change -/
def xl {α : Type} (f : Ev → R α) : Ev → RX α := fun ρ => match f ρ with
  | .ok a => .ok a ρ
  | _ => .bad
def ofX {α : Type} (o : Option α) (ρ : Ev) : RX α := match o with
  | some a => .ok a ρ
  | none => .bad
def x1 {α β : Type} (F : α → Option β) (f : Ev → RX α) : Ev → RX β := fun ρ => (f ρ).bind fun x ρ => ofX (F x) ρ
def x2 {α β γ : Type} (F : α → β → Option γ) (f : Ev → RX α) (g : Ev → RX β) : Ev → RX γ := fun ρ => (f ρ).bind fun x ρ => (g ρ).bind fun y ρ => ofX (F x y) ρ
def xCons (f : Ev → RX D) (g : Ev → RX (List D)) : Ev → RX (List D) := fun ρ => (f ρ).bind fun x ρ => (g ρ).bind fun xs ρ => .ok (x :: xs) ρ
def xLst (f : Ev → RX (List D)) : Ev → RX D := fun ρ => (f ρ).bind fun l ρ => .ok (.list l) ρ
def xIf {α : Type} (c : Ev → RX Bool) (f g : Ev → RX α) : Ev → RX α := fun ρ => (c ρ).bind fun b ρ => if b then f ρ else g ρ
def xAnd (f g : Ev → RX Bool) : Ev → RX Bool := fun ρ => (f ρ).bind fun b ρ => if b then g ρ else .ok false ρ
def xOr (f g : Ev → RX Bool) : Ev → RX Bool := fun ρ => (f ρ).bind fun b ρ => if b then .ok true ρ else g ρ
def xNot (f : Ev → RX Bool) : Ev → RX Bool := fun ρ => (f ρ).bind fun b ρ => .ok (!b) ρ
def xCall (m : List D → R SD) (fl : Ev → RX (List D)) : Ev → RX D := fun ρ => (fl ρ).bind fun ds ρ => match m ds with
  | .ok s => ofX (toD s) ρ
  | _ => .bad
def xCallO (m : List D → R SD) (fl : Ev → RX (List D)) : Ev → RX (List D) := fun ρ => (fl ρ).bind fun ds ρ => match m ds with
  | .ok s => ofX (toL s) ρ
  | _ => .bad

section
variable {X : Cx} {W : WX} {e a b c : Expr} {es : List Expr} {pos p : Pos} {f g : Ev → RX D} {fl : Ev → RX (List D)} {fb gb : Ev → RX Bool}
theorem xl_post {α : Type} {K : Fg} {mg : Str → Option Value} {W : WX} {S G Hs H σ} {f : Ev → R α} {ρ : Ev} {P : α → Ev → Hp → Hp → Prop} (r : RelE K S G Hs H σ ρ) (h : PostX K S G σ Hs (xl f ρ) P) : Post K mg W Hs H σ (f ρ) (fun a Hs' H' => P a ρ Hs' H') := by
  unfold xl at h
  cases z : f ρ with
  | ok a => rw [z] at h; exact fun Hs' H' e => h Hs' H' e.grow (r.step e)
  | ex x => rw [z] at h; exact h.elim
  | bad => rw [z] at h; exact h.elim
theorem x_e {f : Ev → R D} (h : VE X W e f) : XE X e (xl f) := PE.imp h fun σ H Q ⟨S, G, Hs, ρ, r, p⟩ => ⟨S, G, Hs, ρ, r, xl_post r p⟩
theorem x_i {tg : Expr} {f : Ev → R (List D)} (h : VI X W tg e f) : XI X tg e (xl f) := PI.imp h fun σ H Q ⟨S, G, Hs, ρ, r, p⟩ => ⟨S, G, Hs, ρ, r, xl_post r p⟩
theorem XO.xe (h : XO X e fl) : XE X e (xLst fl) := PE.imp h fun σ H Q ⟨S, G, Hs, ρ, r, p⟩ => by
  refine ⟨S, G, Hs, ρ, r, (PostX.bind p).imp fun l ρ1 Hs1 H1 g1 r1 q Hs2 H2 p' vs e h0 h1 h2 h3 => ?_⟩
  exact q _ _ ((e.frz h0 h2 h1).grow) (r1.step (e.frz h0 h2 h1)) _ (.lst (.inl (.inl upd_same)) (h3.mono fun b u z => by rw [upd_ne (ne_of_none z h1)]; exact z))
theorem ofX_post {α : Type} {K : Fg} {S G σ Hs} {o : Option α} {ρ : Ev} {P : α → Ev → Hp → Hp → Prop} (h : PostX K S G σ Hs (ofX o ρ) P) : ∃ d, o = some d ∧ PostX K S G σ Hs (.ok d ρ) P := by
  cases o with
  | none => exact h.elim
  | some d => exact ⟨d, rfl, h⟩
theorem simX_op {K : Fg} {r : R2} {F : D → D → Option D} (hd : OpD K r F) : ∀ σ H Q, tX K (x2 F f g) σ H Q → tOp r (tX K f) (tX K g) σ H Q := fun σ H Q ⟨S, G, Hs, ρ, rl, p⟩ => by
  refine ⟨S, G, Hs, ρ, rl, (PostX.bind p).imp fun x ρ1 Hs1 H1 g1 r1 q u hu => ?_⟩
  refine ⟨S, G, Hs1, ρ1, r1, (PostX.bind q).imp fun y ρ2 Hs2 H2 g2 r2 q2 v hv => ?_⟩
  obtain ⟨d, z, q3⟩ := ofX_post q2
  exact hd Hs2 H2 x y u v Q d r2.sub z (.inl (hu.mono g2)) (.inl hv) fun Hs' H' w e hw => q3 Hs' H' e.grow (r2.step e) w hw
theorem x_op {op : Operator} {F : D → D → Option D} (ho : DOp X (binaryOp op) F) (ha : XE X a f) (hb : XE X b g) : XE X (.BinOp a op b pos) (x2 F f g) := let ⟨_, h1, h2⟩ := ho; PE.imp (pe_op h1 ha hb) (simX_op h2)
theorem x_ix {F : D → D → Option D} (ho : DIx X F) (ha : XE X a f) (hb : XE X b g) (hs : PlainIx b := by exact fun _ _ => rfl) : XE X (.Subscript a b pos) (x2 F f g) := let ⟨_, h1, h2⟩ := ho; PE.imp (pe_ix h1 ha hb hs) (simX_op h2)
theorem XW.xt (h : XW X e fb) : XT X e fb := PW.pt h
theorem xa_nil : XA X [] (xl (cst [])) := PA.imp pa_nil fun σ H Q ⟨S, G, Hs, ρ, r, p⟩ => p.now r [] .nil
theorem xa_cons (ha : XE X e f) (hr : XA X es fl) (hs : starEach (e :: es) X.env = (false, eval e X.env) :: starEach es X.env := by rfl) : XA X (e :: es) (xCons f fl) := PA.imp (pa_cons ha hr hs) fun σ H Q ⟨S, G, Hs, ρ, r, p⟩ => by
  refine ⟨S, G, Hs, ρ, r, (PostX.bind p).imp fun x ρ1 Hs1 H1 g1 r1 q u hu => ?_⟩
  refine ⟨S, G, Hs1, ρ1, r1, (PostX.bind q).imp fun xs ρ2 Hs2 H2 g2 r2 q2 us hus => ?_⟩
  exact q2.now r2 (u :: us) (.cons (hu.mono g2) hus)
theorem x_tup {x1' : Nat} (h : XA X es fl) : XE X (.Tuple es x1' pos) (x1 tupD fl) := PE.imp (pe_tup h) fun σ H Q ⟨S, G, Hs, ρ, r, p⟩ => by
  refine ⟨S, G, Hs, ρ, r, (PostX.bind p).imp fun l ρ1 Hs1 H1 g1 r1 q us hus => ?_⟩
  obtain ⟨d, z, q3⟩ := ofX_post q
  unfold tupD at z
  obtain ⟨l', z1, rfl⟩ := Option.map_eq_some_iff.mp z
  obtain ⟨rfl, hz⟩ := lim_some z1
  refine ⟨by rw [← hus.length]; exact hz, fun p hp => ?_⟩
  have x := Ext.new (o := .tup us) r1.sub hp
  exact q3 _ _ x.grow (r1.step x) _ (.tup (.inl (.inl upd_same)) (hus.mono x.grow))
theorem PkL.of_rp {K : Fg} {Hs H : Hp} : ∀ {ds : List D} {vs : List V}, RpL K Hs ds vs → PkL K Hs H ds vs
  | _, _, .nil => trivial
  | _, _, .cons h r => ⟨.inl h, PkL.of_rp r⟩
theorem simX_cal {K : Fg} {r : List V → Hp → VK → Prop} {F : List D → Option D} (h : ∀ (Hs H : Hp) (ds : List D) (vs : List V) (Q : VK) (d : D), Same Hs H → F ds = some d → PkL K Hs H ds vs →
    (∀ Hs' H' w, Ext Hs H Hs' H' → Rp K Hs' d w → Q w H') → r vs H Q) : ∀ σ H Q, tX K (x1 F fl) σ H Q → tCB r (tXA K fl) σ H Q := fun σ H Q ⟨S, G, Hs, ρ, rl, p⟩ => by
  refine ⟨S, G, Hs, ρ, rl, (PostX.bind p).imp fun ds ρ1 Hs1 H1 g1 r1 q vs hv => ?_⟩
  obtain ⟨d, z, q3⟩ := ofX_post q
  exact h Hs1 H1 ds vs Q d r1.sub z (PkL.of_rp hv) fun Hs' H' w e hw => q3 Hs' H' e.grow (r1.step e) w hw
variable {x : Str} {bid T : String} {F : List D → Option D} {FO : List D → Option (List D)}
theorem x_typ (hc : CalD X (.type T) F) (hg : Gl X x) (hm : X.mg x = none) (hv : bootBuiltins x = some (.type T)) (ha : XA X (e :: es) fl) (hn : x ≠ "__name__" := by decide) (hdb : (x == ("__debug__" : Str)) = false := by decide)
    (he : starEach (e :: es) X.env = (false, eval e X.env) :: starEach es X.env := by rfl) (hpl : (backTo pos (starEach es X.env)).any (·.1) = false := by rfl) : XE X (.Call (.Name x p) (e :: es) [] pos) (x1 F fl) :=
  let ⟨_, h1, h2⟩ := hc; PE.imp (pe_callTy h1 hg hm hv ha hn hdb he hpl) (simX_cal h2)
/-! sources of loops -/
theorem xi_range1 {tg : Expr} (hg : Gl X "range") (hm : X.mg "range" = none) (ha : XA X [a] fl) (hs : starEach [a] X.env = [(false, eval a X.env)] := by rfl) : XI X tg (.Call (.Name "range" p) [a] [] pos) (x1 range1D fl) := PI.imp (pi_range1 hg hm ha hs) fun σ H Rr ⟨S, G, Hs, ρ, r, p⟩ => by
  refine ⟨S, G, Hs, ρ, r, (PostX.bind p).imp fun ds ρ1 Hs1 H1 g1 r1 q vs hv => ?_⟩
  obtain ⟨l, z, q3⟩ := ofX_post q
  have q' := q3.now r1
  unfold range1D at z
  split at z
  · split at z
    · rename_i hz
      cases z
      unfold in62 at hz
      have hz' := of_decide_eq_true hz
      obtain ⟨v, rfl, h⟩ := (PkL.of_rp (H := H1) hv).one
      exact ⟨_, by rw [h.int], hz'.1, hz'.2, q' _ it_rng⟩
    · cases z
  · cases z
end
end VL

set_option Elab.async false
set_option linter.all false
set_option maxRecDepth 100000
set_option autoImplicit false
namespace VL
open PySem PySem.Spec PyProof.Rows L2

/-! ### a list of one's own or the lent one -/
def lstAt (ρ : Ev) (i : Nat) : Option (List D × Bool) := match ρ[i]? with
  | some (.ow l) => some (l, false)
  | some (.bo l) => some (l, true)
  | _ => none
def mkL (b : Bool) (l : List D) : SD := if b then .bo l else .ow l
section
variable {K : Fg} {S Hs H : Hp} {G : Gx} {σ : Sg} {ρ : Ev}
theorem lstAt_cases {i : Nat} {l : List D} {b : Bool} (h : lstAt ρ i = some (l, b)) : (b = false ∧ ρ[i]? = some (.ow l)) ∨ (b = true ∧ ρ[i]? = some (.bo l)) := by
  unfold lstAt at h
  split at h
  · cases h; exact .inl ⟨rfl, by assumption⟩
  · cases h; exact .inr ⟨rfl, by assumption⟩
  · cases h
theorem RelE.lst {i : Nat} {l : List D} {b : Bool} (r : RelE K S G Hs H σ ρ) (h : lstAt ρ i = some (l, b)) : ∃ p vs, σ[i]? = some (some (.ref p)) ∧ Hs p = none ∧ H p = some (.lst vs) ∧ RpL K Hs l vs := by
  rcases lstAt_cases h with ⟨_, h⟩ | ⟨_, h⟩
  · obtain ⟨p, vs, e1, e2, e3, e4, e5⟩ := r.own h
    exact ⟨p, vs, e1, e3, e4, e5⟩
  · obtain ⟨p, vs, e1, e2, e3, e4⟩ := r.lent h
    exact ⟨p, vs, e1, (r.bor _ p e2).2.1, e3, e4⟩
theorem RelE.wrL {i : Nat} {l l' : List D} {b : Bool} {p : Addr} {ws : List V} (r : RelE K S G Hs H σ ρ) (h : lstAt ρ i = some (l, b)) (hs : σ[i]? = some (some (.ref p))) (hl : RpL K Hs l' ws) :
    RelE K S G Hs (upd H p (.lst ws)) σ (ρ.set i (mkL b l')) := by
  rcases lstAt_cases h with ⟨rfl, h'⟩ | ⟨rfl, h'⟩
  · exact r.wr h' hs hl
  · exact r.wrB h' hs hl
end
/-! ### statements over them -/
def liftX {α : Type} (r : RX α) (k : α → Ev → Out) : Out := match r with
  | .ok a ρ => k a ρ
  | .bad => .bad
theorem liftX_post {α : Type} {K : Fg} {mg : Str → Option Value} {W : WX} {S Hs : Hp} {G : Gx} {σ : Sg} {D : Ends} {r : RX α} {k : α → Ev → Out} (h : OutOk K mg W S G Hs D (liftX r k)) :
    PostX K S G σ Hs r (fun a ρ Hs' H' => OutOk K mg W S G Hs' D (k a ρ)) := by
  cases r with
  | ok a ρ => exact fun Hs' H' g _ => OutOk.up h g
  | bad => exact h
def ySet (i : Nat) (f : Ev → RX D) : Ev → Out := fun ρ => liftX (f ρ) fun d ρ => .nx (ρ.set i (.sh d))
def ySetO (i : Nat) (f : Ev → RX (List D)) : Ev → Out := fun ρ => liftX (f ρ) fun d ρ => .nx (ρ.set i (.ow d))
def yAsg (f : Ev → RX D) (g : D → Ev → Option Ev) : Ev → Out := fun ρ => liftX (f ρ) fun d ρ => match g d ρ with
  | some ρ' => .nx ρ'
  | none => .bad
def yIf (c : Ev → RX Bool) (F F' : Ev → Out) : Ev → Out := fun ρ => liftX (c ρ) fun b ρ => if b then F ρ else F' ρ
def yDrop (f : Ev → RX D) : Ev → Out := fun ρ => liftX (f ρ) fun _ ρ => .nx ρ
def yRet (f : Ev → RX D) : Ev → Out := fun ρ => liftX (f ρ) fun d ρ => .rt (.sh d)
def yRetO (f : Ev → RX (List D)) : Ev → Out := fun ρ => liftX (f ρ) fun d ρ => .rt (.ow d)
def yRetB (f : Ev → RX D) : Ev → Out := fun ρ => liftX (f ρ) fun d ρ => .rtB (.sh d) ρ
def yRetOB (f : Ev → RX (List D)) : Ev → Out := fun ρ => liftX (f ρ) fun d ρ => .rtB (.ow d) ρ
/-- return x, x a list of one's own, in a def with a lent list -/
def yRetVB (i : Nat) : Ev → Out := fun ρ => match ρ[i]? with
  | some (.ow l) => .rtB (.ow l) ρ
  | some (.sh d) => .rtB (.sh d) ρ
  | _ => .bad
def yRetNB : Ev → Out := fun ρ => .rtB (.sh .none) ρ
def yFor (fi : Ev → RX (List D)) (g : D → Ev → Option Ev) (F : Ev → Out) : Ev → Out := fun ρ => liftX (fi ρ) fun l ρ => forO (gTo g F) l ρ
def yApp (i : Nat) (f : Ev → RX D) : Ev → Out := fun ρ => match lstAt ρ i with
  | none => .bad
  | some _ => liftX (f ρ) fun d ρ => match lstAt ρ i with
    | some (l, b) => if l.length < sizeLine then .nx (ρ.set i (mkL b (l ++ [d]))) else .bad
    | none => .bad
def yStore (i : Nat) (fi fv : Ev → RX D) : Ev → Out := fun ρ => liftX (fv ρ) fun d ρ => match lstAt ρ i with
  | none => .bad
  | some _ => liftX (fi ρ) fun k ρ => match lstAt ρ i with
    | some (l, b) => match k with
      | .int z => match ixN l.length z with
        | some j => .nx (ρ.set i (mkL b (l.set j d)))
        | none => .bad
      | _ => .bad
    | none => .bad
def xPop (i : Nat) : Ev → RX D := fun ρ => match lstAt ρ i with
  | some (l, b) => match l.getLast? with
    | some d => .ok d (ρ.set i (mkL b l.dropLast))
    | none => .bad
  | none => .bad
section
variable {X : Cx} {W : WX} {e a b c : Expr} {es : List Expr} {pos : Pos} {f g : Ev → RX D} {fl : Ev → RX (List D)} {fb : Ev → RX Bool} {F F' : Ev → Out}
theorem y_set {i : Nat} {x : Str} {pos' : Pos} (hN : X.N.Nodup) (hi : X.N[i]? = some x) (hx : Loc X.env.scope x) (he : XE X e f) (hs : swapsWith e (some (.Name x pos')) pos.line X.env = pure false := by rfl) (hf : X.fn x = true ∨ X.env.scope.names.lookup x = some .local := by first | exact .inl rfl | exact .inr rfl | assumption) :
    VS X W (.Assign [.Name x pos'] e pos) (ySet i f) := PS.imp (ps_set hN hi hx he hs hf) fun D σ H ⟨S, G, Hs, ρ, r, h⟩ =>
  ⟨S, G, Hs, ρ, r, (liftX_post h).imp fun d ρ1 Hs1 H1 g1 r1 q v hv => q Hs1 H1 _ (.refl _) (r1.set hv)⟩
theorem y_retB (he : XE X e f) : VS X W (.Return (some e) pos) (yRetB f) := PS.imp (ps_ret he) fun D σ H ⟨S, G, Hs, ρ, r, h⟩ =>
  ⟨S, G, Hs, ρ, r, (liftX_post h).imp fun d ρ1 Hs1 H1 g1 r1 q v hv => q Hs1 H1 v σ (.refl _) r1 hv fun l z => by cases z⟩
theorem y_retVB (i : Nat) {x : Str} {p : Pos} (h : PE X (.Name x p) (tVar i)) : VS X W (.Return (some (.Name x p)) pos) (yRetVB i) := PS.imp (ps_ret h) fun D σ H ⟨S, G, Hs, ρ, r, h⟩ => by
  unfold yRetVB at h
  cases q : ρ[i]? with
  | none => rw [q] at h; exact h.elim
  | some s =>
    rw [q] at h
    cases s with
    | no => exact h.elim
    | bo l => exact h.elim
    | sh d =>
      obtain ⟨v, e1, e2⟩ := r.get q
      exact ⟨v, e1, h Hs H v σ (.refl _) r e2 fun l z => by cases z⟩
    | ow l =>
      obtain ⟨p, vs, e1, e2, e3, e4, e5, e6⟩ := r.own' q
      exact ⟨_, e1, h Hs H _ σ (.refl _) r ⟨p, vs, rfl, e2, e3, e4, e5⟩ fun l _ i' p' hp' z => by
        cases z
        exact e6 i' hp'⟩
theorem y_for {tg iter : Expr} {body : List Stmt} {ts : List Nat} {fi : Ev → RX (List D)} {k : D → Ev → Option Ev} (hp : PassesOwn (model X.prog X.w) X.A X.env X.xe) (hc : X.calm = true) (hi : XI X tg iter fi) (hg : VG X tg ts k) (hb : VSs X W body F)
    (hs : ∀ x, foldedSetIterable iter X.env x = pure x := by intro _; rfl) : VS X W (.For tg iter body [] pos) (yFor fi k F) := by
  refine PS.imp (ps_for hp hc hi hg hb hs) fun En σ H ⟨S, G, Hs, ρ, r, h⟩ => ?_
  refine ⟨S, G, Hs, ρ, r, (liftX_post h).imp fun l ρ1 Hs1 H1 g1 r1 q J hJ => ?_⟩
  refine ⟨fun i m σ' H' => m = l.length - i ∧ i ≤ l.length ∧ ∃ Hs2 ρ2, Same Hs1 Hs2 ∧ RelE X.K S G Hs2 H' σ' ρ2 ∧ OutOk X.K X.mg W S G Hs2 En (forO (gTo k F) (l.drop i) ρ2),
    ⟨l.length, by simp, Nat.zero_le _, Hs1, ρ1, .refl _, r1, q⟩, ?_⟩
  rintro i m σ' H' ⟨rfl, hi, Hs2, ρ2, g2, r2, q2⟩
  obtain ⟨j1, j2⟩ := hJ i Hs2 H' g2 r2.sub
  by_cases hl : i < l.length
  · obtain ⟨j1, j3⟩ := j1 l[i] (List.getElem?_eq_getElem hl)
    rw [List.drop_eq_getElem_cons hl] at q2
    refine .inr ⟨j1, fun σ3 H3 => ∃ Hs3 ρ3, Same Hs1 Hs3 ∧ RelE X.K S G Hs3 H3 σ3 ρ3 ∧ OutOk X.K X.mg W S G Hs3 En (forO (gTo k F) (l.drop (i + 1)) ρ3), fun σ3 H3 ⟨Hs3, ρ3, a1, a2, a3⟩ => ⟨_, (by omega : l.length - (i + 1) < l.length - i), rfl, hl, Hs3, ρ3, a1, a2, a3⟩, fun x H3 y => ?_⟩
    obtain ⟨Hs3, e3, d3⟩ := j3 x H3 y
    unfold forO gTo at q2
    cases z : k l[i] ρ2 with
    | none => rw [z] at q2; exact q2.elim
    | some ρ3 =>
      rw [z] at q2
      refine ⟨S, G, Hs3, ρ2, l[i], ρ3, r2.step e3, d3, z, fun σ4 _ _ r4 => ⟨S, G, Hs3, ρ3, r4, ?_⟩⟩
      have g3 := g2.trans e3.grow
      cases z2 : F ρ3 with
      | nx ρ' => simp only [z2] at q2; exact fun Hs' H' σ' a b => ⟨Hs', ρ', g3.trans a, b, q2.up (e3.grow.trans a)⟩
      | ct ρ' => simp only [z2] at q2; exact fun Hs' H' σ' a b => ⟨Hs', ρ', g3.trans a, b, q2.up (e3.grow.trans a)⟩
      | bk ρ' => simp only [z2] at q2; exact fun Hs' H' σ' a b => q2 Hs' H' σ' (e3.grow.trans a) b
      | rt r => simp only [z2] at q2; exact q2
      | rtB r ρ' => simp only [z2] at q2; exact OutOk.up (o := .rtB r ρ') q2 e3.grow
      | ex x ρ' => simp only [z2] at q2; exact fun Hs' H' σ' cls dd a => q2 Hs' H' σ' cls dd (e3.grow.trans a)
      | bad => simp only [z2] at q2; exact q2.elim
  · have e0 : i = l.length := by omega
    subst e0
    rw [List.drop_length] at q2
    exact .inl ⟨j2 (Nat.le_refl _), q2 Hs2 H' σ' (.refl _) r2⟩

theorem y_app (i : Nat) {x : Str} {p apos cpos : Pos} (ho : PE X (.Name x p) (tVar i)) (he : XE X e f)
    (hbase : attributeBase (.Name x p) "append" X.env (eval (.Name x p) X.env) = eval (.Name x p) X.env := by rfl)
    (hfew : ((backTo cpos (starEach [e] X.env)).all (fun x => !x.1) && (backToKw cpos (keywordEach [] X.env)).all (fun x => x.1.isSome)
      && decide ([e].length + ([] : List Keyword).length + (if ([] : List Keyword).isEmpty then 0 else 1) < 30)) = true := by rfl)
    (hline : (apos.endLine == cpos.line) = true := by rfl) (hs : starEach [e] X.env = (false, eval e X.env) :: starEach [] X.env := by rfl) (hplain : (backTo cpos (starEach [] X.env)).any (·.1) = false := by rfl)
    (hsw : swapsWith (.Call (.Attribute (.Name x p) "append" apos) [e] [] cpos) none pos.line X.env = pure false := by rfl) :
    VS X W (.Expr (.Call (.Attribute (.Name x p) "append" apos) [e] [] cpos) pos) (yApp i f) := by
  refine PS.imp (ps_expr (pe_bm PySem.F.plainAttrs_list PySem.F.slot_list_append PySem.F.type_list_append mt_append ho (pa_cons he pa_nil hs) hbase hfew hline hs hplain) hsw) fun D σ H ⟨S, G, Hs, ρ, r, h⟩ => ?_
  unfold yApp at h
  cases z0 : lstAt ρ i with
  | none => simp only [z0] at h; exact h.elim
  | some lb =>
    simp only [z0] at h
    obtain ⟨l0, b0⟩ := lb
    obtain ⟨a, vs0, o1, _, o4, _⟩ := r.lst z0
    refine ⟨_, o1, .inl ⟨rfl, vs0, .inl (.inl o4)⟩, S, G, Hs, ρ, r, (liftX_post h).imp fun d ρ1 Hs1 H1 g1 r1 q v hv => ?_⟩
    cases z : lstAt ρ1 i with
    | none => simp only [z] at q; exact q.elim
    | some lb =>
      obtain ⟨l, b⟩ := lb
      simp only [z] at q
      obtain ⟨a', vs, p1, _, p4, p5⟩ := r1.lst z
      rw [o1] at p1; cases p1
      split at q
      · rename_i hz
        refine ⟨a, vs, v, rfl, rfl, p4, by rw [← p5.length]; exact hz, ?_⟩
        exact q Hs1 _ σ (.refl _) (r1.wrL z o1 (p5.append (.cons hv .nil)))
      · exact q.elim
theorem y_store (i : Nat) {x : Str} {p spos : Pos} (ho : PE X (.Name x p) (tVar i)) (hi : XE X a g) (he : XE X e f)
    (hs : swapsWithSole [.Subscript (.Name x p) a spos] e pos.line X.env = pure false := by rfl) (hw : swappedStores [.Subscript (.Name x p) a spos] e X.env = pure none := by rfl)
    (h1 : (assignEach [.Subscript (.Name x p) a spos] X.env).map (·.2) = [assign (.Subscript (.Name x p) a spos) X.env] := by rfl)
    (ha : ∀ v, assign (.Subscript (.Name x p) a spos) X.env v = (do
      let ov ← holding [v] (eval (.Name x p) X.env)
      let iv ← holding [v, ov] (eval a X.env)
      standAt spos
      holding [v, ov, iv] (setItem ov iv v)
      release [v, ov, iv] []) := by intro _; rfl) : VS X W (.Assign [.Subscript (.Name x p) a spos] e pos) (yStore i g f) := by
  refine PS.imp (ps_asg he (pg_sub ho hi set_list ha) hs hw h1) fun D σ H ⟨S, G, Hs, ρ, r, h⟩ => ?_
  refine ⟨S, G, Hs, ρ, r, (liftX_post h).imp fun d ρ1 Hs1 H1 g1 r1 q v hv => ?_⟩
  cases z0 : lstAt ρ1 i with
  | none => simp only [z0] at q; exact q.elim
  | some lb =>
    simp only [z0] at q
    obtain ⟨l0, b0⟩ := lb
    obtain ⟨a0, vs0, o1, _, _, _⟩ := r1.lst z0
    refine ⟨_, o1, S, G, Hs1, ρ1, r1, (liftX_post q).imp fun k ρ2 Hs2 H2 g2 r2 q2 w hw => ?_⟩
    cases z : lstAt ρ2 i with
    | none => simp only [z] at q2; exact q2.elim
    | some lb =>
      obtain ⟨l, b⟩ := lb
      simp only [z] at q2
      obtain ⟨a', vs, p1, _, p4, p5⟩ := r2.lst z
      rw [o1] at p1; cases p1
      cases k with
      | int zz =>
        cases hw
        cases y : ixN l.length zz with
        | none => simp only [y] at q2; exact q2.elim
        | some j =>
          simp only [y] at q2
          refine ⟨a0, vs, zz, j, rfl, rfl, p4, by rw [← p5.length]; exact y, ?_⟩
          exact q2 Hs2 _ σ (.refl _) (r2.wrL z o1 (p5.set (hv.mono g2) j))
      | none => exact q2.elim
      | bool _ => exact q2.elim
      | str _ => exact q2.elim
      | list _ => exact q2.elim
      | tuple _ => exact q2.elim
      | dict _ => exact q2.elim
theorem x_pop (j : Nat) {x : Str} {p apos cpos : Pos} (ho : PE X (.Name x p) (tVar j))
    (hbase : attributeBase (.Name x p) "pop" X.env (eval (.Name x p) X.env) = eval (.Name x p) X.env := by rfl) (hline : (apos.endLine == cpos.line) = true := by rfl) :
    XE X (.Call (.Attribute (.Name x p) "pop" apos) [] [] cpos) (xPop j) := by
  refine PE.imp (pe_bm0 PySem.F.plainAttrs_list PySem.F.slot_list_pop PySem.F.type_list_pop mt_pop ho hbase hline) fun σ H Q ⟨S, G, Hs, ρ, r, h⟩ => ?_
  unfold xPop at h
  cases z0 : lstAt ρ j with
  | none => simp only [z0] at h; exact h.elim
  | some lb =>
    simp only [z0] at h
    obtain ⟨l, b⟩ := lb
    obtain ⟨a, vs, o1, _, o4, o5⟩ := r.lst z0
    cases z : l.getLast? with
    | none => simp only [z] at h; exact h.elim
    | some d =>
      simp only [z] at h
      obtain ⟨v, v1, v2⟩ := pop_at o5 z
      exact ⟨_, o1, .inl ⟨rfl, vs, .inl (.inl o4)⟩, a, vs, v, rfl, rfl, o4, v1, h.now (r.wrL z0 o1 o5.dropLast) v v2⟩
end

/-! ### defs with a list that is lent -/
inductive RB where
  | ok (r : SD) (l : List D)
  | bad
/-- arguments, the lent list at place b -/
inductive RpB (K : Fg) (H : Hp) (p : Addr) : Nat → List D → List V → Prop
  | here {ds : List D} {vs : List V} : RpL K H ds vs → RpB K H p 0 (.none :: ds) (.ref p :: vs)
  | there {b : Nat} {d : D} {v : V} {ds : List D} {vs : List V} : Rp K H d v → RpB K H p b ds vs → RpB K H p (b + 1) (d :: ds) (v :: vs)
theorem RpB.mono {K : Fg} {H H' : Hp} {p : Addr} (e : Same H H') : ∀ {b : Nat} {ds : List D} {vs : List V}, RpB K H p b ds vs → RpB K H' p b ds vs
  | _, _, _, .here r => .here (r.mono e)
  | _, _, _, .there h r => .there (h.mono e) (RpB.mono e r)
theorem RpB.length {K : Fg} {H : Hp} {p : Addr} : ∀ {b : Nat} {ds : List D} {vs : List V}, RpB K H p b ds vs → ds.length = vs.length
  | _, _, _, .here r => congrArg (· + 1) r.length
  | _, _, _, .there _ r => congrArg (· + 1) (RpB.length r)
theorem RpB.lt {K : Fg} {H : Hp} {p : Addr} : ∀ {b : Nat} {ds : List D} {vs : List V}, RpB K H p b ds vs → b < ds.length
  | _, _, _, .here r => Nat.succ_pos _
  | _, _, _, .there _ r => Nat.succ_lt_succ (RpB.lt r)
theorem RpB.get {K : Fg} {H : Hp} {p : Addr} : ∀ {b : Nat} {ds : List D} {vs : List V} {i : Nat} {d : D}, RpB K H p b ds vs → ds[i]? = some d → (i = b ∧ vs[i]? = some (.ref p)) ∨ (i ≠ b ∧ ∃ v, vs[i]? = some v ∧ Rp K H d v)
  | _, _, _, 0, d, .here r, e => .inl ⟨rfl, rfl⟩
  | _, _, _, i + 1, d, .here r, e => .inr ⟨by omega, by
    obtain ⟨v, h1, h2⟩ := r.get (i := i) (by simpa using e)
    exact ⟨v, by simpa using h1, h2⟩⟩
  | _, _, _, 0, d, .there h r, e => by
    simp at e; subst e
    exact .inr ⟨by omega, _, rfl, h⟩
  | _, _, _, i + 1, d, .there h r, e => by
    rcases RpB.get r (i := i) (by simpa using e) with ⟨rfl, h1⟩ | ⟨h0, v, h1, h2⟩
    · exact .inl ⟨rfl, by simpa using h1⟩
    · exact .inr ⟨by omega, v, by simpa using h1, h2⟩
theorem RpB.at_ {K : Fg} {H : Hp} {p : Addr} : ∀ {b : Nat} {ds : List D} {vs : List V}, RpB K H p b ds vs → vs[b]? = some (.ref p)
  | _, _, _, .here r => rfl
  | _, _, _, .there h r => by simpa using RpB.at_ r
def startB (n b : Nat) (l : List D) (ds : List D) : Ev := (startE n ds).set b (.bo l)
def finB (b : Nat) : Out → RB
  | .rtB r ρ => match ρ[b]? with
    | some (.bo l) => .ok r l
    | _ => .bad
  | .nx ρ => match ρ[b]? with
    | some (.bo l) => .ok (.sh .none) l
    | _ => .bad
  | _ => .bad
def runB (np n b : Nat) (F : Ev → Out) : List D → List D → RB := fun l ds => if ds.length = np ∧ b < np then finB b (F (startB n b l ds)) else .bad
def spB (K : Fg) (n b : Nat) (m : List D → List D → RB) : Sp := fun vs H Q _ => vs.length = n ∧ ∃ Hs l us p ds, SubT K Hs H ∧ Hs p = none ∧ H p = some (.lst us) ∧ RpL K Hs l us ∧ RpB K Hs p b ds vs ∧ (match m l ds with
  | .ok r l' => ∀ Hs' H' v us', Same Hs Hs' → Same Hs' H' → (∀ a o, a ≠ p → H a = some o → H' a = some o) → (∀ a o, Hs' a = some o → Hs a = none → H a = none) → Hs' p = none → H' p = some (.lst us') → RpL K Hs' l' us' → RpO K H Hs' H' r v → Q v H'
  | .bad => False)
theorem startB_rel {K : Fg} {N : List Str} {Hs H : Hp} {l : List D} {us : List V} {p : Addr} {b : Nat} {ds : List D} {vs : List V} (hl : vs.length ≤ N.length) (hs : SubT K Hs H) (h0 : Hs p = none) (h1 : H p = some (.lst us)) (hl2 : RpL K Hs l us) (r : RpB K Hs p b ds vs) :
    RelE K Hs ⟨fun a => if a = p then none else H a, fun j => if j = b then some p else none⟩ Hs H (L2.start N vs) (startB N.length b l ds) := by
  have hlen := r.length
  have hb := r.lt
  have sl : ∀ (i : Nat) (s : SD), (startB N.length b l ds)[i]? = some s → (i = b ∧ s = .bo l) ∨ (i ≠ b ∧ i < ds.length ∧ ∃ d, s = .sh d ∧ ds[i]? = some d) ∨ (i ≠ b ∧ s = .no) := fun i s hi => by
    unfold startB at hi
    rcases set_get hi with ⟨rfl, _, rfl⟩ | ⟨hne, hi⟩
    · exact .inl ⟨rfl, rfl⟩
    · right
      unfold startE at hi
      by_cases h : i < ds.length
      · rw [List.getElem?_append_left (by simpa using h), List.getElem?_map] at hi
        obtain ⟨d, e1, rfl⟩ := Option.map_eq_some_iff.mp hi
        exact .inl ⟨hne, h, d, rfl, e1⟩
      · rw [List.getElem?_append_right (by simpa using h), List.getElem?_replicate] at hi
        split at hi
        · cases hi; exact .inr ⟨hne, rfl⟩
        · cases hi
  have vsat : ∀ i v, vs[i]? = some v → (L2.start N vs)[i]? = some (some v) := fun i v h => by
    unfold L2.start
    have : i < vs.length := (List.getElem?_eq_some_iff.mp h).1
    rw [List.getElem?_append_left (by simpa using this), List.getElem?_map, h]; rfl
  refine ⟨hs.sub, fun a u e => ?_, ⟨.refl _, hs.tab⟩, fun a o e n => (by rw [e] at n; cases n), ?_, fun i s hi => ?_, fun j a ha => ?_, fun i j p' ha hb' => ?_, fun i j l m q a _ _ _ => ?_⟩
  · by_cases h : a = p
    · have e' : (if a = p then none else H a) = some u := e
      rw [if_pos h] at e'; cases e'
    · have e' : (if a = p then none else H a) = some u := e
      rw [if_neg h] at e'; exact e'
  · unfold startB
    simp [L2.start, startE, hlen]
  · rcases sl i s hi with ⟨rfl, rfl⟩ | ⟨hne, hlt, d, rfl, hd⟩ | ⟨_, rfl⟩
    · exact ⟨p, us, vsat _ _ r.at_, if_pos rfl, h1, hl2⟩
    · rcases r.get hd with ⟨e, _⟩ | ⟨_, v, h2, h3⟩
      · exact (hne e).elim
      · exact ⟨v, vsat _ _ h2, h3⟩
    · trivial
  · have ha : (if j = b then some p else none) = some a := ha
    split at ha
    · cases ha
      exact ⟨if_pos rfl, h0, by rw [h1]; simp⟩
    · cases ha
  · have ha : (if i = b then some p else none) = some p' := ha
    have hb' : (if j = b then some p else none) = some p' := hb'
    split at ha
    · split at hb'
      · omega
      · cases hb'
    · cases ha
  · rcases sl i _ a with ⟨_, e⟩ | ⟨_, _, d, e, _⟩ | ⟨_, e⟩ <;> cases e
section
variable {P : Program} {w : World} {K : Fg} {mg : Str → Option Value} {base : Heap}
structure BOk (P : Program) (w : World) (K : Fg) (mg : Str → Option Value) (base : Heap) (k : Nat) (f : Addr) (fd : FuncData) (ps : List Str) (b : Nat) (m : List D → List D → RB) : Prop where
  fn : FnG P w K mg base k f fd ps (spB K ps.length b m)
  ar : ∀ l ds, m l ds ≠ .bad → ds.length = ps.length ∧ b < ps.length
theorem RelE.endB {S Hs' H' : Hp} {G : Gx} {σ : Sg} {ρ : Ev} {b : Nat} {l : List D} (r : RelE K S G Hs' H' σ ρ) (h : ρ[b]? = some (.bo l)) : ∃ p us, G.b b = some p ∧ Hs' p = none ∧ H' p = some (.lst us) ∧ RpL K Hs' l us := by
  obtain ⟨p, us, e1, e2, e3, e4⟩ := r.lent h
  exact ⟨p, us, e2, (r.bor _ p e2).2.1, e3, e4⟩
theorem defB_ok {x qual : Str} {st : Stmt} {f : Addr} {fd : FuncData} {N ps : List Str} {k b : Nat} {F : Ev → Out} (Fn : Fun K x qual st f fd) (S : FnScope N ps (defScope st))
    (body : ∀ (cdv : Value) (A : Around) (outer : List Env) (s : Shared) (H : Hp) (E : XK), Inn (cxOf (L2N.CX P w) P w K mg base N qual (defScope st) f cdv A outer s H E) (fun cls d _ H => E cls d H) k →
      VSs (cxOf (L2N.CX P w) P w K mg base N qual (defScope st) f cdv A outer s H E) (fun cls d _ H => E cls d H) (defBody st) F) :
    BOk P w K mg base (k + 1) f fd ps b (runB ps.length N.length b F) := by
  refine ⟨?_, fun l ds h => ?_⟩
  · obtain ⟨oc, od, kV, doc, pm, an, cdv, ct, osl, rfl, lk, hcd⟩ := Fn.ex
    refine fn_ofG lk hcd S (fun vs H Q E h => h.1) fun A outer s H vs Q E hr hgd h => ⟨_, body cdv A outer s H E ⟨hr, hgd, L2N.takes_of rfl rfl rfl rfl, passes_of rfl⟩, ?_⟩
    obtain ⟨hl, Hs, l, us, p, ds, hs, h0, h1, h2, hds, h⟩ := h
    have rel := startB_rel (N := N) (by rw [hl]; exact VL.FnScope.le S) hs h0 h1 h2 hds
    refine ⟨Hs, ⟨fun a => if a = p then none else H a, fun j => if j = b then some p else none⟩, Hs, _, rel, ?_⟩
    unfold runB at h
    rw [if_pos ⟨hds.length.trans hl, by rw [← hl, ← hds.length]; exact hds.lt⟩] at h
    have fin : ∀ (r : SD) (ρ : Ev) (l' : List D) Hs' H' σ' v, ρ[b]? = some (.bo l') → Same Hs Hs' → RelE K Hs ⟨fun a => if a = p then none else H a, fun j => if j = b then some p else none⟩ Hs' H' σ' ρ → RpO K (fun a => if a = p then none else H a) Hs' H' r v → (∀ l, r = .ow l → v ≠ .ref p) →
        (∀ Hs' H' v us', Same Hs Hs' → Same Hs' H' → (∀ a o, a ≠ p → H a = some o → H' a = some o) → (∀ a o, Hs' a = some o → Hs a = none → H a = none) → Hs' p = none → H' p = some (.lst us') → RpL K Hs' l' us' → RpO K H Hs' H' r v → Q v H') → Q v H' := by
      intro r ρ l' Hs' H' σ' v hb g rl hv hne q
      obtain ⟨p', us', e1, e2, e3, e4⟩ := rl.endB hb
      have e1 : (if b = b then some p else none) = some p' := e1
      rw [if_pos rfl] at e1
      cases e1
      refine q Hs' H' v us' g rl.sub (fun a o hn e => rl.old a o ((if_neg hn).trans e)) (fun a o e n => ?_) e2 e3 e4 ?_
      · have := rl.new a o e n
        by_cases z : a = p
        · subst z; rw [e2] at e; cases e
        · exact (if_neg z).symm.trans this
      · cases r with
        | no => exact hv
        | sh d => exact hv
        | bo l => exact hv
        | ow l =>
          obtain ⟨q', ws, rfl, f1, f2, f3, f4⟩ := hv
          refine ⟨q', ws, rfl, ?_, f2, f3, f4⟩
          have hn : q' ≠ p := fun z => hne l rfl (by rw [z])
          exact (if_neg hn).symm.trans f1
    show OutOk K mg (fun cls d _ H => E cls d H) Hs _ Hs _ (F (startB N.length b l ds))
    cases z : F (startB N.length b l ds) with
    | nx ρ =>
      rw [z] at h
      unfold finB at h
      simp only at h
      cases y : ρ[b]? with
      | none => rw [y] at h; exact h.elim
      | some s =>
        rw [y] at h
        cases s with
        | bo l' => exact fun Hs' H' σ' g r => fin (.sh .none) ρ l' Hs' H' σ' .non y g r .non (fun l z => by cases z) h
        | no => exact h.elim
        | sh _ => exact h.elim
        | ow _ => exact h.elim
    | rtB r0 ρ =>
      rw [z] at h
      unfold finB at h
      simp only at h
      cases y : ρ[b]? with
      | none => rw [y] at h; exact h.elim
      | some s =>
        rw [y] at h
        cases s with
        | bo l' => exact fun Hs' H' v σ' g r hv hne => fin r0 ρ l' Hs' H' σ' v y g r hv (fun l z => hne l z b p (if_pos rfl)) h
        | no => exact h.elim
        | sh _ => exact h.elim
        | ow _ => exact h.elim
    | rt r => rw [z] at h; exact h.elim
    | ex x ρ => rw [z] at h; exact h.elim
    | bk ρ => rw [z] at h; exact h.elim
    | ct ρ => rw [z] at h; exact h.elim
    | bad => rw [z] at h; exact h.elim
  · unfold runB at h
    split at h
    · assumption
    · exact (h rfl).elim
structure ClB (P : Program) (w : World) (K : Fg) (mg : Str → Option Value) (base : Heap) (k : Nat) (x : Str) (ps : List Str) (b : Nat) (m : List D → List D → RB) : Prop where
  ex : ∃ f fd, BOk P w K mg base k f fd ps b m ∧ mg x = some (.ref f) ∧ PySem.W.keepIn K (.ref f) = true ∧ Binds K fd ps []
theorem clB_ok {x : Str} {st : Stmt} {N ps : List Str} {k b : Nat} {F : Ev → Out} (Fn : Df K mg x st ps) (S : FnScope N ps (defScope st))
    (body : ∀ (f : Addr) (cdv : Value) (A : Around) (outer : List Env) (s : Shared) (H : Hp) (E : XK), Inn (cxOf (L2N.CX P w) P w K mg base N x (defScope st) f cdv A outer s H E) (fun cls d _ H => E cls d H) k →
      VSs (cxOf (L2N.CX P w) P w K mg base N x (defScope st) f cdv A outer s H E) (fun cls d _ H => E cls d H) (defBody st) F) :
    ClB P w K mg base (k + 1) x ps b (runB ps.length N.length b F) := by
  obtain ⟨f, fd, h1, h2, h3⟩ := Fn.ex
  exact ⟨f, fd, defB_ok h1 S fun cdv A outer s H E I => body f cdv A outer s H E I, h2, h1.kp, h3⟩
end
/-! ### calls that lend a list -/
def tXB (K : Fg) (b i : Nat) (f : Ev → RX (List D)) : TA := fun σ H Q => ∃ S G Hs ρ, RelE K S G Hs H σ ρ ∧ PostX K S G σ Hs (f ρ) (fun ds _ Hs' H' => ∀ vs p, σ[i]? = some (some (.ref p)) → RpB K Hs' p b ds vs → Q vs H')
def XB (X : Cx) (b i : Nat) (es : List Expr) (f : Ev → RX (List D)) : Prop := PA X es (tXB X.K b i f)
def xHere (i : Nat) (f : Ev → RX (List D)) : Ev → RX (List D) := fun ρ => match lstAt ρ i with
  | some _ => (f ρ).bind fun ds ρ => .ok (.none :: ds) ρ
  | none => .bad
def xCallB (m : List D → List D → RB) (i : Nat) (f : Ev → RX (List D)) : Ev → RX D := fun ρ => (f ρ).bind fun ds ρ => match lstAt ρ i with
  | some (l, k) => match m l ds with
    | .ok r l' => ofX (toD r) (ρ.set i (mkL k l'))
    | .bad => .bad
  | none => .bad
def xCallBO (m : List D → List D → RB) (i : Nat) (f : Ev → RX (List D)) : Ev → RX (List D) := fun ρ => (f ρ).bind fun ds ρ => match lstAt ρ i with
  | some (l, k) => match m l ds with
    | .ok r l' => ofX (toL r) (ρ.set i (mkL k l'))
    | .bad => .bad
  | none => .bad
section
variable {X : Cx} {W : WX} {e a b c : Expr} {es : List Expr} {pos p : Pos} {f g : Ev → RX D} {fl : Ev → RX (List D)} {x : Str}
theorem xb_here {i : Nat} {y : Str} {py : Pos} (h : PE X (.Name y py) (tVar i)) (hr : XA X es fl) (hs : starEach (.Name y py :: es) X.env = (false, eval (.Name y py) X.env) :: starEach es X.env := by rfl) : XB X 0 i (.Name y py :: es) (xHere i fl) := PA.imp (pa_cons h hr hs) fun σ H Q ⟨S, G, Hs, ρ, r, p⟩ => by
  unfold xHere at p
  cases z : lstAt ρ i with
  | none => rw [z] at p; exact p.elim
  | some lb =>
    rw [z] at p
    obtain ⟨l, k⟩ := lb
    obtain ⟨q, vs, o1, _, _, _⟩ := r.lst z
    refine ⟨_, o1, S, G, Hs, ρ, r, (PostX.bind (show PostX X.K S G σ Hs ((fl ρ).bind _) _ from p)).imp fun ds ρ1 Hs1 H1 g1 r1 q1 vs hv => ?_⟩
    exact q1.now r1 _ q o1 (.here hv)
theorem RelE.called {K : Fg} {S Hs H Hs' H' : Hp} {G : Gx} {σ : Sg} {ρ : Ev} {i : Nat} {l l' : List D} {k : Bool} {a : Addr} {us' : List V} (r : RelE K S G Hs H σ ρ) (z : lstAt ρ i = some (l, k)) (ha : σ[i]? = some (some (.ref a)))
    (c1 : Same Hs Hs') (c2 : Same Hs' H') (c3 : ∀ b o, b ≠ a → H b = some o → H' b = some o) (c4 : ∀ b o, Hs' b = some o → Hs b = none → H b = none) (c5 : Hs' a = none) (c6 : H' a = some (.lst us')) (c7 : RpL K Hs' l' us') :
    RelE K S G Hs' H' σ (ρ.set i (mkL k l')) := by
  have r1 := r.wrL z ha (l' := []) (ws := []) .nil
  have e : Ext Hs (upd H a (.lst [])) Hs' (upd H' a (.lst [])) := by
    refine ⟨fun b u q => ?_, fun b u q => ?_, c1, fun b o q n => ?_⟩
    · rw [upd_ne (ne_of_none q c5)]; exact c2 b u q
    · by_cases hb : b = a
      · subst hb; rw [upd_same] at q ⊢; exact q
      · rw [upd_ne hb] at q ⊢; exact c3 b u hb q
    · rw [upd_ne (ne_of_none q c5)]; exact c4 b o q n
  have r2 := r1.step e
  have hi : i < ρ.length := by
    rcases lstAt_cases z with ⟨_, h⟩ | ⟨_, h⟩ <;> exact (List.getElem?_eq_some_iff.mp h).1
  have z2 : lstAt (ρ.set i (mkL k [])) i = some ([], k) := by
    unfold lstAt
    rw [List.getElem?_set_self hi]
    cases k <;> rfl
  have r3 := r2.wrL z2 ha c7
  rw [List.set_set] at r3
  have : upd (upd H' a (.lst [])) a (.lst us') = H' := by
    funext b
    by_cases hb : b = a
    · subst hb; rw [upd_same, c6]
    · rw [upd_ne hb, upd_ne hb]
  rwa [this] at r3
theorem simX_callB {K : Fg} {m : List D → List D → RB} {n bb i : Nat} {E : Sg → XK} (vn : ∀ l ds, m l ds ≠ .bad → ds.length = n ∧ bb < n) : ∀ σ H Q, tX K (xCallB m i fl) σ H Q → tCallS (spB K n bb m) E (tXB K bb i fl) σ H Q := fun σ H Q ⟨S, G, Hs, ρ, r, p⟩ => by
  refine ⟨S, G, Hs, ρ, r, (PostX.bind p).imp fun ds ρ1 Hs1 H1 g1 r1 q vs a ha hv => ?_⟩
  cases z : lstAt ρ1 i with
  | none => simp only [z] at q; exact q.elim
  | some lb =>
    obtain ⟨l, k⟩ := lb
    simp only [z] at q
    obtain ⟨a', us, o1, o2, o3, o4⟩ := r1.lst z
    rw [ha] at o1; cases o1
    have nb : m l ds ≠ .bad := fun y => by simp only [y] at q; exact q
    refine ⟨by rw [← hv.length]; exact (vn l ds nb).1, Hs1, l, us, a, ds, r1.st0, o2, o3, o4, hv, ?_⟩
    cases y : m l ds with
    | bad => exact nb y
    | ok s l' =>
      simp only [y] at q ⊢
      intro Hs' H' v us' c1 c2 c3 c4 c5 c6 c7 c8
      obtain ⟨d, w, q3⟩ := ofX_post q
      cases s with
      | no => cases w
      | bo _ => cases w
      | sh d' =>
        cases w
        exact q3 Hs' H' c1 (r1.called z ha c1 c2 c3 c4 c5 c6 c7) v c8
      | ow l2 =>
        cases w
        obtain ⟨q0, ws, rfl, f1, f2, f3, f4⟩ := c8
        have hn : a ≠ q0 := fun z => by subst z; rw [o3] at f1; cases f1
        have g : Same Hs' (upd Hs' q0 (.lst ws)) := fun b u e => by rw [upd_ne (ne_of_none e f2)]; exact e
        refine q3 (upd Hs' q0 (.lst ws)) H' (c1.trans g) (r1.called z ha (c1.trans g) (fun b u e => ?_) c3 (fun b o e nn => ?_) ?_ c6 (c7.mono g)) _ (.lst (.inl (.inl upd_same)) (f4.mono g))
        · by_cases hb : b = q0
          · subst hb; rw [upd_same] at e; cases e; exact f3
          · rw [upd_ne hb] at e; exact c2 b u e
        · by_cases hb : b = q0
          · subst hb; exact f1
          · rw [upd_ne hb] at e; exact c4 b o e nn
        · rw [upd_ne hn]; exact c5
theorem x_callB {k j n i : Nat} {ps : List Str} {m : List D → List D → RB} (C : ClB X.prog X.w X.K X.mg X.base k x ps n m) (hr : Room j X.A) (hgd : X.A.guards = some []) (tk : L2N.Takes X W) (ha : XB X n i (e :: es) fl) (hg : Gl X x := by rfl) (hj : k ≤ j := by decide)
    (hdb : (x == ("__debug__" : Str)) = false := by decide) (he : starEach (e :: es) X.env = (false, eval e X.env) :: starEach es X.env := by rfl) (hpl : (backTo pos (starEach es X.env)).any (·.1) = false := by rfl) :
    XE X (.Call (.Name x p) (e :: es) [] pos) (xCallB m i fl) := by
  obtain ⟨f, fd, h1, h2, h3, h4⟩ := C.ex
  exact PE.imp (pe_callG h1.fn (hr.mono hj) hgd hg h2 h3 h4 (L2N.passAt tk) ha hdb he hpl) (simX_callB h1.ar)
/-! calls of other defs -/
end
end VL

set_option Elab.async false
set_option linter.all false
set_option maxRecDepth 100000
set_option autoImplicit false
namespace VL
open PySem PySem.Spec PyProof.Rows L2

/-! ### comprehensions whose items change a list -/
def Gx.plus (G : Gx) (D : Addr) (o : HO) : Gx := ⟨upd G.h D o, G.b⟩
section
variable {K : Fg} {S Hs H : Hp} {G : Gx} {σ : Sg} {ρ : Ev} {D : Addr} {o : HO}
theorem RelE.plus (r : RelE K S G Hs H σ ρ) (h : H D = none) (o : HO) : RelE K S (G.plus D o) Hs (upd H D o) σ ρ := by
  have hs : Hs D = none := r.sub.free h
  refine ⟨fun b u e => ?_, fun b u e => ?_, r.ext, fun p u e n => ?_, r.len, fun i s hi => ?_, fun j p hp => ?_, r.one, r.dis⟩
  · rw [upd_ne (ne_of_none e hs)]; exact r.sub b u e
  · have e' : upd G.h D o b = some u := e
    by_cases hb : b = D
    · subst hb; rw [upd_same] at e' ⊢; exact e'
    · rw [upd_ne hb] at e' ⊢; exact r.old b u e'
  · show upd G.h D o p = none
    rw [upd_ne (ne_of_none e hs)]; exact r.new p u e n
  · have q := r.slot i s hi
    cases s with
    | no => trivial
    | sh d => exact q
    | ow l =>
      obtain ⟨p, vs, e1, e2, e3, e4, e5, e6⟩ := q
      have hn : p ≠ D := fun z => by subst z; rw [h] at e4; cases e4
      exact ⟨p, vs, e1, by show upd G.h D o p = none; rw [upd_ne hn]; exact e2, e3, by rw [upd_ne hn]; exact e4, e5, e6⟩
    | bo l =>
      obtain ⟨p, vs, e1, e2, e3, e4⟩ := q
      have hn : p ≠ D := fun z => by subst z; rw [h] at e3; cases e3
      exact ⟨p, vs, e1, e2, by rw [upd_ne hn]; exact e3, e4⟩
  · obtain ⟨h1, h2, h3⟩ := r.bor j p hp
    have hn : p ≠ D := fun z => by subst z; exact h3 h
    exact ⟨by show upd G.h D o p = none; rw [upd_ne hn]; exact h1, h2, by rw [upd_ne hn]; exact h3⟩
theorem RelE.replus (r : RelE K S (G.plus D o) Hs H σ ρ) (hs : Hs D = none) (o' : HO) : RelE K S (G.plus D o') Hs (upd H D o') σ ρ := by
  have hG : ∀ {p : Addr}, (G.plus D o).h p = none → p ≠ D ∧ (G.plus D o').h p = none := fun {p} e => by
    have e' : upd G.h D o p = none := e
    by_cases hp : p = D
    · subst hp; rw [upd_same] at e'; cases e'
    · rw [upd_ne hp] at e'
      exact ⟨hp, by show upd G.h D o' p = none; rw [upd_ne hp]; exact e'⟩
  refine ⟨fun b u e => ?_, fun b u e => ?_, r.ext, fun p u e n => (hG (r.new p u e n)).2, r.len, fun i s hi => ?_, fun j p hp => ?_, r.one, r.dis⟩
  · rw [upd_ne (ne_of_none e hs)]; exact r.sub b u e
  · have e' : upd G.h D o' b = some u := e
    by_cases hb : b = D
    · subst hb; rw [upd_same] at e' ⊢; exact e'
    · rw [upd_ne hb] at e' ⊢
      exact r.old b u (by show upd G.h D o b = some u; rw [upd_ne hb]; exact e')
  · have q := r.slot i s hi
    cases s with
    | no => trivial
    | sh d => exact q
    | ow l =>
      obtain ⟨p, vs, e1, e2, e3, e4, e5, e6⟩ := q
      obtain ⟨hn, h2⟩ := hG e2
      exact ⟨p, vs, e1, h2, e3, by rw [upd_ne hn]; exact e4, e5, e6⟩
    | bo l =>
      obtain ⟨p, vs, e1, e2, e3, e4⟩ := q
      obtain ⟨hn, _⟩ := hG (r.bor _ p e2).1
      exact ⟨p, vs, e1, e2, by rw [upd_ne hn]; exact e3, e4⟩
  · obtain ⟨h1, h2, h3⟩ := r.bor j p hp
    obtain ⟨hn, h4⟩ := hG h1
    exact ⟨h4, h2, by rw [upd_ne hn]; exact h3⟩
theorem RelE.minus (r : RelE K S (G.plus D o) Hs H σ ρ) (hg : G.h D = none) (hs : Hs D = none) : RelE K S G Hs (fun b => if b = D then none else H b) σ ρ := by
  have hG : ∀ {p : Addr}, (G.plus D o).h p = none → p ≠ D ∧ G.h p = none := fun {p} e => by
    have e' : upd G.h D o p = none := e
    by_cases hp : p = D
    · subst hp; rw [upd_same] at e'; cases e'
    · rw [upd_ne hp] at e'
      exact ⟨hp, e'⟩
  refine ⟨fun b u e => ?_, fun b u e => ?_, r.ext, fun p u e n => (hG (r.new p u e n)).2, r.len, fun i s hi => ?_, fun j p hp => ?_, r.one, r.dis⟩
  · exact (if_neg (ne_of_none e hs)).trans (r.sub b u e)
  · have hb := ne_of_none e hg
    exact (if_neg hb).trans (r.old b u (by show upd G.h D o b = some u; rw [upd_ne hb]; exact e))
  · have q := r.slot i s hi
    cases s with
    | no => trivial
    | sh d => exact q
    | ow l =>
      obtain ⟨p, vs, e1, e2, e3, e4, e5, e6⟩ := q
      obtain ⟨hn, h2⟩ := hG e2
      exact ⟨p, vs, e1, h2, e3, (if_neg hn).trans e4, e5, e6⟩
    | bo l =>
      obtain ⟨p, vs, e1, e2, e3, e4⟩ := q
      obtain ⟨hn, _⟩ := hG (r.bor _ p e2).1
      exact ⟨p, vs, e1, e2, (if_neg hn).trans e3, e4⟩
  · obtain ⟨h1, h2, h3⟩ := r.bor j p hp
    obtain ⟨hn, h4⟩ := hG h1
    exact ⟨h4, h2, fun z => h3 ((if_neg hn).symm.trans z)⟩
theorem wipeE_get {j : Nat} {r : SD} : ∀ {vs : List Nat}, (wipeE ρ vs)[j]? = some r → r = .no ∨ (j ∉ vs ∧ ρ[j]? = some r)
  | [], h => .inr ⟨by simp, h⟩
  | v :: vs, h => by
    unfold wipeE at h
    rcases set_get h with ⟨rfl, _, rfl⟩ | ⟨hj, h⟩
    · exact .inl rfl
    · rcases wipeE_get h with h | ⟨h1, h2⟩
      · exact .inl h
      · exact .inr ⟨by simp [hj, h1], h2⟩
theorem wipeE_length : ∀ {vs : List Nat}, (wipeE ρ vs).length = ρ.length
  | [] => rfl
  | v :: vs => by unfold wipeE; rw [List.length_set]; exact wipeE_length
theorem RelE.unwipe {vs : List Nat} (r : RelE K S G Hs H (L2.wipe σ vs) (wipeE ρ vs)) : RelE K S G Hs H σ (wipeE ρ vs) := by
  have hlen : ρ.length = σ.length := by
    have := r.len
    rwa [wipeE_length, wipe_length] at this
  have key : ∀ i s, (wipeE ρ vs)[i]? = some s → s = SD.no ∨ (L2.wipe σ vs)[i]? = σ[i]? := fun i s h => by
    rcases wipeE_get h with h1 | ⟨h1, h2⟩
    · exact .inl h1
    · right
      rw [wipe_get (by rw [← hlen]; exact (List.getElem?_eq_some_iff.mp h2).1), if_neg h1]
  refine ⟨r.sub, r.old, r.ext, r.new, by rw [wipeE_length, hlen], fun i s hi => ?_, r.bor, r.one, fun i j l m p a b c d => ?_⟩
  · have q := r.slot i s hi
    rcases key i s hi with rfl | e
    · trivial
    · rwa [e] at q
  · rcases key i _ a with e | e
    · cases e
    · rcases key j _ b with e' | e'
      · cases e'
      · exact r.dis i j l m p a b (e ▸ c) (e' ▸ d)
end
def compX (step : D → Ev → RX (Option D)) : List D → Ev → RX (List D)
  | [], ρ => .ok [] ρ
  | d :: ds, ρ => (step d ρ).bind fun o ρ1 => (compX step ds ρ1).bind fun r ρ2 => .ok (match o with | some y => y :: r | none => r) ρ2
def compXS (vs : List Nat) (g : D → Ev → Option Ev) (ft : Ev → RX Bool) (fe : Ev → RX D) : D → Ev → RX (Option D) := fun d ρ => match g d (wipeE ρ vs) with
  | some ρ' => (ft ρ').bind fun b ρ2 => if b then (fe ρ2).bind fun y ρ3 => .ok (some y) (wipeE ρ3 vs) else .ok none (wipeE ρ2 vs)
  | none => .bad
def xComp (vs : List Nat) (fi : Ev → RX (List D)) (g : D → Ev → Option Ev) (ft : Ev → RX Bool) (fe : Ev → RX D) : Ev → RX (List D) := fun ρ => (fi ρ).bind fun l ρ1 => if l.length ≤ sizeLine then compX (compXS vs g ft fe) l (wipeE ρ1 vs) else .bad
theorem RX.bind_assoc {α β γ : Type} (r : RX α) (f : α → Ev → RX β) (g : β → Ev → RX γ) : (r.bind f).bind g = r.bind fun a ρ => (f a ρ).bind g := by cases r <;> rfl
theorem simX_comp {K : Fg} {vs ts : List Nat} {fi : Ev → RX (List D)} {g : D → Ev → Option Ev} {ft : Ev → RX Bool} {fe : Ev → RX D} (ht : ∀ t ∈ ts, t ∈ vs) :
    ∀ σ H Q, tXO K (xComp vs fi g ft fe) σ H Q → tLc (tXI K fi) (tGt K ts g) (tXT K ft) (tX K fe) vs σ H Q := fun σ H Q ⟨S, G, Hs, ρ, r, p⟩ => by
  refine ⟨S, G, Hs, ρ, r, (PostX.bind p).imp fun l ρ1 Hs1 H1 g1 r1 q J hJ Dd hD => ?_⟩
  by_cases hz : l.length ≤ sizeLine
  case neg => rw [if_neg hz] at q; exact q.elim
  rw [if_pos hz] at q
  have hS : S Dd = none := r1.ext.free (r1.sub.free hD)
  have hG : G.h Dd = none := r1.old.free hD
  have hsD : ∀ {Hs2 H2 : Hp} {ρ2 : Ev} {σ2 : Sg} {o : HO}, RelE K S (G.plus Dd o) Hs2 H2 σ2 ρ2 → Hs2 Dd = none := fun {Hs2 H2 ρ2 σ2 o} r => by
    cases e : Hs2 Dd with
    | none => rfl
    | some u =>
      have := r.new Dd u e hS
      have z : upd G.h Dd o Dd = none := this
      rw [upd_same] at z; cases z
  have hat : ∀ {Hs2 H2 : Hp} {ρ2 : Ev} {σ2 : Sg} {o : HO}, RelE K S (G.plus Dd o) Hs2 H2 σ2 ρ2 → H2 Dd = some o := fun {Hs2 H2 ρ2 σ2 o} r => r.old Dd o (by show upd G.h Dd o Dd = some o; rw [upd_same])
  let P : List D → Ev → Hp → Hp → Prop := fun l _ Hs' H' => ∀ Hs2 H2 p vs, Ext Hs' H' Hs2 H2 → H' p = none → Hs2 p = none → H2 p = some (.lst vs) → RpL K Hs2 l vs → Q (.ref p) H2
  refine ⟨fun i m H' => m = l.length - i ∧ i ≤ l.length ∧ ∃ Hs2 ρ2 acc ws, Same Hs1 Hs2 ∧ RelE K S (G.plus Dd (.lst ws)) Hs2 H' (wipe σ vs) (wipeE ρ2 vs) ∧ RpL K Hs2 acc ws ∧ acc.length ≤ i ∧
      PostX K S G σ Hs2 ((compX (compXS vs g ft fe) (l.drop i) (wipeE ρ2 vs)).bind fun r ρ => .ok (acc ++ r) ρ) P,
    ⟨l.length, by simp, Nat.zero_le _, Hs1, ρ1, [], [], .refl _, (r1.plus hD _).wipe vs, .nil, Nat.le_refl _, ?_⟩, ?_⟩
  · rw [List.drop_zero]
    cases z : compX (compXS vs g ft fe) l (wipeE ρ1 vs) with
    | ok a ρ' => rw [z] at q; exact q
    | bad => rw [z] at q; exact q
  · rintro i m H' ⟨rfl, hi, Hs2, ρ2, acc, ws, g2, r2, d3, d4, q2⟩
    obtain ⟨j1, j2⟩ := hJ i Hs2 H' g2 r2.sub
    by_cases hl : i < l.length
    · obtain ⟨j1, j3⟩ := j1 l[i] (List.getElem?_eq_getElem hl)
      rw [List.drop_eq_getElem_cons hl] at q2
      refine .inr ⟨j1, fun H3 => ∃ Hs2 ρ2 acc ws, Same Hs1 Hs2 ∧ RelE K S (G.plus Dd (.lst ws)) Hs2 H3 (wipe σ vs) (wipeE ρ2 vs) ∧ RpL K Hs2 acc ws ∧ acc.length ≤ i + 1 ∧
        PostX K S G σ Hs2 ((compX (compXS vs g ft fe) (l.drop (i + 1)) (wipeE ρ2 vs)).bind fun r ρ => .ok (acc ++ r) ρ) P,
        fun H3 ⟨Hs3, ρ3, acc', ws', a⟩ => ⟨_, (by omega : l.length - (i + 1) < l.length - i), rfl, hl, Hs3, ρ3, acc', ws', a⟩, fun x H3 y => ?_⟩
      obtain ⟨Hs3, e3, h3⟩ := j3 x H3 y
      unfold compX at q2
      rw [RX.bind_assoc] at q2
      unfold compXS at q2
      have ww : wipeE (wipeE ρ2 vs) vs = wipeE ρ2 vs := by
        apply List.ext_getElem?
        intro j
        cases z : (wipeE (wipeE ρ2 vs) vs)[j]? with
        | none =>
          have := List.getElem?_eq_none_iff.mp z
          rw [wipeE_length] at this
          exact (List.getElem?_eq_none this).symm
        | some s =>
          rcases wipeE_get z with rfl | ⟨h1, h2⟩
          · by_cases m : j ∈ vs
            · have hj : j < (wipeE ρ2 vs).length := by
                have := (List.getElem?_eq_some_iff.mp z).1
                rwa [wipeE_length] at this
              have : ∀ (us : List Nat), j ∈ us → (wipeE ρ2 us)[j]? = some .no := fun us => by
                induction us with
                | nil => intro h; cases h
                | cons u us ih =>
                  intro h
                  unfold wipeE
                  by_cases e : u = j
                  · subst e; rw [List.getElem?_set_self (by rw [wipeE_length]; rwa [wipeE_length] at hj)]
                  · rw [List.getElem?_set_ne e]
                    rcases List.mem_cons.mp h with h | h
                    · exact (e h.symm).elim
                    · exact ih h
              exact (this vs m).symm
            · have : ∀ (ρ0 : Ev) (us : List Nat), j ∉ us → (wipeE ρ0 us)[j]? = ρ0[j]? := fun ρ0 us => by
                induction us with
                | nil => intro _; rfl
                | cons u us ih =>
                  intro h
                  rw [List.mem_cons, not_or] at h
                  unfold wipeE
                  rw [List.getElem?_set_ne (Ne.symm h.1), ih h.2]
              rw [← z, this _ vs m]
          · exact h2.symm
      rw [ww] at q2
      cases z : g l[i] (wipeE ρ2 vs) with
      | none => simp only [z] at q2; exact q2.elim
      | some ρ' =>
        simp only [z] at q2
        rw [RX.bind_assoc] at q2
        refine ⟨S, G.plus Dd (.lst ws), Hs3, wipeE ρ2 vs, l[i], ρ', r2.step e3, h3, z, fun σ' s1 s2 r4 => ?_⟩
        have hw := wipe_same s1 s2 ht
        refine ⟨hw, S, G.plus Dd (.lst ws), Hs3, ρ', r4, ?_⟩
        cases zt : ft ρ' with
        | bad => rw [zt] at q2; exact q2
        | ok b ρ5 =>
          rw [zt] at q2
          intro Hs5 H5 e5 r5
          cases b with
          | false =>
            simp only [Bool.false_eq_true, if_false]
            refine ⟨Hs5, ρ5, acc, ws, (g2.trans e3.grow).trans e5, ?_, (d3.mono e3.grow).mono e5, by omega, ?_⟩
            · have := r5.wipe vs
              rwa [hw] at this
            · have q3 : PostX K S G σ Hs2 _ P := q2
              simp only [RX.bind, Bool.false_eq_true, if_false] at q3
              have q4 := PostX.up q3 (e3.grow.trans e5)
              cases zc : compX (compXS vs g ft fe) (l.drop (i + 1)) (wipeE ρ5 vs) with
              | bad => unfold compXS at zc; simp only [RX.bind] at zc; rw [zc] at q4; exact q4
              | ok rr ρ7 => unfold compXS at zc; simp only [RX.bind] at zc; rw [zc] at q4; exact q4
          | true =>
            simp only [if_true]
            have q3 : PostX K S G σ Hs2 _ P := q2
            simp only [RX.bind, if_true] at q3
            refine ⟨S, G.plus Dd (.lst ws), Hs5, ρ5, r5, ?_⟩
            cases ze : fe ρ5 with
            | bad => simp only [ze] at q3; exact q3
            | ok y ρ6 =>
              simp only [ze] at q3
              intro Hs6 H6 e6 r6 v hv
              have k2 := hat r6
              have gg := (e3.grow.trans e5).trans e6
              have k3 := d3.mono gg
              refine ⟨ws, k2, by rw [← d3.length]; omega, Hs6, ρ6, acc ++ [y], ws ++ [v], g2.trans gg, ?_, k3.append (.cons hv .nil), by rw [List.length_append, List.length_singleton]; omega, ?_⟩
              · have := (r6.replus (hsD r6) (.lst (ws ++ [v]))).wipe vs
                rwa [hw] at this
              · have q4 := PostX.up q3 gg
                simp only [List.append_assoc, List.singleton_append]
                cases zc : compX (compXS vs g ft fe) (l.drop (i + 1)) (wipeE ρ6 vs) with
                | bad => unfold compXS at zc; simp only [RX.bind] at zc; rw [zc] at q4; exact q4
                | ok rr ρ7 => unfold compXS at zc; simp only [RX.bind] at zc; rw [zc] at q4; exact q4
    · have e0 : i = l.length := by omega
      subst e0
      rw [List.drop_length] at q2
      unfold compX at q2
      have q3 : PostX K S G σ Hs2 (.ok (acc ++ []) (wipeE ρ2 vs)) P := q2
      rw [List.append_nil] at q3
      have hs2 := hsD r2
      have rm := (r2.minus hG hs2).unwipe
      refine .inl ⟨j2 (Nat.le_refl _), q3 Hs2 _ (.refl _) rm Hs2 H' Dd ws ⟨r2.sub, fun b u e => ?_, .refl _, fun b o e nn => by rw [e] at nn; cases nn⟩ (if_pos rfl) hs2 (hat r2) d3⟩
      by_cases hb : b = Dd
      · have e' : (if b = Dd then none else H' b) = some u := e
        rw [if_pos hb] at e'; cases e'
      · have e' : (if b = Dd then none else H' b) = some u := e
        rw [if_neg hb] at e'; exact e'
def XTs (X : Cx) (ifs : List Expr) (f : Ev → RX Bool) : Prop := PTs X ifs (tXT X.K f)
section
variable {X : Cx} {W : WX} {elt tg iter c : Expr} {ifs : List Expr} {scope : Scope} {own : List (Str × Nat)} {pos : Pos} {ts : List Nat} {fi : Ev → RX (List D)} {g : D → Ev → Option Ev} {ft : Ev → RX Bool} {fe : Ev → RX D}
theorem xts_nil : XTs X [] (xl (cst true)) := PTs.imp pts_nil fun σ H Q ⟨S, G, Hs, ρ, r, p⟩ => p.now r
theorem x_comp (hc : X.calm = true) (hN : X.N.Nodup) (hi : XI X tg iter fi) (ok : BlkOk X.N X.env.scope scope own)
    (hg : ∀ (s : Shared) (H : Hp) (C : Addr) (cl : List (Str × Addr)) (fp : List Addr), VG (X.blk s H scope (compEnvC scope cl C X.env) fp) tg ts g)
    (ht : ∀ (s : Shared) (H : Hp) (C : Addr) (cl : List (Str × Addr)) (fp : List Addr), XTs (X.blk s H scope (compEnvC scope cl C X.env) fp) ifs ft)
    (he : ∀ (s : Shared) (H : Hp) (C : Addr) (cl : List (Str × Addr)) (fp : List Addr), XE (X.blk s H scope (compEnvC scope cl C X.env) fp) elt fe)
    (hts : ∀ t ∈ ts, t ∈ own.map (·.2) := by decide) (hs : ∀ x, foldedSetIterable iter X.env x = pure x := by intro _; rfl) :
    XO X (.ListComp elt [⟨tg, iter, ifs, 0⟩] scope pos) (xComp (own.map (·.2)) fi g ft fe) := PE.imp (pe_lc (g := tGt X.K ts g) (tt := tXT X.K ft) (te := tX X.K fe) hc hN hi ok hg ht he hs) (simX_comp hts)
theorem y_compO {i : Nat} {y : Str} {py spos : Pos} (hc : X.calm = true) (hN : X.N.Nodup) (hy : X.N[i]? = some y) (hyl : X.env.scope.names.lookup y = some .local)
    (hsw : swapsWith (.ListComp elt [⟨tg, iter, ifs, 0⟩] scope pos) (some (.Name y py)) spos.line X.env = pure true) (hi : XI X tg iter fi) (ok : BlkOk X.N X.env.scope scope own)
    (hg : ∀ (s : Shared) (H : Hp) (C : Addr) (cl : List (Str × Addr)) (fp : List Addr), VG (X.blk s H scope (compEnvC scope cl C X.env) fp) tg ts g)
    (ht : ∀ (s : Shared) (H : Hp) (C : Addr) (cl : List (Str × Addr)) (fp : List Addr), XTs (X.blk s H scope (compEnvC scope cl C X.env) fp) ifs ft)
    (he : ∀ (s : Shared) (H : Hp) (C : Addr) (cl : List (Str × Addr)) (fp : List Addr), XE (X.blk s H scope (compEnvC scope cl C X.env) fp) elt fe)
    (hts : ∀ t ∈ ts, t ∈ own.map (·.2) := by decide) (hs : ∀ x, foldedSetIterable iter X.env x = pure x := by intro _; rfl) :
    VS X W (.Assign [.Name y py] (.ListComp elt [⟨tg, iter, ifs, 0⟩] scope pos) spos) (ySetO i (xComp (own.map (·.2)) fi g ft fe)) := PS.imp (ps_setLc (g := tGt X.K ts g) (tt := tXT X.K ft) (te := tX X.K fe) hc hN hy hyl hsw hi ok hg ht he hs) fun D σ H ⟨S, G, Hs, ρ, r, h⟩ =>
  simX_comp hts σ H _ ⟨S, G, Hs, ρ, r, (liftX_post h).imp fun d ρ1 Hs1 H1 g1 r1 q Hs2 H2 p vs e h0 h1 h2 h3 => q Hs2 H2 _ e.grow (r1.setOw e h0 h1 h2 h3)⟩
end
end VL

set_option Elab.async false
set_option linter.all false
set_option maxRecDepth 100000
set_option autoImplicit false
namespace VL
open PySem PySem.Spec PyProof.Rows L2
/-! ### calls without arguments -/
section
variable {X : Cx} {W : WX} {k : Nat} {f : Addr} {fd : FuncData} {ps : List Str} {sp : Sp} {E : Sg → XK} {x : Str} {p pos : Pos}
end
end VL

set_option Elab.async false
set_option linter.all false
set_option maxRecDepth 100000
set_option maxHeartbeats 4000000
namespace VL
open PySem PySem.Spec PyProof.Rows L2

/-- how a call with n values and the keywords ks binds -/
structure KB (K : Fg) (fd : FuncData) (ps ks : List Str) (n : Nat) : Prop where
  to : ∀ (s : Shared) (us ws : List Value), K.In s.heap → us.length = n → ws.length = ks.length → BindsTo s fd ⟨us, ks.zip ws⟩ (ps.zip (us ++ ws))
section
variable {X : Cx} {n k : Nat} {f : Addr} {fd : FuncData} {ps ks : List Str} {sp : Sp} {E : Sg → XK} {x : Str} {p pos : Pos} {e : Expr} {es : List Expr} {kws : List Keyword} {t tk : TA}
theorem run_fnkG {pins : List (Addr × Obj)} {σ : Sg} {H : Hp} {s : Shared} {Q : VK} {us ws : List Value} {vs zs : List V} (F : FnG X.prog X.w X.K X.mg X.base k f fd ps sp) (hr : Room k X.A) (hgd : X.A.guards = some []) (hb : KB X.K fd ps ks n) (hx : PassesAt (L2N.CX X.prog X.w) X σ (E σ))
    (I : Inv X pins σ H s) (r : Vals vs us) (rz : Vals zs ws) (l1 : vs.length = n) (l2 : zs.length = ks.length) (h : sp (vs ++ zs) H Q (E σ)) : wpAny (model X.prog X.w) X.A (call (.ref f) us (ks.zip ws)) (EP X pins σ Q) X.xe s := by
  have r2 : Vals (vs ++ zs) (us ++ ws) := r.append rz
  refine wpAny_call (codeAny_mono (F.run X.A X.stack s H ⟨us, ks.zip ws⟩ (us ++ ws) (vs ++ zs) Q (E σ) hr hgd I.env0 (hb.to s us ws I.kIn (r.length.symm.trans l1) (rz.length.symm.trans l2)) r2 h) fun r s' hq => ?_)
  cases r with
  | error e => exact hx pins H s e s' I hq
  | ok fl =>
    cases fl with
    | ret u => exact I.after hq
    | next => exact False.elim hq
    | brk => exact False.elim hq
    | cont => exact False.elim hq
def tCallKS (n : Nat) (ks : List Str) (sp : Sp) (E : Sg → XK) (t tk : TA) : TE := fun σ H Q => t σ H fun vs H1 => tk σ H1 fun zs H2 => vs.length = n ∧ zs.length = ks.length ∧ sp (vs ++ zs) H2 Q (E σ)
theorem pe_callKG (F : FnG X.prog X.w X.K X.mg X.base k f fd ps sp) (hr : Room k X.A) (hgd : X.A.guards = some []) (hg : Gl X x) (hm : X.mg x = some (.ref f)) (hk : PySem.W.keepIn X.K (.ref f) = true) (hb : KB X.K fd ps ks n) (hx : ∀ σ, PassesAt (L2N.CX X.prog X.w) X σ (E σ))
    (ha : PA X (e :: es) t) (hkw : PK X kws tk) (hall : (backToKw pos (keywordEach kws X.env)).all (·.1.isSome) = true := by rfl) (hks : (backToKw pos (keywordEach kws X.env)).filterMap (·.1) = ks := by rfl)
    (hdb : (x == ("__debug__" : Str)) = false := by decide) (he : starEach (e :: es) X.env = (false, eval e X.env) :: starEach es X.env := by rfl)
    (hpl : ((backTo pos (starEach (e :: es) X.env)).any (·.1) || (backToKw pos (keywordEach kws X.env)).any (·.1.isNone)) = false := by rfl) :
    PE X (.Call (.Name x p) (e :: es) kws pos) (tCallKS n ks sp E t tk) := by
  refine ⟨fun pins s σ H Q I h => ?_⟩
  refine wpAny_Call_Name_kw (ld_glob I hg hm ?_ hdb)
  refine PySem.W.callWith_KW (h₀ := X.base) I.ok.mod.kin hk hall (thn (ha.run pos pins s σ H _ I h) fun us s1 ⟨vs, H1, I1, r, q⟩ => ?_) hpl he
  refine thn (hkw.run pos pins s1 σ H1 _ I1 q) fun ws s2 ⟨zs, H2, I2, rz, q2⟩ => ⟨I2.kIn, ?_⟩
  rw [hks]
  exact run_fnkG F hr hgd hb (hx σ) I2 r rz q2.1 q2.2.1 q2.2.2
end
/-- the keywords' values -/
def VKw (X : Cx) (W : WX) (kws : List Keyword) (f : Ev → R (List D)) : Prop := PK X kws (tA X.K X.mg W f)
def eApp (n k : Nat) (f g : Ev → R (List D)) : Ev → R (List D) := fun ρ => (f ρ).bind fun a => (g ρ).bind fun b => if a.length = n ∧ b.length = k then .ok (a ++ b) else .bad
section
variable {X : Cx} {W : WX} {e : Expr} {es : List Expr} {kws : List Keyword} {nm : Option Str} {f : Ev → R D} {fl fk : Ev → R (List D)} {kpos : Pos}
theorem PK.imp {t t' : TA} (h : PK X kws t) (g : ∀ σ H Q, t' σ H Q → t σ H Q) : PK X kws t' := ⟨fun pos pins s σ H Q I q => h.run pos pins s σ H Q I (g σ H Q q)⟩
theorem vk_nil : VKw X W [] (cst []) := PK.imp pk_nil fun σ H Q ⟨S, G, Hs, ρ, r, p⟩ => p.now r.sub [] .nil
theorem vk_cons (ha : VE X W e f) (hr : VKw X W kws fl) : VKw X W (⟨nm, e, kpos⟩ :: kws) (eCons f fl) := PK.imp (pk_cons ha hr) fun σ H Q ⟨S, G, Hs, ρ, r, p⟩ => by
  refine ⟨S, G, Hs, ρ, r, (Post.bind p).imp fun x Hs1 H1 e q u hu => ?_⟩
  refine ⟨S, G, Hs1, ρ, r.step e, (Post.bind q).imp fun xs Hs2 H2 e' q' us hus => ?_⟩
  exact q'.now e'.sub (u :: us) (.cons (hu.mono e'.grow) hus)
end
section
variable {X : Cx} {W : WX} {e : Expr} {es : List Expr} {pos p : Pos} {x : Str} {fl fk : Ev → R (List D)} {k j n : Nat} {f : Addr} {fd : FuncData} {ps ks : List Str} {m : List D → R SD} {kws : List Keyword}
/-- as VL's rule of a call, with the keywords' values behind -/
theorem sim_appK {K : Fg} {mg : Str → Option Value} {sp : Sp} {E : Sg → XK} : ∀ σ H Q, tCallS sp E (tA K mg W (eApp n ks.length fl fk)) σ H Q → tCallKS n ks sp E (tA K mg W fl) (tA K mg W fk) σ H Q := fun σ H Q ⟨S, G, Hs, ρ, r, p⟩ => by
  refine ⟨S, G, Hs, ρ, r, (Post.bind p).imp fun xs Hs1 H1 e q us hus => ?_⟩
  refine ⟨S, G, Hs1, ρ, r.step e, (Post.bind q).imp fun ys Hs2 H2 e' q' vs hvs => ?_⟩
  by_cases z : xs.length = n ∧ ys.length = ks.length
  · rw [if_pos z] at q'
    exact ⟨hus.length.symm.trans z.1, hvs.length.symm.trans z.2, q'.now e'.sub (us ++ vs) ((hus.mono e'.grow).append hvs)⟩
  · rw [if_neg z] at q'
    exact q'.elim
end
structure ClK (P : Program) (w : World) (K : Fg) (mg : Str → Option Value) (base : Heap) (k : Nat) (x : Str) (ps ks : List Str) (n : Nat) (m : List D → R SD) : Prop where
  ex : ∃ f fd, DOk P w K mg base k f fd ps m ∧ mg x = some (.ref f) ∧ PySem.W.keepIn K (.ref f) = true ∧ KB K fd ps ks n
structure DfK (K : Fg) (mg : Str → Option Value) (x : Str) (st : Stmt) (ps ks : List Str) (n : Nat) : Prop where
  ex : ∃ f fd, Fun K x x st f fd ∧ mg x = some (.ref f) ∧ KB K fd ps ks n
theorem clK_ok {P : Program} {w : World} {K : Fg} {mg : Str → Option Value} {base : Heap} {x : Str} {st : Stmt} {N ps ks : List Str} {n k : Nat} {F : Ev → Out} (Fn : DfK K mg x st ps ks n) (S : FnScope N ps (defScope st))
    (body : ∀ (f : Addr) (cdv : Value) (A : Around) (outer : List Env) (s : Shared) (H : Hp) (E : XK), Inn (cxOf (L2N.CX P w) P w K mg base N x (defScope st) f cdv A outer s H E) (fun cls d _ H => E cls d H) k →
      VSs (cxOf (L2N.CX P w) P w K mg base N x (defScope st) f cdv A outer s H E) (fun cls d _ H => E cls d H) (defBody st) F) :
    ClK P w K mg base (k + 1) x ps ks n (runD ps.length N.length F) := by
  obtain ⟨f, fd, h1, h2, h3⟩ := Fn.ex
  exact ⟨f, fd, def_ok h1 S fun cdv A outer s H E I => body f cdv A outer s H E I, h2, h1.kp, h3⟩
section
variable {X : Cx} {W : WX} {e : Expr} {es : List Expr} {pos p : Pos} {x : Str} {fl fk : Ev → R (List D)} {k j n : Nat} {ps ks : List Str} {m : List D → R SD} {kws : List Keyword}
theorem v_calK (C : ClK X.prog X.w X.K X.mg X.base k x ps ks n m) (hr : Room j X.A) (hgd : X.A.guards = some []) (tk : L2N.Takes X W) (ha : VA X W (e :: es) fl) (hkw : VKw X W kws fk) (hg : Gl X x := by rfl) (hj : k ≤ j := by decide)
    (hall : (backToKw pos (keywordEach kws X.env)).all (·.1.isSome) = true := by rfl) (hks : (backToKw pos (keywordEach kws X.env)).filterMap (·.1) = ks := by rfl)
    (hdb : (x == ("__debug__" : Str)) = false := by decide) (he : starEach (e :: es) X.env = (false, eval e X.env) :: starEach es X.env := by rfl)
    (hpl : ((backTo pos (starEach (e :: es) X.env)).any (·.1) || (backToKw pos (keywordEach kws X.env)).any (·.1.isNone)) = false := by rfl) :
    VE X W (.Call (.Name x p) (e :: es) kws pos) (eCall m (eApp n ks.length fl fk)) := by
  obtain ⟨f, fd, h1, h2, h3, h4⟩ := C.ex
  exact PE.imp (pe_callKG h1.fn (hr.mono hj) hgd hg h2 h3 h4 (L2N.passAt tk) ha hkw hall hks hdb he hpl) fun σ H Q q => sim_appK σ H Q (sim_call h1.ar σ H Q q)
end
theorem kb_of {K : Fg} {x qual : Str} {st : Stmt} {f : Addr} {fd : FuncData} {ps ks : List Str} {n : Nat} (F : Fun K x qual st f fd)
    (h : ∀ (kV doc pm : Value) (an : Option Addr) (cdv ct : Value) (us ws : List Value), us.length = n → ws.length = ks.length → bindArgs (PySem.W.fnOf x qual (defArgs st) (defBody st) (defScope st) .none kV doc pm an cdv ct) ⟨us, ks.zip ws⟩ = pure (ps.zip (us ++ ws))) : KB K fd ps ks n := by
  obtain ⟨oc, od, kV, doc, pm, an, cdv, ct, osl, rfl, lk, hcd⟩ := F.ex
  exact ⟨fun s us ws _ l1 l2 => BindsTo.of_eq (h kV doc pm an cdv ct us ws l1 l2)⟩
/-! ### a list of one's own that is only read while an expression is evaluated -/
mutual
def noLst : D → Bool
  | .list _ => false
  | .tuple l => noLsts l
  | .dict _ => false
  | _ => true
def noLsts : List D → Bool
  | [] => true
  | d :: l => noLst d && noLsts l
end
def cutH (H : Hp) (p : Addr) : Hp := fun a => if a = p then none else H a
theorem sqT_cut {K : Fg} {H : Hp} {p a : Addr} {us xs : List V} (hp : H p = some (.lst us)) (h : SqT K H a xs) : SqT K (cutH H p) a xs := by
  rcases h with h | h
  · left
    have hne : a ≠ p := by
      rintro rfl
      rcases h with h | ⟨o, h⟩
      · rw [hp] at h; cases h
      · rw [hp] at h; cases h
    rcases h with h | ⟨o, h⟩
    · exact .inl (by unfold cutH; rw [if_neg hne]; exact h)
    · exact .inr ⟨o, by unfold cutH; rw [if_neg hne]; exact h⟩
  · exact .inr h
mutual
theorem Rp.cut {K : Fg} {H : Hp} {p : Addr} {us : List V} (hp : H p = some (.lst us)) : ∀ {d : D} {v : V}, Rp K H d v → noLst d = true → Rp K (cutH H p) d v
  | _, _, .non, _ => .non
  | _, _, .bl b, _ => .bl b
  | _, _, .int i, _ => .int i
  | _, _, .str x, _ => .str x
  | _, _, .lst _ _, h => by simp [noLst] at h
  | _, _, .tup h r, hd => .tup (sqT_cut hp h) (RpL.cut hp r (by simpa [noLst] using hd))
  | _, _, .nl h r, hd => by simp [tg, noLst] at hd
  | _, _, .fl h r, hd => by simp [tf, noLst] at hd
  | _, _, .dk h l r, hd => by simp [dkD, noLst] at hd
  | _, _, .xob c h f l r, hd => by simp [xoD, noLst] at hd
  | _, _, .exf h l r, hd => by simp [exfD, noLst] at hd
theorem RpL.cut {K : Fg} {H : Hp} {p : Addr} {us : List V} (hp : H p = some (.lst us)) : ∀ {d : List D} {v : List V}, RpL K H d v → noLsts d = true → RpL K (cutH H p) d v
  | _, _, .nil, _ => .nil
  | _, _, .cons h r, hd => by
    simp only [noLsts, Bool.and_eq_true] at hd
    exact .cons (Rp.cut hp h hd.1) (RpL.cut hp r hd.2)
end
def thawR : R D → R D
  | .ok d => if noLst d then .ok d else .bad
  | _ => .bad
def eThaw (i : Nat) (f : Ev → R D) : Ev → R D := fun ρ => match ρ[i]? with
  | some (.ow l) => thawR (f (ρ.set i (.sh (.list l))))
  | _ => f ρ
theorem RelE.fzAt {K : Fg} {S Hs H : Hp} {G : Gx} {σ : Sg} {ρ : Ev} {i : Nat} {l : List D} (r : RelE K S G Hs H σ ρ) (hi : ρ[i]? = some (.ow l)) : ∃ p vs, Hs p = none ∧ H p = some (.lst vs) ∧ RelE K S G (upd Hs p (.lst vs)) H σ (ρ.set i (.sh (.list l))) := by
  obtain ⟨p, vs, e1, e2, e3, e4, e5, e6⟩ := r.own' hi
  have g : Same Hs (upd Hs p (.lst vs)) := fun b u q => by rw [upd_ne (ne_of_none q e3)]; exact q
  refine ⟨p, vs, e3, e4, ?_⟩
  refine ⟨fun b u q => ?_, r.old, r.ext.trans g, fun b u q n => ?_, by simpa using r.len, fun j s hj => ?_, fun jj a ha => ?_, r.one, fun j k m n q a b c d' => ?_⟩
  · by_cases hb : b = p
    · subst hb; rw [upd_same] at q; cases q; exact e4
    · rw [upd_ne hb] at q; exact r.sub b u q
  · by_cases hb : b = p
    · subst hb; exact e2
    · rw [upd_ne hb] at q; exact r.new b u q n
  · rcases set_get hj with ⟨rfl, hl, rfl⟩ | ⟨hj', hj⟩
    · exact ⟨_, e1, .lst (.inl (.inl upd_same)) (e5.mono g)⟩
    · have q := r.slot j s hj
      cases s with
      | no => trivial
      | sh d =>
        obtain ⟨v, q1, q2⟩ := q
        exact ⟨v, q1, q2.mono g⟩
      | ow m =>
        obtain ⟨q, xs, f1, f2, f3, f4, f5, f6⟩ := q
        refine ⟨q, xs, f1, f2, ?_, f4, f5.mono g, f6⟩
        rw [upd_ne]
        · exact f3
        · rintro rfl
          exact hj' (r.dis j i m l q hj hi f1 e1)
      | bo m =>
        obtain ⟨q, xs, f1, f2, f3, f4⟩ := q
        exact ⟨q, xs, f1, f2, f3, f4.mono g⟩
  · obtain ⟨h1, h2, h3⟩ := r.bor jj a ha
    refine ⟨h1, ?_, h3⟩
    rw [upd_ne]
    · exact h2
    · rintro rfl
      exact e6 jj ha
  · rcases set_get a with ⟨_, _, e⟩ | ⟨hj, a⟩
    · cases e
    · rcases set_get b with ⟨_, _, e⟩ | ⟨hk, b⟩
      · cases e
      · exact r.dis j k m n q a b c d'
theorem v_thaw {X : Cx} {W : WX} {e : Expr} {f : Ev → R D} (i : Nat) (h : VE X W e f) : VE X W e (eThaw i f) := PE.imp h fun σ H Q ⟨S, G, Hs, ρ, r, p⟩ => by
  unfold eThaw at p
  cases q : ρ[i]? with
  | none => rw [q] at p; exact ⟨S, G, Hs, ρ, r, p⟩
  | some s =>
    rw [q] at p
    cases s with
    | no => exact ⟨S, G, Hs, ρ, r, p⟩
    | bo l => exact ⟨S, G, Hs, ρ, r, p⟩
    | sh d => exact ⟨S, G, Hs, ρ, r, p⟩
    | ow l =>
      obtain ⟨a, vs, h1, h2, r'⟩ := r.fzAt q
      refine ⟨S, G, upd Hs a (.lst vs), _, r', ?_⟩
      simp only at p
      cases z : f (ρ.set i (.sh (.list l))) with
      | ex x => rw [z] at p; exact p.elim
      | bad => rw [z] at p; exact p.elim
      | ok d =>
        rw [z] at p
        simp only [thawR] at p
        split at p
        · rename_i nl
          intro Hs1 H1 ex v hv
          have ha : Hs1 a = some (.lst vs) := ex.grow _ _ upd_same
          refine p (cutH Hs1 a) H1 ⟨fun b u g => ?_, ex.same, fun b u g => ?_, fun b u g n => ?_⟩ v (Rp.cut ha hv nl)
          · unfold cutH at g
            split at g
            · cases g
            · exact ex.sub _ _ g
          · have hb : b ≠ a := ne_of_none g h1
            unfold cutH
            rw [if_neg hb]
            exact ex.grow _ _ (by rw [upd_ne hb]; exact g)
          · unfold cutH at g
            split at g
            · cases g
            · rename_i hb
              exact ex.fresh b u g (by rw [upd_ne hb]; exact n)
        · exact p.elim
end VL

set_option Elab.async false
set_option linter.all false
set_option maxRecDepth 100000
set_option autoImplicit false
namespace VL
open PySem PySem.Spec PyProof.Rows L2

/-! ### evaluation: rows for simp -/
def fin : Out → R SD
  | .nx _ => .ok (.sh .none)
  | .rt r => .ok r
  | .ex x _ => .ex x
  | _ => .bad
section
variable {α β γ δ : Type} {ρ : Ev} {f : Ev → R α} {g : Ev → R β} {h : Ev → R γ} {a : α} {d e : D} {l m : List D} {i j k : Nat} {s t : SD} {b : Bool} {x y z : Int}
@[simp] theorem r_get0 (u : α) (us : List α) : (u :: us)[0]? = some u := id rfl
@[simp] theorem r_getS (u : α) (us : List α) (n : Nat) : (u :: us)[n + 1]? = us[n]? := id rfl
@[simp] theorem r_bind_ok (F : α → R β) : (R.ok a).bind F = F a := id rfl
@[simp] theorem r_bind_ex (u : Xn) (F : α → R β) : (R.ex u : R α).bind F = .ex u := id rfl
@[simp] theorem r_bind_bad (F : α → R β) : (R.bad : R α).bind F = .bad := id rfl
@[simp] theorem r_ofO_some : ofO (some a) = .ok a := id rfl
@[simp] theorem r_ofO_none : ofO (none : Option α) = .bad := id rfl
@[simp] theorem r_noex_ok : noex (.ok a) = .ok a := id rfl
@[simp] theorem r_cst : cst a ρ = .ok a := id rfl
@[simp] theorem r_eVar : eVar i ρ = (match ρ[i]? with | some (.sh d) => .ok d | _ => .bad) := id rfl
@[simp] theorem r_eOwn : eOwn i ρ = (match ρ[i]? with | some (.sh d) => .ok d | some (.ow l) => .ok (.list l) | some (.bo l) => .ok (.list l) | _ => .bad) := id rfl
@[simp] theorem r_e1 (F : α → Option β) : e1 F f ρ = (f ρ).bind fun x => ofO (F x) := id rfl
@[simp] theorem r_e2 (F : α → β → Option γ) : e2 F f g ρ = (f ρ).bind fun x => (g ρ).bind fun y => ofO (F x y) := id rfl
@[simp] theorem r_e3 (F : α → β → γ → Option δ) : e3 F f g h ρ = (f ρ).bind fun x => (g ρ).bind fun y => (h ρ).bind fun z => ofO (F x y z) := id rfl
@[simp] theorem r_eCons (f : Ev → R D) (g : Ev → R (List D)) : eCons f g ρ = (f ρ).bind fun x => (g ρ).bind fun xs => .ok (x :: xs) := id rfl
@[simp] theorem r_eLst (f : Ev → R (List D)) : eLst f ρ = (f ρ).bind fun l => .ok (.list l) := id rfl
@[simp] theorem r_eIf (c : Ev → R Bool) (f g : Ev → R α) : eIf c f g ρ = (c ρ).bind fun b => if b then f ρ else g ρ := id rfl
@[simp] theorem r_eAnd (f g : Ev → R Bool) : eAnd f g ρ = (f ρ).bind fun b => if b then g ρ else .ok false := id rfl
@[simp] theorem r_eOr (f g : Ev → R Bool) : eOr f g ρ = (f ρ).bind fun b => if b then .ok true else g ρ := id rfl
@[simp] theorem r_eNot (f : Ev → R Bool) : eNot f ρ = (f ρ).bind fun b => .ok (!b) := id rfl
@[simp] theorem r_eAndV (f g : Ev → R D) : eAndV f g ρ = (f ρ).bind fun x => (ofO (truD x)).bind fun k => if k then g ρ else .ok x := id rfl
@[simp] theorem r_eOrV (f g : Ev → R D) : eOrV f g ρ = (f ρ).bind fun x => (ofO (truD x)).bind fun k => if k then .ok x else g ρ := id rfl
@[simp] theorem r_eChain (F F' : D → D → Option D) (f g h : Ev → R D) : eChain F F' f g h ρ = (f ρ).bind fun x => (g ρ).bind fun y => (ofO (F x y)).bind fun r => (ofO (bOf r)).bind fun b => if b then (h ρ).bind fun z => ofO (F' y z) else .ok (.bool false) := id rfl
@[simp] theorem r_eCall (m : List D → R SD) (fl : Ev → R (List D)) : eCall m fl ρ = (fl ρ).bind fun ds => (m ds).bind fun s => ofO (toD s) := id rfl
@[simp] theorem r_eCallO (m : List D → R SD) (fl : Ev → R (List D)) : eCallO m fl ρ = (fl ρ).bind fun ds => (m ds).bind fun s => ofO (toL s) := id rfl
@[simp] theorem r_pNo : pNo ρ = .ok none := id rfl
@[simp] theorem r_toD_sh : toD (.sh d) = some d := id rfl
@[simp] theorem r_toD_ow : toD (.ow l) = some (.list l) := id rfl
@[simp] theorem r_toL_ow : toL (.ow l) = some l := id rfl
/-! statements -/
@[simp] theorem r_liftE_ok (k : α → Out) : liftE (.ok a) ρ k = k a := id rfl
@[simp] theorem r_liftE_ex (u : Xn) (k : α → Out) : liftE (.ex u) ρ k = .ex u ρ := id rfl
@[simp] theorem r_liftE_bad (k : α → Out) : liftE .bad ρ k = .bad := id rfl
@[simp] theorem r_seqO_nx (k : Ev → Out) : seqO (.nx ρ) k = k ρ := id rfl
@[simp] theorem r_seqO_rt (k : Ev → Out) : seqO (.rt s) k = .rt s := id rfl
@[simp] theorem r_seqO_rtB (k : Ev → Out) : seqO (.rtB s ρ) k = .rtB s ρ := id rfl
@[simp] theorem r_seqO_bk (k : Ev → Out) : seqO (.bk ρ) k = .bk ρ := id rfl
@[simp] theorem r_seqO_ct (k : Ev → Out) : seqO (.ct ρ) k = .ct ρ := id rfl
@[simp] theorem r_seqO_ex (u : Xn) (k : Ev → Out) : seqO (.ex u ρ) k = .ex u ρ := id rfl
@[simp] theorem r_seqO_bad (k : Ev → Out) : seqO .bad k = .bad := id rfl
@[simp] theorem r_sNil : sNil ρ = .nx ρ := id rfl
@[simp] theorem r_sSeq (F G : Ev → Out) : sSeq F G ρ = seqO (F ρ) G := id rfl
@[simp] theorem r_sSet (f : Ev → R D) : sSet i f ρ = liftE (f ρ) ρ fun d => .nx (ρ.set i (.sh d)) := id rfl
@[simp] theorem r_sSetO (f : Ev → R (List D)) : sSetO i f ρ = liftE (f ρ) ρ fun d => .nx (ρ.set i (.ow d)) := id rfl
@[simp] theorem r_sAsg (f : Ev → R D) (g : D → Ev → Option Ev) : sAsg f g ρ = liftE (f ρ) ρ fun d => match g d ρ with | some ρ' => .nx ρ' | none => .bad := id rfl
@[simp] theorem r_sPar (f : Ev → R (List D)) : sPar i j f ρ = liftE (f ρ) ρ fun ds => match ds with | [d, d'] => .nx ((ρ.set i (.sh d)).set j (.sh d')) | _ => .bad := id rfl
@[simp] theorem r_sAug (F : D → D → Option D) (f : Ev → R D) : sAug i F f ρ = liftE ((eVar i ρ).bind fun x => (f ρ).bind fun y => ofO (F x y)) ρ fun d => .nx (ρ.set i (.sh d)) := id rfl
@[simp] theorem r_sRet (f : Ev → R D) : sRet f ρ = liftE (f ρ) ρ fun d => .rt (.sh d) := id rfl
@[simp] theorem r_sRetO (f : Ev → R (List D)) : sRetO f ρ = liftE (f ρ) ρ fun d => .rt (.ow d) := id rfl
@[simp] theorem r_sRetV : sRetV i ρ = (match ρ[i]? with | some (.ow l) => .rt (.ow l) | some (.sh d) => .rt (.sh d) | _ => .bad) := id rfl
@[simp] theorem r_sRetN : sRetN ρ = .rt (.sh .none) := id rfl
@[simp] theorem r_sIf (c : Ev → R Bool) (F F' : Ev → Out) : sIf c F F' ρ = liftE (c ρ) ρ fun b => if b then F ρ else F' ρ := id rfl
@[simp] theorem r_sDrop (f : Ev → R D) : sDrop f ρ = liftE (f ρ) ρ fun _ => .nx ρ := id rfl
@[simp] theorem r_sFz (F : Ev → Out) : sFz i F ρ = (match ρ[i]? with | some (.ow l) => F (ρ.set i (.sh (.list l))) | _ => F ρ) := id rfl
@[simp] theorem r_onOw (k : List D → Out) : onOw i ρ k = (match ρ[i]? with | some (.ow l) => k l | _ => .bad) := id rfl
@[simp] theorem r_sApp (f : Ev → R D) : sApp i f ρ = onOw i ρ fun l => liftE (f ρ) ρ fun d => if l.length < sizeLine then .nx (ρ.set i (.ow (l ++ [d]))) else .bad := id rfl
@[simp] theorem r_sExt (f : Ev → R D) : sExt i f ρ = onOw i ρ fun l => liftE (f ρ) ρ fun d => match d with
  | .list l' => if l.length + l'.length ≤ sizeLine then .nx (ρ.set i (.ow (l ++ l'))) else .bad
  | _ => .bad := id rfl
@[simp] theorem r_sStore (fi fv : Ev → R D) : sStore i fi fv ρ = onOw i ρ fun l => liftE ((fv ρ).bind fun d => (fi ρ).bind fun k => .ok (d, k)) ρ fun (d, k) => match k with
  | .int z => match ixN l.length z with
    | some j => .nx (ρ.set i (.ow (l.set j d)))
    | none => .bad
  | _ => .bad := id rfl
@[simp] theorem r_placeD : placeD l (.int z) = if 0 ≤ z ∧ z < 2 ^ 63 then (l[z.toNat]?).map fun y => (z.toNat, y) else none := id rfl
@[simp] theorem r_sAugIx (F : D → D → Option D) (fi fv : Ev → R D) : sAugIx i F fi fv ρ = onOw i ρ fun l => liftE ((fi ρ).bind fun k => ofO (placeD l k)) ρ fun jy => liftE ((fv ρ).bind fun d => ofO (F jy.2 d)) ρ fun d => .nx (ρ.set i (.ow (l.set jy.1 d))) := id rfl
@[simp] theorem r_sPop : sPop i j ρ = onOw j ρ fun l => match l.getLast? with
  | some d => .nx ((ρ.set j (.ow l.dropLast)).set i (.sh d))
  | none => .bad := id rfl
@[simp] theorem r_sFor (fi : Ev → R (List D)) (g : D → Ev → Option Ev) (F : Ev → Out) : sFor fi g F ρ = liftE (fi ρ) ρ fun l => forO (gTo g F) l ρ := id rfl
@[simp] theorem r_gTo (g : D → Ev → Option Ev) (F : Ev → Out) : gTo g F d ρ = match g d ρ with | some ρ' => F ρ' | none => .bad := id rfl
@[simp] theorem r_gSet : gSet i d ρ = some (ρ.set i (.sh d)) := id rfl
@[simp] theorem r_gTupD_t (n : Nat) (k : List D → Ev → Option Ev) : gTupD n k (.tuple l) ρ = (if l.length = n then k l ρ else none) := id rfl
@[simp] theorem r_gTupD_l (n : Nat) (k : List D → Ev → Option Ev) : gTupD n k (.list l) ρ = (if l.length = n then k l ρ else none) := id rfl
@[simp] theorem r_gsNil : gsNil [] ρ = some ρ := id rfl
@[simp] theorem r_gsCons (g : D → Ev → Option Ev) (k : List D → Ev → Option Ev) : gsCons g k (d :: l) ρ = (g d ρ).bind (k l) := id rfl
@[simp] theorem r_wipe_nil : wipeE ρ [] = ρ := id rfl
@[simp] theorem r_wipe_cons (vs : List Nat) : wipeE ρ (i :: vs) = (wipeE ρ vs).set i .no := id rfl
@[simp] theorem r_forO_nil (F : D → Ev → Out) : forO F [] ρ = .nx ρ := id rfl
@[simp] theorem r_eComp (vs : List Nat) (fi : Ev → R (List D)) (g : D → Ev → Option Ev) (ft : Ev → R Bool) (fe : Ev → R D) : eComp vs fi g ft fe ρ = (fi ρ).bind fun l => if l.length ≤ sizeLine then compR (compS vs g ft fe ρ) l else .bad := id rfl
@[simp] theorem r_compR_nil (st : D → R (Option D)) : compR st [] = .ok [] := id rfl
/-! evaluations that change lists -/
@[simp] theorem rx_bind_ok (F : α → Ev → RX β) : (RX.ok a ρ).bind F = F a ρ := id rfl
@[simp] theorem rx_bind_bad (F : α → Ev → RX β) : (RX.bad : RX α).bind F = .bad := id rfl
@[simp] theorem rx_xl (f : Ev → R α) : xl f ρ = (match f ρ with | .ok a => .ok a ρ | _ => .bad) := id rfl
@[simp] theorem rx_of_some : ofX (some a) ρ = .ok a ρ := id rfl
@[simp] theorem rx_of_none : ofX (none : Option α) ρ = .bad := id rfl
@[simp] theorem rx_x1 (F : α → Option β) (f : Ev → RX α) : x1 F f ρ = (f ρ).bind fun x ρ => ofX (F x) ρ := id rfl
@[simp] theorem rx_x2 (F : α → β → Option γ) (f : Ev → RX α) (g : Ev → RX β) : x2 F f g ρ = (f ρ).bind fun x ρ => (g ρ).bind fun y ρ => ofX (F x y) ρ := id rfl
@[simp] theorem rx_xCons (f : Ev → RX D) (g : Ev → RX (List D)) : xCons f g ρ = (f ρ).bind fun x ρ => (g ρ).bind fun xs ρ => .ok (x :: xs) ρ := id rfl
@[simp] theorem rx_xLst (f : Ev → RX (List D)) : xLst f ρ = (f ρ).bind fun l ρ => .ok (.list l) ρ := id rfl
@[simp] theorem rx_xIf (c : Ev → RX Bool) (f g : Ev → RX α) : xIf c f g ρ = (c ρ).bind fun b ρ => if b then f ρ else g ρ := id rfl
@[simp] theorem rx_xAnd (f g : Ev → RX Bool) : xAnd f g ρ = (f ρ).bind fun b ρ => if b then g ρ else .ok false ρ := id rfl
@[simp] theorem rx_xOr (f g : Ev → RX Bool) : xOr f g ρ = (f ρ).bind fun b ρ => if b then .ok true ρ else g ρ := id rfl
@[simp] theorem rx_xNot (f : Ev → RX Bool) : xNot f ρ = (f ρ).bind fun b ρ => .ok (!b) ρ := id rfl
@[simp] theorem rx_xCall (m : List D → R SD) (fl : Ev → RX (List D)) : xCall m fl ρ = (fl ρ).bind fun ds ρ => match m ds with | .ok s => ofX (toD s) ρ | _ => .bad := id rfl
@[simp] theorem rx_xCallO (m : List D → R SD) (fl : Ev → RX (List D)) : xCallO m fl ρ = (fl ρ).bind fun ds ρ => match m ds with | .ok s => ofX (toL s) ρ | _ => .bad := id rfl
@[simp] theorem rx_lstAt : lstAt ρ i = (match ρ[i]? with | some (.ow l) => some (l, false) | some (.bo l) => some (l, true) | _ => none) := id rfl
@[simp] theorem rx_mkT : mkL true l = .bo l := id rfl
@[simp] theorem rx_mkF : mkL false l = .ow l := id rfl
@[simp] theorem rx_xPop : xPop i ρ = (match lstAt ρ i with | some (l, b) => (match l.getLast? with | some d => .ok d (ρ.set i (mkL b l.dropLast)) | none => .bad) | none => .bad) := id rfl
@[simp] theorem rx_xHere (f : Ev → RX (List D)) : xHere i f ρ = (match lstAt ρ i with | some _ => (f ρ).bind fun ds ρ => .ok (.none :: ds) ρ | none => .bad) := id rfl
@[simp] theorem rx_xCallB (m : List D → List D → RB) (f : Ev → RX (List D)) : xCallB m i f ρ = (f ρ).bind fun ds ρ => match lstAt ρ i with | some (l, k) => (match m l ds with | .ok r l' => ofX (toD r) (ρ.set i (mkL k l')) | .bad => .bad) | none => .bad := id rfl
@[simp] theorem rx_xCallBO (m : List D → List D → RB) (f : Ev → RX (List D)) : xCallBO m i f ρ = (f ρ).bind fun ds ρ => match lstAt ρ i with | some (l, k) => (match m l ds with | .ok r l' => ofX (toL r) (ρ.set i (mkL k l')) | .bad => .bad) | none => .bad := id rfl
@[simp] theorem rx_xComp (vs : List Nat) (fi : Ev → RX (List D)) (g : D → Ev → Option Ev) (ft : Ev → RX Bool) (fe : Ev → RX D) : xComp vs fi g ft fe ρ = (fi ρ).bind fun l ρ1 => if l.length ≤ sizeLine then compX (compXS vs g ft fe) l (wipeE ρ1 vs) else .bad := id rfl
@[simp] theorem rx_lift_ok (k : α → Ev → Out) : liftX (.ok a ρ) k = k a ρ := id rfl
@[simp] theorem rx_lift_bad (k : α → Ev → Out) : liftX .bad k = .bad := id rfl
@[simp] theorem ry_set (f : Ev → RX D) : ySet i f ρ = liftX (f ρ) fun d ρ => .nx (ρ.set i (.sh d)) := id rfl
@[simp] theorem ry_setO (f : Ev → RX (List D)) : ySetO i f ρ = liftX (f ρ) fun d ρ => .nx (ρ.set i (.ow d)) := id rfl
@[simp] theorem ry_asg (f : Ev → RX D) (g : D → Ev → Option Ev) : yAsg f g ρ = liftX (f ρ) fun d ρ => match g d ρ with | some ρ' => .nx ρ' | none => .bad := id rfl
@[simp] theorem ry_if (c : Ev → RX Bool) (F F' : Ev → Out) : yIf c F F' ρ = liftX (c ρ) fun b ρ => if b then F ρ else F' ρ := id rfl
@[simp] theorem ry_drop (f : Ev → RX D) : yDrop f ρ = liftX (f ρ) fun _ ρ => .nx ρ := id rfl
@[simp] theorem ry_ret (f : Ev → RX D) : yRet f ρ = liftX (f ρ) fun d ρ => .rt (.sh d) := id rfl
@[simp] theorem ry_retO (f : Ev → RX (List D)) : yRetO f ρ = liftX (f ρ) fun d ρ => .rt (.ow d) := id rfl
@[simp] theorem ry_retB (f : Ev → RX D) : yRetB f ρ = liftX (f ρ) fun d ρ => .rtB (.sh d) ρ := id rfl
@[simp] theorem ry_retOB (f : Ev → RX (List D)) : yRetOB f ρ = liftX (f ρ) fun d ρ => .rtB (.ow d) ρ := id rfl
@[simp] theorem ry_retVB : yRetVB i ρ = (match ρ[i]? with | some (.ow l) => .rtB (.ow l) ρ | some (.sh d) => .rtB (.sh d) ρ | _ => .bad) := id rfl
@[simp] theorem ry_retNB : yRetNB ρ = .rtB (.sh .none) ρ := id rfl
@[simp] theorem ry_for (fi : Ev → RX (List D)) (g : D → Ev → Option Ev) (F : Ev → Out) : yFor fi g F ρ = liftX (fi ρ) fun l ρ => forO (gTo g F) l ρ := id rfl
@[simp] theorem ry_app (f : Ev → RX D) : yApp i f ρ = (match lstAt ρ i with
  | none => .bad
  | some _ => liftX (f ρ) fun d ρ => match lstAt ρ i with
    | some (l, b) => if l.length < sizeLine then .nx (ρ.set i (mkL b (l ++ [d]))) else .bad
    | none => .bad) := id rfl
@[simp] theorem ry_store (fi fv : Ev → RX D) : yStore i fi fv ρ = liftX (fv ρ) fun d ρ => match lstAt ρ i with
  | none => .bad
  | some _ => liftX (fi ρ) fun k ρ => match lstAt ρ i with
    | some (l, b) => match k with
      | .int z => match ixN l.length z with
        | some j => .nx (ρ.set i (mkL b (l.set j d)))
        | none => .bad
      | _ => .bad
    | none => .bad := id rfl
@[simp] theorem rx_fin_rtB (b : Nat) : finB b (.rtB s ρ) = (match ρ[b]? with | some (.bo l) => .ok s l | _ => .bad) := id rfl
@[simp] theorem rx_fin_nx (b : Nat) : finB b (.nx ρ) = (match ρ[b]? with | some (.bo l) => .ok (.sh .none) l | _ => .bad) := id rfl
@[simp] theorem rx_run1 (n b : Nat) (F : Ev → Out) (a : D) (h : b < 1) : runB 1 n b F l [a] = finB b (F ((.sh a :: List.replicate (n - 1) .no).set b (.bo l))) := if_pos ⟨rfl, h⟩
@[simp] theorem rx_run2 (n b : Nat) (F : Ev → Out) (a c : D) (h : b < 2) : runB 2 n b F l [a, c] = finB b (F ((.sh a :: .sh c :: List.replicate (n - 2) .no).set b (.bo l))) := if_pos ⟨rfl, h⟩
@[simp] theorem rx_run3 (n b : Nat) (F : Ev → Out) (a c d : D) (h : b < 3) : runB 3 n b F l [a, c, d] = finB b (F ((.sh a :: .sh c :: .sh d :: List.replicate (n - 3) .no).set b (.bo l))) := if_pos ⟨rfl, h⟩
@[simp] theorem rx_run4 (n b : Nat) (F : Ev → Out) (a c d e : D) (h : b < 4) : runB 4 n b F l [a, c, d, e] = finB b (F ((.sh a :: .sh c :: .sh d :: .sh e :: List.replicate (n - 4) .no).set b (.bo l))) := if_pos ⟨rfl, h⟩
@[simp] theorem r_run0 (n : Nat) (F : Ev → Out) : runD 0 n F [] = fin (F (List.replicate n .no)) := id rfl
/-! defs -/
@[simp] theorem r_fin_nx : fin (.nx ρ) = .ok (.sh .none) := id rfl
@[simp] theorem r_fin_rt : fin (.rt s) = .ok s := id rfl
@[simp] theorem r_fin_ex (u : Xn) : fin (.ex u ρ) = .ex u := id rfl
@[simp] theorem r_run1 (n : Nat) (F : Ev → Out) (a : D) : runD 1 n F [a] = fin (F (.sh a :: List.replicate (n - 1) .no)) := id rfl
@[simp] theorem r_run2 (n : Nat) (F : Ev → Out) (a b : D) : runD 2 n F [a, b] = fin (F (.sh a :: .sh b :: List.replicate (n - 2) .no)) := id rfl
@[simp] theorem r_run3 (n : Nat) (F : Ev → Out) (a b c : D) : runD 3 n F [a, b, c] = fin (F (.sh a :: .sh b :: .sh c :: List.replicate (n - 3) .no)) := id rfl
@[simp] theorem r_run4 (n : Nat) (F : Ev → Out) (a b c d : D) : runD 4 n F [a, b, c, d] = fin (F (.sh a :: .sh b :: .sh c :: .sh d :: List.replicate (n - 4) .no)) := id rfl
/-! data -/
theorem r_lim (l : List D) (h : l.length ≤ sizeLine) : lim l = some l := if_pos h
theorem r_tupD (l : List D) (h : l.length ≤ sizeLine) : tupD l = some (.tuple l) := by unfold tupD; rw [r_lim l h]; rfl
@[simp] theorem r_lim0 : lim [] = some [] := if_pos (show 0 ≤ sizeLine by decide)
@[simp] theorem r_tup0 : tupD [] = some (.tuple []) := r_tupD [] (show 0 ≤ sizeLine by decide)
@[simp] theorem r_lim1 (a0 : D) : lim [a0] = some [a0] := if_pos (show 1 ≤ sizeLine by decide)
@[simp] theorem r_tup1 (a0 : D) : tupD [a0] = some (.tuple [a0]) := r_tupD [a0] (show 1 ≤ sizeLine by decide)
@[simp] theorem r_lim2 (a0 a1 : D) : lim [a0, a1] = some [a0, a1] := if_pos (show 2 ≤ sizeLine by decide)
@[simp] theorem r_tup2 (a0 a1 : D) : tupD [a0, a1] = some (.tuple [a0, a1]) := r_tupD [a0, a1] (show 2 ≤ sizeLine by decide)
@[simp] theorem r_lim3 (a0 a1 a2 : D) : lim [a0, a1, a2] = some [a0, a1, a2] := if_pos (show 3 ≤ sizeLine by decide)
@[simp] theorem r_tup3 (a0 a1 a2 : D) : tupD [a0, a1, a2] = some (.tuple [a0, a1, a2]) := r_tupD [a0, a1, a2] (show 3 ≤ sizeLine by decide)
@[simp] theorem r_lim4 (a0 a1 a2 a3 : D) : lim [a0, a1, a2, a3] = some [a0, a1, a2, a3] := if_pos (show 4 ≤ sizeLine by decide)
@[simp] theorem r_tup4 (a0 a1 a2 a3 : D) : tupD [a0, a1, a2, a3] = some (.tuple [a0, a1, a2, a3]) := r_tupD [a0, a1, a2, a3] (show 4 ≤ sizeLine by decide)
@[simp] theorem r_lim5 (a0 a1 a2 a3 a4 : D) : lim [a0, a1, a2, a3, a4] = some [a0, a1, a2, a3, a4] := if_pos (show 5 ≤ sizeLine by decide)
@[simp] theorem r_tup5 (a0 a1 a2 a3 a4 : D) : tupD [a0, a1, a2, a3, a4] = some (.tuple [a0, a1, a2, a3, a4]) := r_tupD [a0, a1, a2, a3, a4] (show 5 ≤ sizeLine by decide)
@[simp] theorem r_lim6 (a0 a1 a2 a3 a4 a5 : D) : lim [a0, a1, a2, a3, a4, a5] = some [a0, a1, a2, a3, a4, a5] := if_pos (show 6 ≤ sizeLine by decide)
@[simp] theorem r_tup6 (a0 a1 a2 a3 a4 a5 : D) : tupD [a0, a1, a2, a3, a4, a5] = some (.tuple [a0, a1, a2, a3, a4, a5]) := r_tupD [a0, a1, a2, a3, a4, a5] (show 6 ≤ sizeLine by decide)
@[simp] theorem r_lim7 (a0 a1 a2 a3 a4 a5 a6 : D) : lim [a0, a1, a2, a3, a4, a5, a6] = some [a0, a1, a2, a3, a4, a5, a6] := if_pos (show 7 ≤ sizeLine by decide)
@[simp] theorem r_tup7 (a0 a1 a2 a3 a4 a5 a6 : D) : tupD [a0, a1, a2, a3, a4, a5, a6] = some (.tuple [a0, a1, a2, a3, a4, a5, a6]) := r_tupD [a0, a1, a2, a3, a4, a5, a6] (show 7 ≤ sizeLine by decide)
@[simp] theorem r_lim8 (a0 a1 a2 a3 a4 a5 a6 a7 : D) : lim [a0, a1, a2, a3, a4, a5, a6, a7] = some [a0, a1, a2, a3, a4, a5, a6, a7] := if_pos (show 8 ≤ sizeLine by decide)
@[simp] theorem r_tup8 (a0 a1 a2 a3 a4 a5 a6 a7 : D) : tupD [a0, a1, a2, a3, a4, a5, a6, a7] = some (.tuple [a0, a1, a2, a3, a4, a5, a6, a7]) := r_tupD [a0, a1, a2, a3, a4, a5, a6, a7] (show 8 ≤ sizeLine by decide)
@[simp] theorem r_lim9 (a0 a1 a2 a3 a4 a5 a6 a7 a8 : D) : lim [a0, a1, a2, a3, a4, a5, a6, a7, a8] = some [a0, a1, a2, a3, a4, a5, a6, a7, a8] := if_pos (show 9 ≤ sizeLine by decide)
@[simp] theorem r_tup9 (a0 a1 a2 a3 a4 a5 a6 a7 a8 : D) : tupD [a0, a1, a2, a3, a4, a5, a6, a7, a8] = some (.tuple [a0, a1, a2, a3, a4, a5, a6, a7, a8]) := r_tupD [a0, a1, a2, a3, a4, a5, a6, a7, a8] (show 9 ≤ sizeLine by decide)
@[simp] theorem r_lim10 (a0 a1 a2 a3 a4 a5 a6 a7 a8 a9 : D) : lim [a0, a1, a2, a3, a4, a5, a6, a7, a8, a9] = some [a0, a1, a2, a3, a4, a5, a6, a7, a8, a9] := if_pos (show 10 ≤ sizeLine by decide)
@[simp] theorem r_tup10 (a0 a1 a2 a3 a4 a5 a6 a7 a8 a9 : D) : tupD [a0, a1, a2, a3, a4, a5, a6, a7, a8, a9] = some (.tuple [a0, a1, a2, a3, a4, a5, a6, a7, a8, a9]) := r_tupD [a0, a1, a2, a3, a4, a5, a6, a7, a8, a9] (show 10 ≤ sizeLine by decide)
@[simp] theorem r_lim11 (a0 a1 a2 a3 a4 a5 a6 a7 a8 a9 a10 : D) : lim [a0, a1, a2, a3, a4, a5, a6, a7, a8, a9, a10] = some [a0, a1, a2, a3, a4, a5, a6, a7, a8, a9, a10] := if_pos (show 11 ≤ sizeLine by decide)
@[simp] theorem r_tup11 (a0 a1 a2 a3 a4 a5 a6 a7 a8 a9 a10 : D) : tupD [a0, a1, a2, a3, a4, a5, a6, a7, a8, a9, a10] = some (.tuple [a0, a1, a2, a3, a4, a5, a6, a7, a8, a9, a10]) := r_tupD [a0, a1, a2, a3, a4, a5, a6, a7, a8, a9, a10] (show 11 ≤ sizeLine by decide)
@[simp] theorem r_lim12 (a0 a1 a2 a3 a4 a5 a6 a7 a8 a9 a10 a11 : D) : lim [a0, a1, a2, a3, a4, a5, a6, a7, a8, a9, a10, a11] = some [a0, a1, a2, a3, a4, a5, a6, a7, a8, a9, a10, a11] := if_pos (show 12 ≤ sizeLine by decide)
@[simp] theorem r_tup12 (a0 a1 a2 a3 a4 a5 a6 a7 a8 a9 a10 a11 : D) : tupD [a0, a1, a2, a3, a4, a5, a6, a7, a8, a9, a10, a11] = some (.tuple [a0, a1, a2, a3, a4, a5, a6, a7, a8, a9, a10, a11]) := r_tupD [a0, a1, a2, a3, a4, a5, a6, a7, a8, a9, a10, a11] (show 12 ≤ sizeLine by decide)
@[simp] theorem r_lim13 (a0 a1 a2 a3 a4 a5 a6 a7 a8 a9 a10 a11 a12 : D) : lim [a0, a1, a2, a3, a4, a5, a6, a7, a8, a9, a10, a11, a12] = some [a0, a1, a2, a3, a4, a5, a6, a7, a8, a9, a10, a11, a12] := if_pos (show 13 ≤ sizeLine by decide)
@[simp] theorem r_tup13 (a0 a1 a2 a3 a4 a5 a6 a7 a8 a9 a10 a11 a12 : D) : tupD [a0, a1, a2, a3, a4, a5, a6, a7, a8, a9, a10, a11, a12] = some (.tuple [a0, a1, a2, a3, a4, a5, a6, a7, a8, a9, a10, a11, a12]) := r_tupD [a0, a1, a2, a3, a4, a5, a6, a7, a8, a9, a10, a11, a12] (show 13 ≤ sizeLine by decide)
@[simp] theorem r_lim14 (a0 a1 a2 a3 a4 a5 a6 a7 a8 a9 a10 a11 a12 a13 : D) : lim [a0, a1, a2, a3, a4, a5, a6, a7, a8, a9, a10, a11, a12, a13] = some [a0, a1, a2, a3, a4, a5, a6, a7, a8, a9, a10, a11, a12, a13] := if_pos (show 14 ≤ sizeLine by decide)
@[simp] theorem r_tup14 (a0 a1 a2 a3 a4 a5 a6 a7 a8 a9 a10 a11 a12 a13 : D) : tupD [a0, a1, a2, a3, a4, a5, a6, a7, a8, a9, a10, a11, a12, a13] = some (.tuple [a0, a1, a2, a3, a4, a5, a6, a7, a8, a9, a10, a11, a12, a13]) := r_tupD [a0, a1, a2, a3, a4, a5, a6, a7, a8, a9, a10, a11, a12, a13] (show 14 ≤ sizeLine by decide)
@[simp] theorem r_lim15 (a0 a1 a2 a3 a4 a5 a6 a7 a8 a9 a10 a11 a12 a13 a14 : D) : lim [a0, a1, a2, a3, a4, a5, a6, a7, a8, a9, a10, a11, a12, a13, a14] = some [a0, a1, a2, a3, a4, a5, a6, a7, a8, a9, a10, a11, a12, a13, a14] := if_pos (show 15 ≤ sizeLine by decide)
@[simp] theorem r_tup15 (a0 a1 a2 a3 a4 a5 a6 a7 a8 a9 a10 a11 a12 a13 a14 : D) : tupD [a0, a1, a2, a3, a4, a5, a6, a7, a8, a9, a10, a11, a12, a13, a14] = some (.tuple [a0, a1, a2, a3, a4, a5, a6, a7, a8, a9, a10, a11, a12, a13, a14]) := r_tupD [a0, a1, a2, a3, a4, a5, a6, a7, a8, a9, a10, a11, a12, a13, a14] (show 15 ≤ sizeLine by decide)
@[simp] theorem r_lim16 (a0 a1 a2 a3 a4 a5 a6 a7 a8 a9 a10 a11 a12 a13 a14 a15 : D) : lim [a0, a1, a2, a3, a4, a5, a6, a7, a8, a9, a10, a11, a12, a13, a14, a15] = some [a0, a1, a2, a3, a4, a5, a6, a7, a8, a9, a10, a11, a12, a13, a14, a15] := if_pos (show 16 ≤ sizeLine by decide)
@[simp] theorem r_tup16 (a0 a1 a2 a3 a4 a5 a6 a7 a8 a9 a10 a11 a12 a13 a14 a15 : D) : tupD [a0, a1, a2, a3, a4, a5, a6, a7, a8, a9, a10, a11, a12, a13, a14, a15] = some (.tuple [a0, a1, a2, a3, a4, a5, a6, a7, a8, a9, a10, a11, a12, a13, a14, a15]) := r_tupD [a0, a1, a2, a3, a4, a5, a6, a7, a8, a9, a10, a11, a12, a13, a14, a15] (show 16 ≤ sizeLine by decide)
@[simp] theorem r_lim17 (a0 a1 a2 a3 a4 a5 a6 a7 a8 a9 a10 a11 a12 a13 a14 a15 a16 : D) : lim [a0, a1, a2, a3, a4, a5, a6, a7, a8, a9, a10, a11, a12, a13, a14, a15, a16] = some [a0, a1, a2, a3, a4, a5, a6, a7, a8, a9, a10, a11, a12, a13, a14, a15, a16] := if_pos (show 17 ≤ sizeLine by decide)
@[simp] theorem r_tup17 (a0 a1 a2 a3 a4 a5 a6 a7 a8 a9 a10 a11 a12 a13 a14 a15 a16 : D) : tupD [a0, a1, a2, a3, a4, a5, a6, a7, a8, a9, a10, a11, a12, a13, a14, a15, a16] = some (.tuple [a0, a1, a2, a3, a4, a5, a6, a7, a8, a9, a10, a11, a12, a13, a14, a15, a16]) := r_tupD [a0, a1, a2, a3, a4, a5, a6, a7, a8, a9, a10, a11, a12, a13, a14, a15, a16] (show 17 ≤ sizeLine by decide)
@[simp] theorem r_lim18 (a0 a1 a2 a3 a4 a5 a6 a7 a8 a9 a10 a11 a12 a13 a14 a15 a16 a17 : D) : lim [a0, a1, a2, a3, a4, a5, a6, a7, a8, a9, a10, a11, a12, a13, a14, a15, a16, a17] = some [a0, a1, a2, a3, a4, a5, a6, a7, a8, a9, a10, a11, a12, a13, a14, a15, a16, a17] := if_pos (show 18 ≤ sizeLine by decide)
@[simp] theorem r_tup18 (a0 a1 a2 a3 a4 a5 a6 a7 a8 a9 a10 a11 a12 a13 a14 a15 a16 a17 : D) : tupD [a0, a1, a2, a3, a4, a5, a6, a7, a8, a9, a10, a11, a12, a13, a14, a15, a16, a17] = some (.tuple [a0, a1, a2, a3, a4, a5, a6, a7, a8, a9, a10, a11, a12, a13, a14, a15, a16, a17]) := r_tupD [a0, a1, a2, a3, a4, a5, a6, a7, a8, a9, a10, a11, a12, a13, a14, a15, a16, a17] (show 18 ≤ sizeLine by decide)
@[simp] theorem r_lim19 (a0 a1 a2 a3 a4 a5 a6 a7 a8 a9 a10 a11 a12 a13 a14 a15 a16 a17 a18 : D) : lim [a0, a1, a2, a3, a4, a5, a6, a7, a8, a9, a10, a11, a12, a13, a14, a15, a16, a17, a18] = some [a0, a1, a2, a3, a4, a5, a6, a7, a8, a9, a10, a11, a12, a13, a14, a15, a16, a17, a18] := if_pos (show 19 ≤ sizeLine by decide)
@[simp] theorem r_tup19 (a0 a1 a2 a3 a4 a5 a6 a7 a8 a9 a10 a11 a12 a13 a14 a15 a16 a17 a18 : D) : tupD [a0, a1, a2, a3, a4, a5, a6, a7, a8, a9, a10, a11, a12, a13, a14, a15, a16, a17, a18] = some (.tuple [a0, a1, a2, a3, a4, a5, a6, a7, a8, a9, a10, a11, a12, a13, a14, a15, a16, a17, a18]) := r_tupD [a0, a1, a2, a3, a4, a5, a6, a7, a8, a9, a10, a11, a12, a13, a14, a15, a16, a17, a18] (show 19 ≤ sizeLine by decide)
@[simp] theorem r_lim20 (a0 a1 a2 a3 a4 a5 a6 a7 a8 a9 a10 a11 a12 a13 a14 a15 a16 a17 a18 a19 : D) : lim [a0, a1, a2, a3, a4, a5, a6, a7, a8, a9, a10, a11, a12, a13, a14, a15, a16, a17, a18, a19] = some [a0, a1, a2, a3, a4, a5, a6, a7, a8, a9, a10, a11, a12, a13, a14, a15, a16, a17, a18, a19] := if_pos (show 20 ≤ sizeLine by decide)
@[simp] theorem r_tup20 (a0 a1 a2 a3 a4 a5 a6 a7 a8 a9 a10 a11 a12 a13 a14 a15 a16 a17 a18 a19 : D) : tupD [a0, a1, a2, a3, a4, a5, a6, a7, a8, a9, a10, a11, a12, a13, a14, a15, a16, a17, a18, a19] = some (.tuple [a0, a1, a2, a3, a4, a5, a6, a7, a8, a9, a10, a11, a12, a13, a14, a15, a16, a17, a18, a19]) := r_tupD [a0, a1, a2, a3, a4, a5, a6, a7, a8, a9, a10, a11, a12, a13, a14, a15, a16, a17, a18, a19] (show 20 ≤ sizeLine by decide)
@[simp] theorem r_lim21 (a0 a1 a2 a3 a4 a5 a6 a7 a8 a9 a10 a11 a12 a13 a14 a15 a16 a17 a18 a19 a20 : D) : lim [a0, a1, a2, a3, a4, a5, a6, a7, a8, a9, a10, a11, a12, a13, a14, a15, a16, a17, a18, a19, a20] = some [a0, a1, a2, a3, a4, a5, a6, a7, a8, a9, a10, a11, a12, a13, a14, a15, a16, a17, a18, a19, a20] := if_pos (show 21 ≤ sizeLine by decide)
@[simp] theorem r_tup21 (a0 a1 a2 a3 a4 a5 a6 a7 a8 a9 a10 a11 a12 a13 a14 a15 a16 a17 a18 a19 a20 : D) : tupD [a0, a1, a2, a3, a4, a5, a6, a7, a8, a9, a10, a11, a12, a13, a14, a15, a16, a17, a18, a19, a20] = some (.tuple [a0, a1, a2, a3, a4, a5, a6, a7, a8, a9, a10, a11, a12, a13, a14, a15, a16, a17, a18, a19, a20]) := r_tupD [a0, a1, a2, a3, a4, a5, a6, a7, a8, a9, a10, a11, a12, a13, a14, a15, a16, a17, a18, a19, a20] (show 21 ≤ sizeLine by decide)
@[simp] theorem r_lim22 (a0 a1 a2 a3 a4 a5 a6 a7 a8 a9 a10 a11 a12 a13 a14 a15 a16 a17 a18 a19 a20 a21 : D) : lim [a0, a1, a2, a3, a4, a5, a6, a7, a8, a9, a10, a11, a12, a13, a14, a15, a16, a17, a18, a19, a20, a21] = some [a0, a1, a2, a3, a4, a5, a6, a7, a8, a9, a10, a11, a12, a13, a14, a15, a16, a17, a18, a19, a20, a21] := if_pos (show 22 ≤ sizeLine by decide)
@[simp] theorem r_tup22 (a0 a1 a2 a3 a4 a5 a6 a7 a8 a9 a10 a11 a12 a13 a14 a15 a16 a17 a18 a19 a20 a21 : D) : tupD [a0, a1, a2, a3, a4, a5, a6, a7, a8, a9, a10, a11, a12, a13, a14, a15, a16, a17, a18, a19, a20, a21] = some (.tuple [a0, a1, a2, a3, a4, a5, a6, a7, a8, a9, a10, a11, a12, a13, a14, a15, a16, a17, a18, a19, a20, a21]) := r_tupD [a0, a1, a2, a3, a4, a5, a6, a7, a8, a9, a10, a11, a12, a13, a14, a15, a16, a17, a18, a19, a20, a21] (show 22 ≤ sizeLine by decide)
@[simp] theorem r_lim23 (a0 a1 a2 a3 a4 a5 a6 a7 a8 a9 a10 a11 a12 a13 a14 a15 a16 a17 a18 a19 a20 a21 a22 : D) : lim [a0, a1, a2, a3, a4, a5, a6, a7, a8, a9, a10, a11, a12, a13, a14, a15, a16, a17, a18, a19, a20, a21, a22] = some [a0, a1, a2, a3, a4, a5, a6, a7, a8, a9, a10, a11, a12, a13, a14, a15, a16, a17, a18, a19, a20, a21, a22] := if_pos (show 23 ≤ sizeLine by decide)
@[simp] theorem r_tup23 (a0 a1 a2 a3 a4 a5 a6 a7 a8 a9 a10 a11 a12 a13 a14 a15 a16 a17 a18 a19 a20 a21 a22 : D) : tupD [a0, a1, a2, a3, a4, a5, a6, a7, a8, a9, a10, a11, a12, a13, a14, a15, a16, a17, a18, a19, a20, a21, a22] = some (.tuple [a0, a1, a2, a3, a4, a5, a6, a7, a8, a9, a10, a11, a12, a13, a14, a15, a16, a17, a18, a19, a20, a21, a22]) := r_tupD [a0, a1, a2, a3, a4, a5, a6, a7, a8, a9, a10, a11, a12, a13, a14, a15, a16, a17, a18, a19, a20, a21, a22] (show 23 ≤ sizeLine by decide)
@[simp] theorem r_lim24 (a0 a1 a2 a3 a4 a5 a6 a7 a8 a9 a10 a11 a12 a13 a14 a15 a16 a17 a18 a19 a20 a21 a22 a23 : D) : lim [a0, a1, a2, a3, a4, a5, a6, a7, a8, a9, a10, a11, a12, a13, a14, a15, a16, a17, a18, a19, a20, a21, a22, a23] = some [a0, a1, a2, a3, a4, a5, a6, a7, a8, a9, a10, a11, a12, a13, a14, a15, a16, a17, a18, a19, a20, a21, a22, a23] := if_pos (show 24 ≤ sizeLine by decide)
@[simp] theorem r_tup24 (a0 a1 a2 a3 a4 a5 a6 a7 a8 a9 a10 a11 a12 a13 a14 a15 a16 a17 a18 a19 a20 a21 a22 a23 : D) : tupD [a0, a1, a2, a3, a4, a5, a6, a7, a8, a9, a10, a11, a12, a13, a14, a15, a16, a17, a18, a19, a20, a21, a22, a23] = some (.tuple [a0, a1, a2, a3, a4, a5, a6, a7, a8, a9, a10, a11, a12, a13, a14, a15, a16, a17, a18, a19, a20, a21, a22, a23]) := r_tupD [a0, a1, a2, a3, a4, a5, a6, a7, a8, a9, a10, a11, a12, a13, a14, a15, a16, a17, a18, a19, a20, a21, a22, a23] (show 24 ≤ sizeLine by decide)
@[simp] theorem r_tru_b : truD (.bool b) = some b := id rfl
@[simp] theorem r_tru_i : truD (.int x) = some (x != 0) := id rfl
@[simp] theorem r_tru_l : truD (.list l) = some (!l.isEmpty) := id rfl
@[simp] theorem r_tru_t : truD (.tuple l) = some (!l.isEmpty) := id rfl
@[simp] theorem r_tru_n : truD .none = some false := id rfl
@[simp] theorem r_bOf : bOf (.bool b) = some b := id rfl
@[simp] theorem r_add : addD (.int x) (.int y) = some (.int (x + y)) := id rfl
@[simp] theorem r_addL : addD (.list l) (.list m) = (catD l m).map .list := id rfl
@[simp] theorem r_addO : addO (.list l) (.list m) = catD l m := id rfl
@[simp] theorem r_cat (h : l.length + m.length ≤ sizeLine) : catD l m = some (l ++ m) := if_pos h
@[simp] theorem r_sub : subD (.int x) (.int y) = some (.int (x - y)) := id rfl
@[simp] theorem r_mul (h : okMul x y = true) : mulD (.int x) (.int y) = some (.int (x * y)) := if_pos h
@[simp] theorem r_imul (h : okMul x y = true) : imulD (.int x) (.int y) = some (.int (x * y)) := if_pos h
@[simp] theorem r_mulL : mulD (.list l) (.int x) = (repD l x).map .list := id rfl
@[simp] theorem r_mulO : mulO (.list l) (.int x) = repD l x := id rfl
@[simp] theorem r_iadd : iaddD (.int x) (.int y) = some (.int (x + y)) := id rfl
@[simp] theorem r_fdiv (h : okDiv x y = true) : fdivD (.int x) (.int y) = some (.int (x.fdiv y)) := if_pos h
@[simp] theorem r_mod (h : y ≠ 0) : modD (.int x) (.int y) = some (.int (x.fmod y)) := if_pos h
@[simp] theorem r_pow (h : okPow x y = true) : powD (.int x) (.int y) = some (.int (x ^ y.toNat)) := if_pos h
@[simp] theorem r_lt : ltD (.int x) (.int y) = some (.bool (decide (x < y))) := id rfl
@[simp] theorem r_le : leD (.int x) (.int y) = some (.bool (decide (x ≤ y))) := id rfl
@[simp] theorem r_gt : gtD (.int x) (.int y) = some (.bool (decide (y < x))) := id rfl
@[simp] theorem r_ge : geD (.int x) (.int y) = some (.bool (decide (y ≤ x))) := id rfl
@[simp] theorem r_neg : negD (.int x) = some (.int (-x)) := id rfl
@[simp] theorem r_not : notD d = (truD d).map fun k => .bool (!k) := id rfl
@[simp] theorem r_len_l : lenD [.list l] = some (.int l.length) := id rfl
@[simp] theorem r_len_t : lenD [.tuple l] = some (.int l.length) := id rfl
@[simp] theorem r_int_i : intD [.int x] = some (.int x) := id rfl
@[simp] theorem r_int_b : intD [.bool b] = some (.int (if b then 1 else 0)) := id rfl
@[simp] theorem r_abs : absD [.int x] = some (.int (if x < 0 then -x else x)) := id rfl
@[simp] theorem r_gcd : gcdD [.int x, .int y] = some (.int ((Nat.gcd x.natAbs y.natAbs : Nat) : Int)) := id rfl
@[simp] theorem r_all : allD [.list l] = (blsD l).map fun bs => .bool (bs.all id) := id rfl
@[simp] theorem r_any : anyD [.list l] = (blsD l).map fun bs => .bool (bs.any id) := id rfl
@[simp] theorem r_sum : sumD [.list l] = (intsD l).map fun bs => .int bs.sum := id rfl
@[simp] theorem r_bls (bs : List Bool) : blsD (bs.map .bool) = some bs := blsD_map bs
@[simp] theorem r_ints (bs : List Int) : intsD (bs.map .int) = some bs := intsD_map bs
@[simp] theorem r_bls_nil : blsD [] = some [] := id rfl
@[simp] theorem r_bls_cons : blsD (.bool b :: l) = (blsD l).map (b :: ·) := id rfl
@[simp] theorem r_ints_nil : intsD [] = some [] := id rfl
@[simp] theorem r_ints_cons : intsD (.int x :: l) = (intsD l).map (x :: ·) := id rfl
@[simp] theorem r_listO : listO [.list l] = some l := id rfl
@[simp] theorem r_listOt : listO [.tuple l] = some l := id rfl
@[simp] theorem r_tupleD : tupleD [.list l] = some (.tuple l) := id rfl
@[simp] theorem r_tupleDt : tupleD [.tuple l] = some (.tuple l) := id rfl
@[simp] theorem r_sPopX : sPopX j ρ = onOw j ρ fun l => match l.getLast? with
  | some _ => .nx (ρ.set j (.ow l.dropLast))
  | none => .bad := id rfl
@[simp] theorem r_strI (h : x.natAbs.log2 < 1920) : strD [.int x] = some (.str (toString x)) := if_pos h
@[simp] theorem r_strS (u : Str) : strD [.str u] = some (.str u) := id rfl
@[simp] theorem r_eDSel (ks : List Str) (fs : Ev → R (List D)) (fk : Ev → R D) : eDSel ks fs fk ρ = (fs ρ).bind fun ds => (fk ρ).bind fun k => ofO (selD ks ds k) := id rfl
@[simp] theorem r_seq_l : seqD (.list l) = some l := id rfl
@[simp] theorem r_seq_t : seqD (.tuple l) = some l := id rfl
@[simp] theorem r_enu : enuD [.list l] = some (enuL l) := id rfl
@[simp] theorem r_zip : zipD [.list l, .list m] = some (zipL l m) := id rfl
@[simp] theorem r_intOf : intOf (.int x) = some (some x) := id rfl
@[simp] theorem r_slice (o o' : Option Int) : sliceD (.list l) o o' = some (.list (cutL l o o')) := id rfl
@[simp] theorem r_sliceT (o o' : Option Int) : sliceD (.tuple l) o o' = some (.tuple (cutL l o o')) := id rfl
@[simp] theorem r_sliceO (o o' : Option Int) : sliceO (.list l) o o' = some (cutL l o o') := id rfl
@[simp] theorem r_revO : revO (.list l) = some l.reverse := id rfl
@[simp] theorem r_ix_l : ixD (.list l) (.int x) = atI l x := id rfl
@[simp] theorem r_ix_t : ixD (.tuple l) (.int x) = atI l x := id rfl
theorem r_at (n : Nat) : atI l (n : Int) = l[n]? := by
  unfold atI ixN
  by_cases h : n < l.length
  · rw [if_pos (by omega), if_pos (by omega)]; simp
  · rw [if_pos (by omega), if_neg (by omega), List.getElem?_eq_none (by omega)]; rfl
@[simp] theorem r_atI (h0 : 0 ≤ x) : atI l x = l[x.toNat]? := by
  have := r_at (l := l) x.toNat
  rwa [Int.toNat_of_nonneg h0] at this
@[simp] theorem r_at_last : atI (l ++ [d]) (-1 : Int) = some d := by
  unfold atI ixN
  have e : ((-1 : Int) + ((l ++ [d]).length : Nat)).toNat = l.length := by simp; omega
  rw [if_neg (by decide), if_pos (by simp; omega), e]
  simp
theorem range1_ok (h : x < 2 ^ 62) (h0 : -(2 ^ 62) ≤ x) : range1D [.int x] = some (rngL 0 1 x.toNat) := by
  show (if in62 x then _ else _) = _
  rw [if_pos (show in62 x = true from decide_eq_true ⟨h0, h⟩)]
end

/-! ### sizes -/
/-- |i| < 2^k -/
structure Sz (k : Nat) (i : Int) : Prop where
  lt : i.natAbs < 2 ^ k
section
variable {a b k m : Nat} {i j : Int}
theorem Sz.mono (h : Sz a i) (l : a ≤ b) : Sz b i := ⟨Nat.lt_of_lt_of_le h.lt (Nat.pow_le_pow_right (by decide) l)⟩
theorem Sz.neg (h : Sz a i) : Sz a (-i) := ⟨by rw [Int.natAbs_neg]; exact h.lt⟩
theorem Sz.mul (h : Sz a i) (h' : Sz b j) : Sz (a + b) (i * j) := ⟨by
  rw [Int.natAbs_mul, Nat.pow_add]
  exact Nat.mul_lt_mul'' h.lt h'.lt⟩
theorem Sz.add (h : Sz a i) (h' : Sz a j) : Sz (a + 1) (i + j) := ⟨by
  rw [Nat.pow_succ]
  have := Int.natAbs_add_le i j
  have := h.lt
  have := h'.lt
  omega⟩
theorem Sz.sub (h : Sz a i) (h' : Sz a j) : Sz (a + 1) (i - j) := by
  rw [Int.sub_eq_add_neg]; exact h.add h'.neg
theorem Sz.of_le (h : Sz a i) (l : j.natAbs ≤ i.natAbs) : Sz a j := ⟨Nat.lt_of_le_of_lt l h.lt⟩
theorem fdiv_abs (i j : Int) : (i.fdiv j).natAbs ≤ i.natAbs := Int.natAbs_fdiv_le_natAbs i j
theorem Sz.fdiv (h : Sz a i) : Sz a (i.fdiv j) := h.of_le (fdiv_abs i j)
theorem Sz.lit (h : decide (i.natAbs < 2 ^ a) = true) : Sz a i := ⟨(of_decide_eq_true h : i.natAbs < 2 ^ a)⟩
theorem bits_le (h : Sz k i) : Builtin.Int.intBits i ≤ k := by
  unfold Builtin.Int.intBits
  have := h.lt
  split
  · omega
  · rename_i z
    have hz : i.natAbs ≠ 0 := by simpa using z
    have := (Nat.log2_lt hz).mpr this
    omega
theorem sz_bits (h : Builtin.Int.intBits i ≤ k) : Sz k i := by
  unfold Builtin.Int.intBits at h
  split at h
  · rename_i e
    simp at e; subst e
    exact ⟨Nat.two_pow_pos _⟩
  · rename_i e
    exact ⟨(Nat.log2_lt (by simpa using e)).mp (by omega)⟩
theorem okMul_of (h : Sz a i) (h' : Sz b j) (l : a + b ≤ 134217728) : okMul i j = true := by
  have e1 := bits_le h
  have e2 := bits_le h'
  unfold okMul
  exact decide_eq_true (by omega)
theorem okDiv_of (h : Sz 9000 j) (hj : j ≠ 0) : okDiv i j = true := by
  have hz : j.natAbs ≠ 0 := by omega
  have := (Nat.log2_lt hz).mpr h.lt
  unfold okDiv Builtin.divisionGoesByPylong
  have e : ¬ (300 < j.natAbs.log2 / 30 + 1) := by omega
  simp [hj, e]
theorem okDiv_lit (h : decide (j.natAbs < 2 ^ 64) = true) (hj : j ≠ 0) : okDiv i j = true := okDiv_of ((Sz.lit (a := 64) h).mono (by decide)) hj
end

/-- for omega -/
theorem Sz.of {k : Nat} {i : Int} (c : Nat) (h : -(c : Int) < i) (h' : i < c) (hc : decide (c ≤ 2 ^ k) = true) : Sz k i := ⟨Nat.lt_of_lt_of_le (by omega : i.natAbs < c) (of_decide_eq_true hc)⟩
theorem r_mulS {x y : Int} (h1 : -1000000000000000000000000 < x) (h2 : x < 1000000000000000000000000) (h3 : -1000000000000000000000000 < y) (h4 : y < 1000000000000000000000000) : mulD (.int x) (.int y) = some (.int (x * y)) :=
  r_mul (okMul_of (a := 80) (b := 80) (Sz.of 1000000000000000000000000 h1 h2 (by decide)) (Sz.of 1000000000000000000000000 h3 h4 (by decide)) (by decide))
theorem r_fdivS {x y : Int} (h1 : -1000000000000000000000000 < y) (h2 : y < 1000000000000000000000000) (h0 : y ≠ 0) : fdivD (.int x) (.int y) = some (.int (x.fdiv y)) :=
  r_fdiv (okDiv_of ((Sz.of (k := 80) 1000000000000000000000000 h1 h2 (by decide)).mono (by decide)) h0)
/-! ### draws -/
structure IsDraws (c : Nat) (xs : List Int) : Prop where
  len : xs.length = c
  lo : ∀ x ∈ xs, 0 ≤ x
  hi : ∀ x ∈ xs, x < 1000
def gI (xs : List Int) (i : Nat) : Int := xs.getD i 0
section
variable {c : Nat} {xs : List Int}
theorem IsDraws.get (h : IsDraws c xs) (i : Nat) (hi : i < c) : xs[i]? = some (gI xs i) := by
  unfold gI
  rw [List.getD_eq_getElem?_getD, List.getElem?_eq_getElem (by rw [h.len]; exact hi)]; rfl
theorem cut_map {α : Type} (F : α → D) (xs : List α) (lo hi : Option Int) : cutL (xs.map F) lo hi = ((xs.drop (HT.sIx xs.length 0 lo)).take (HT.sIx xs.length xs.length hi - HT.sIx xs.length 0 lo)).map F := by
  unfold cutL; rw [List.length_map, List.map_take, List.map_drop]
theorem sIx_in {n d : Nat} {v : Int} (h0 : 0 ≤ v) (h : v ≤ n) : HT.sIx n d (some v) = v.toNat := by
  show (if v < 0 then (v + (n : Int)).toNat else min v.toNat n) = _
  rw [if_neg (by omega)]; omega
theorem IsDraws.sub (h : IsDraws c xs) (a b : Nat) (hb : b ≤ c) (hab : a ≤ b) : IsDraws (b - a) ((xs.drop a).take (b - a)) := ⟨by simp [h.len]; omega, fun x hx => h.lo x (List.mem_of_mem_drop (List.mem_of_mem_take hx)), fun x hx => h.hi x (List.mem_of_mem_drop (List.mem_of_mem_take hx))⟩
theorem IsDraws.cut (h : IsDraws c xs) {a b : Int} (m : Nat) (h0 : 0 ≤ a) (h1 : b ≤ c) (h2 : b = a + m) : ∃ ys, cutL (xs.map .int) (some a) (some b) = ys.map .int ∧ IsDraws m ys := by
  have q := h.sub a.toNat b.toNat (by omega) (by omega)
  rw [show b.toNat - a.toNat = m by omega] at q
  refine ⟨_, ?_, q⟩
  rw [cut_map, h.len, sIx_in h0 (by omega), sIx_in (by omega) h1, show b.toNat - a.toNat = m by omega]
end
@[simp] theorem kit_bool_bool : kitB "bool" "bool" = some true := by decide +kernel
@[simp] theorem kit_bool_int : kitB "bool" "int" = some true := by decide +kernel
@[simp] theorem kit_bool_str : kitB "bool" "str" = some false := by decide +kernel
@[simp] theorem kit_bool_list : kitB "bool" "list" = some false := by decide +kernel
@[simp] theorem kit_bool_tuple : kitB "bool" "tuple" = some false := by decide +kernel
@[simp] theorem kit_int_bool : kitB "int" "bool" = some false := by decide +kernel
@[simp] theorem kit_int_int : kitB "int" "int" = some true := by decide +kernel
@[simp] theorem kit_int_str : kitB "int" "str" = some false := by decide +kernel
@[simp] theorem kit_int_list : kitB "int" "list" = some false := by decide +kernel
@[simp] theorem kit_int_tuple : kitB "int" "tuple" = some false := by decide +kernel
@[simp] theorem kit_str_bool : kitB "str" "bool" = some false := by decide +kernel
@[simp] theorem kit_str_int : kitB "str" "int" = some false := by decide +kernel
@[simp] theorem kit_str_str : kitB "str" "str" = some true := by decide +kernel
@[simp] theorem kit_str_list : kitB "str" "list" = some false := by decide +kernel
@[simp] theorem kit_str_tuple : kitB "str" "tuple" = some false := by decide +kernel
@[simp] theorem kit_list_bool : kitB "list" "bool" = some false := by decide +kernel
@[simp] theorem kit_list_int : kitB "list" "int" = some false := by decide +kernel
@[simp] theorem kit_list_str : kitB "list" "str" = some false := by decide +kernel
@[simp] theorem kit_list_list : kitB "list" "list" = some true := by decide +kernel
@[simp] theorem kit_list_tuple : kitB "list" "tuple" = some false := by decide +kernel
@[simp] theorem kit_tuple_bool : kitB "tuple" "bool" = some false := by decide +kernel
@[simp] theorem kit_tuple_int : kitB "tuple" "int" = some false := by decide +kernel
@[simp] theorem kit_tuple_str : kitB "tuple" "str" = some false := by decide +kernel
@[simp] theorem kit_tuple_list : kitB "tuple" "list" = some false := by decide +kernel
@[simp] theorem kit_tuple_tuple : kitB "tuple" "tuple" = some true := by decide +kernel
@[simp] theorem kit_NoneType_bool : kitB "NoneType" "bool" = some false := by decide +kernel
@[simp] theorem kit_NoneType_int : kitB "NoneType" "int" = some false := by decide +kernel
@[simp] theorem kit_NoneType_str : kitB "NoneType" "str" = some false := by decide +kernel
@[simp] theorem kit_NoneType_list : kitB "NoneType" "list" = some false := by decide +kernel
@[simp] theorem kit_NoneType_tuple : kitB "NoneType" "tuple" = some false := by decide +kernel
@[simp] theorem isi_bool (n : String) (b : Bool) : isiD n (.bool b) = (kitB "bool" n).map .bool := rfl
@[simp] theorem isi_int (n : String) (b : Int) : isiD n (.int b) = (kitB "int" n).map .bool := rfl
@[simp] theorem isi_str (n : String) (b : Str) : isiD n (.str b) = (kitB "str" n).map .bool := rfl
@[simp] theorem isi_list (n : String) (b : List D) : isiD n (.list b) = (kitB "list" n).map .bool := rfl
@[simp] theorem isi_tup (n : String) (b : List D) : isiD n (.tuple b) = (kitB "tuple" n).map .bool := rfl
@[simp] theorem isi_none (n : String) : isiD n .none = (kitB "NoneType" n).map .bool := rfl

/-! ### loops -/
theorem forO_gen {F : D → Ev → Out} (J : Out → Prop) : ∀ {l : List D} (I : Nat → Ev → Prop) {ρ : Ev}, I 0 ρ →
    (∀ i d ρ, l[i]? = some d → I i ρ → (∃ ρ', (F d ρ = .nx ρ' ∨ F d ρ = .ct ρ') ∧ I (i + 1) ρ') ∨ (∃ ρ', F d ρ = .bk ρ' ∧ J (.nx ρ')) ∨ (∃ r, F d ρ = .rt r ∧ J (.rt r)) ∨ (∃ r ρ', F d ρ = .rtB r ρ' ∧ J (.rtB r ρ')) ∨ (∃ x ρ', F d ρ = .ex x ρ' ∧ J (.ex x ρ'))) →
    (∀ ρ, I l.length ρ → J (.nx ρ)) → J (forO F l ρ)
  | [], I, ρ, h0, _, e => e ρ h0
  | d :: l, I, ρ, h0, st, e => by
    have ih : ∀ ρ', I 1 ρ' → J (forO F l ρ') := fun ρ' h => forO_gen J (fun i => I (i + 1)) h (fun i d ρ hd hi => st (i + 1) d ρ (by simpa using hd) hi) (fun ρ h => e ρ (by simpa using h))
    unfold forO
    rcases st 0 d ρ (by simp) h0 with ⟨ρ', h | h, hi⟩ | ⟨ρ', h, hj⟩ | ⟨r, h, hj⟩ | ⟨r, ρ', h, hj⟩ | ⟨x, ρ', h, hj⟩
    · rw [h]; exact ih ρ' hi
    · rw [h]; exact ih ρ' hi
    · rw [h]; exact hj
    · rw [h]; exact hj
    · rw [h]; exact hj
    · rw [h]; exact hj
theorem forO_inv {F : D → Ev → Out} {l : List D} (I : Nat → Ev → Prop) {ρ : Ev} (h0 : I 0 ρ) (st : ∀ i d ρ, l[i]? = some d → I i ρ → ∃ ρ', (F d ρ = .nx ρ' ∨ F d ρ = .ct ρ') ∧ I (i + 1) ρ') : ∃ ρ', forO F l ρ = .nx ρ' ∧ I l.length ρ' :=
  forO_gen (fun o => ∃ ρ', o = .nx ρ' ∧ I l.length ρ') I h0 (fun i d ρ hd hi => .inl (st i d ρ hd hi)) fun ρ h => ⟨ρ, rfl, h⟩
theorem rng0_get {n i : Nat} {d : D} (h : (rngL 0 1 n)[i]? = some d) : i < n ∧ d = .int (i : Nat) := by
  obtain ⟨h1, rfl⟩ := rngL_get h
  exact ⟨h1, by simp⟩
theorem compR_map {step : D → R (Option D)} (φ : D → D) : ∀ {l : List D}, (∀ d ∈ l, step d = .ok (some (φ d))) → compR step l = .ok (l.map φ)
  | [], _ => rfl
  | d :: l, h => by
    unfold compR
    rw [h d (by simp), compR_map φ (l := l) fun e he => h e (by simp [he])]
    rfl
theorem compR_map' {α : Type} {step : D → R (Option D)} {F : α → D} {φ : α → D} : ∀ {l : List α}, (∀ a ∈ l, step (F a) = .ok (some (φ a))) → compR step (l.map F) = .ok (l.map φ)
  | [], _ => rfl
  | a :: l, h => by
    rw [List.map_cons]
    unfold compR
    rw [h a (by simp), compR_map' (l := l) fun e he => h e (by simp [he])]
    rfl
theorem compX_all {step : D → Ev → RX (Option D)} (I : Ev → Prop) (P : D → Prop) : ∀ {l : List D} {ρ : Ev}, (∀ d ρ, d ∈ l → I ρ → ∃ y ρ', step d ρ = .ok (some y) ρ' ∧ I ρ' ∧ P y) → I ρ →
    ∃ ys ρ', compX step l ρ = .ok ys ρ' ∧ I ρ' ∧ ys.length = l.length ∧ ∀ y ∈ ys, P y
  | [], ρ, _, h0 => ⟨[], ρ, rfl, h0, rfl, by simp⟩
  | d :: l, ρ, h, h0 => by
    obtain ⟨y, ρ1, e1, h1, p1⟩ := h d ρ (by simp) h0
    obtain ⟨ys, ρ2, e2, h2, l2, p2⟩ := compX_all I P (l := l) (fun d ρ hd => h d ρ (by simp [hd])) h1
    refine ⟨y :: ys, ρ2, ?_, h2, by simp [l2], fun z hz => ?_⟩
    · unfold compX
      rw [e1, rx_bind_ok, e2]; rfl
    · rcases List.mem_cons.mp hz with rfl | hz
      · exact p1
      · exact p2 z hz
/-! ### data without dicts, of a small depth -/
mutual
def okD : Nat → D → Bool
  | _, .none => true
  | _, .bool _ => true
  | _, .int _ => true
  | _, .str x => PyData.strOk x
  | 0, _ => false
  | n + 1, .list l => okL n l
  | n + 1, .tuple l => okL n l
  | _, .dict _ => false
def okL : Nat → List D → Bool
  | _, [] => true
  | n, d :: l => okD n d && okL n l
end
mutual
theorem okD_spec : ∀ (n : Nat) (d : D), okD n d = true → d.canLay0 = true ∧ d.depth ≤ n
  | _, .none, _ => ⟨rfl, Nat.zero_le _⟩
  | _, .bool _, _ => ⟨rfl, Nat.zero_le _⟩
  | _, .int _, _ => ⟨rfl, Nat.zero_le _⟩
  | 0, .str x, h => ⟨by simpa [okD, PyData.canLay0] using h, Nat.zero_le _⟩
  | n + 1, .str x, h => ⟨by simpa [okD, PyData.canLay0] using h, Nat.zero_le _⟩
  | 0, .list _, h => by simp [okD] at h
  | 0, .tuple _, h => by simp [okD] at h
  | 0, .dict _, h => by simp [okD] at h
  | n + 1, .dict _, h => by simp [okD] at h
  | n + 1, .list l, h => by
    obtain ⟨h1, h2⟩ := okL_spec n l (by simpa [okD] using h)
    exact ⟨by simpa [PyData.canLay0] using h1, by simpa [PyData.depth] using h2⟩
  | n + 1, .tuple l, h => by
    obtain ⟨h1, h2⟩ := okL_spec n l (by simpa [okD] using h)
    exact ⟨by simpa [PyData.canLay0] using h1, by simpa [PyData.depth] using h2⟩
theorem okL_spec : ∀ (n : Nat) (l : List D), okL n l = true → PyData.canLayAll0 l = true ∧ PyData.depthAll l ≤ n
  | _, [], _ => ⟨rfl, Nat.zero_le _⟩
  | n, d :: l, h => by
    have h' : okD n d = true ∧ okL n l = true := by simpa [okL] using h
    obtain ⟨h1, h2⟩ := okD_spec n d h'.1
    obtain ⟨h3, h4⟩ := okL_spec n l h'.2
    exact ⟨by simp [PyData.canLayAll0, h1, h3], by simp [PyData.depthAll]; omega⟩
end
theorem okL_iff : ∀ {n : Nat} {l : List D}, okL n l = true ↔ ∀ d ∈ l, okD n d = true
  | n, [] => by simp [okL]
  | n, d :: l => by simp [okL, okL_iff (l := l)]
@[simp] theorem okD_int (n : Nat) (i : Int) : okD n (.int i) = true := by cases n <;> rfl
@[simp] theorem okD_bool (n : Nat) (i : Bool) : okD n (.bool i) = true := by cases n <;> rfl
@[simp] theorem okD_none (n : Nat) : okD n .none = true := by cases n <;> rfl
@[simp] theorem okD_list (n : Nat) (l : List D) : okD (n + 1) (.list l) = okL n l := rfl
@[simp] theorem okD_tuple (n : Nat) (l : List D) : okD (n + 1) (.tuple l) = okL n l := rfl
@[simp] theorem okL_nil (n : Nat) : okL n [] = true := rfl
@[simp] theorem okL_cons (n : Nat) (d : D) (l : List D) : okL n (d :: l) = (okD n d && okL n l) := rfl
@[simp] theorem okL_ints (n : Nat) (l : List Int) : okL n (l.map .int) = true := okL_iff.mpr fun d h => by
  obtain ⟨i, _, rfl⟩ := List.mem_map.mp h
  exact okD_int n i
theorem shaped_of {d : D} (h : okD 64 d = true) : SeqAt.shaped d = true := by
  obtain ⟨h1, h2⟩ := okD_spec _ _ h
  unfold SeqAt.shaped
  simp [h1, h2]
theorem r_eqD {a b : D} (h : okD 64 a = true) (h' : okD 64 b = true) : eqD a b = some (.bool (PyData.eqv a b)) := by
  unfold eqD; rw [shaped_of h, shaped_of h']; rfl
@[simp] theorem r_eq_s (x y : Str) : eqD (.str x) (.str y) = some (.bool (decide (x = y))) := by
  unfold eqD
  split
  · show some (PyData.bool (x == y)) = _
    by_cases h : x = y
    · subst h; simp
    · simp [h]
  · rfl
@[simp] theorem r_ne_s (x y : Str) : neD (.str x) (.str y) = some (.bool (!decide (x = y))) := by
  unfold neD
  split
  · show some (PyData.bool (!(x == y))) = _
    by_cases h : x = y
    · subst h; simp
    · simp [h]
  · rfl
theorem r_neD {a b : D} (h : okD 64 a = true) (h' : okD 64 b = true) : neD a b = some (.bool (!PyData.eqv a b)) := by
  unfold neD; rw [shaped_of h, shaped_of h']; rfl
@[simp] theorem r_eq_i (i j : Int) : eqD (.int i) (.int j) = some (.bool (decide (i = j))) := by rw [r_eqD (by simp) (by simp)]; rfl
@[simp] theorem r_ne_i (i j : Int) : neD (.int i) (.int j) = some (.bool (!decide (i = j))) := by rw [r_neD (by simp) (by simp)]; rfl
/-! ### repr: sizes -/
structure Sw (w : Nat) (d : D) : Prop where
  sh : d.showable = true
  le : d.shown.length ≤ w
theorem Sw.mono {w w' : Nat} {d : D} (h : Sw w d) (e : w ≤ w') : Sw w' d := ⟨h.sh, Nat.le_trans h.le e⟩
theorem sw_int {s : Nat} {i : Int} (h : Sz s i) (hs : s ≤ 1920) (h0 : 0 < s) : Sw (s + 1) (.int i) := by
  have hl : i.natAbs.log2 < s := by
    by_cases z : i.natAbs = 0
    · rw [z]; simpa using h0
    · exact (Nat.log2_lt z).mpr h.lt
  refine ⟨decide_eq_true (by omega), ?_⟩
  have := int_text_length_le h0 hl
  show (Str.ofString (toString i)).length ≤ s + 1
  rw [PySem.ofString_length]
  exact this
theorem sw_all {w : Nat} : ∀ {l : List D}, (∀ d ∈ l, Sw w d) → PyData.showableAll l = true ∧ ((PyData.shownAll l).map (·.length)).sum ≤ l.length * w ∧ (PyData.shownAll l).length = l.length
  | [], _ => ⟨rfl, by simp [PyData.shownAll], rfl⟩
  | d :: l, h => by
    obtain ⟨h1, h2, h3⟩ := sw_all (l := l) fun e he => h e (by simp [he])
    obtain ⟨h4, h5⟩ := h d (by simp)
    refine ⟨by simp [PyData.showableAll, h4, h1], ?_, by simp [PyData.shownAll, h3]⟩
    simp only [PyData.shownAll, List.map_cons, List.sum_cons, List.length_cons, Nat.succ_mul]
    omega
theorem sw_list {w : Nat} {l : List D} (h : ∀ d ∈ l, Sw w d) : Sw (l.length * (w + 2) + 3) (.list l) := by
  obtain ⟨h1, h2, h3⟩ := sw_all h
  refine ⟨by simpa [PyData.showable] using h1, ?_⟩
  have := listText_len_le (PyData.shownAll l)
  simp only [PyData.shown]
  rw [Nat.mul_add]
  omega
theorem sw_tup {w : Nat} {l : List D} (h : ∀ d ∈ l, Sw w d) : Sw (l.length * (w + 2) + 3) (.tuple l) := by
  obtain ⟨h1, h2, h3⟩ := sw_all h
  refine ⟨by simpa [PyData.showable] using h1, ?_⟩
  have := tupleText_len_le (PyData.shownAll l)
  simp only [PyData.shown]
  rw [Nat.mul_add]
  omega
end VL

set_option Elab.async false
set_option linter.all false
set_option maxRecDepth 100000
set_option autoImplicit false
namespace W
open PySem PySem.Spec PyProof.Rows L2 VL
noncomputable def b__law_draws_1 : Ev → Out := sSeq (sSet 6 (cst (.int 0))) (sSeq (sIf (e1 bOf (e2 gtD (e1 lenD (eCons (eOwn 2) (cst []))) (cst (.int 0)))) (sSeq (sSet 7 (e2 modD (e1 intD (eCons (eOwn 5) (cst []))) (e1 lenD (eCons (eOwn 2) (cst []))))) (sIf (e1 bOf (e2 geD (e2 ixD (eOwn 2) (eOwn 7)) (e2 powD (cst (.int 10)) (cst (.int 18))))) (sSeq (sSet 6 (e2 modD (e1 intD (eCons (e2 ixD (eOwn 2) (eOwn 7)) (cst []))) (cst (.int 1000)))) (sStore 2 (eVar 7) (e2 fdivD (e2 ixD (eOwn 2) (eOwn 7)) (cst (.int 1000))))) (sSeq (sSet 8 (e2 modD (e1 intD (eCons (e2 addD (e2 addD (e2 mulD (e2 ixD (eOwn 2) (eOwn 7)) (cst (.int 48271))) (e2 mulD (eOwn 5) (cst (.int 69621)))) (cst (.int 11))) (cst []))) (cst (.int 2147483647)))) (sSeq (sSet 8 (e2 modD (e1 intD (eCons (e2 addD (e2 mulD (eOwn 8) (cst (.int 16807))) (eOwn 7)) (cst []))) (cst (.int 2147483629)))) (sSet 6 (e2 modD (e1 intD (eCons (e2 fdivD (eOwn 8) (cst (.int 7))) (cst []))) (cst (.int 1000)))))))) (sNil)) (sApp 4 (eVar 6)))
noncomputable def c__law_draws : Ev → Out := sSeq (sSetO 2 (eComp [3] (e1 seqD (eVar 0)) (gSet 3) (cst true) (eVar 3))) (sSeq (sSetO 4 (e1 lim (cst []))) (sSeq (sFor (e1 range1D (eCons (eOwn 1) (cst []))) (gSet 5) b__law_draws_1) (sRetV 4)))
noncomputable def m__law_draws : List D → R SD := runD 2 9 c__law_draws
noncomputable def c_number : Ev → Out := sSeq (sIf (e1 bOf (e2 ltD (eOwn 1) (cst (.int 0)))) (sPar 0 1 (eCons (e1 negD (eOwn 0)) (eCons (e1 negD (eOwn 1)) (cst [])))) (sNil)) (sSeq (sSet 2 (e1 gcdD (eCons (eOwn 0) (eCons (eOwn 1) (cst []))))) (sRet (e1 tupD (eCons (e2 fdivD (eOwn 0) (eOwn 2)) (eCons (e2 fdivD (eOwn 1) (eOwn 2)) (cst []))))))
noncomputable def m_number : List D → R SD := runD 2 3 c_number
noncomputable def c_plus : Ev → Out := sRet (eCall m_number (eCons (e2 addD (e2 mulD (e2 ixD (eOwn 0) (cst (.int 0))) (e2 ixD (eOwn 1) (cst (.int 1)))) (e2 mulD (e2 ixD (eOwn 1) (cst (.int 0))) (e2 ixD (eOwn 0) (cst (.int 1))))) (eCons (e2 mulD (e2 ixD (eOwn 0) (cst (.int 1))) (e2 ixD (eOwn 1) (cst (.int 1)))) (cst []))))
noncomputable def m_plus : List D → R SD := runD 2 2 c_plus
noncomputable def c_times : Ev → Out := sRet (eCall m_number (eCons (e2 mulD (e2 ixD (eOwn 0) (cst (.int 0))) (e2 ixD (eOwn 1) (cst (.int 0)))) (eCons (e2 mulD (e2 ixD (eOwn 0) (cst (.int 1))) (e2 ixD (eOwn 1) (cst (.int 1)))) (cst []))))
noncomputable def m_times : List D → R SD := runD 2 2 c_times
/-! ### draws -/
theorem slB {n : Nat} (h : n ≤ 100000) : n ≤ sizeLine := Nat.le_trans h (by decide)
theorem idD_ok (l : List D) (ρ : Ev) (k : Nat) (hk : k < ρ.length) : compR (compS [k] (gSet k) (cst true) (eVar k) ρ) l = .ok l := by
  have := compR_map (step := compS [k] (gSet k) (cst true) (eVar k) ρ) (fun d => d) (l := l) fun d _ => by
    simp [compS, hk]
  rw [this, List.map_id']
theorem fmod_rng {a b : Int} (h : 0 < b) : 0 ≤ a.fmod b ∧ a.fmod b < b := ⟨Int.fmod_nonneg_of_pos a h, Int.fmod_lt_of_pos a h⟩
theorem draws_app {c : Nat} {xs : List Int} (hx : IsDraws c xs) (x : Int) (h1 : 0 ≤ x) (h2 : x < 1000) : IsDraws (c + 1) (xs ++ [x]) := ⟨by simp [hx.len], fun y hy => by
  rcases List.mem_append.mp hy with h | h
  · exact hx.lo y h
  · simp at h; subst h; exact h1, fun y hy => by
  rcases List.mem_append.mp hy with h | h
  · exact hx.hi y h
  · simp at h; subst h; exact h2⟩
theorem draws_step {a b : SD} {rs xs : List Int} {j3 j5 j6 j7 j8 : SD} {i : Nat} (hi : i < 100000) (hrl : rs.length ≤ 63) (hrz : ∀ z ∈ rs, Sz 1048577 z) (hx : IsDraws i xs) :
    ∃ (rs' : List Int) (x : Int) (k5 k6 k7 k8 : SD), gTo (gSet 5) b__law_draws_1 (.int (i : Nat)) [a, b, .ow (rs.map .int), j3, .ow (xs.map .int), j5, j6, j7, j8] = .nx [a, b, .ow (rs'.map .int), j3, .ow ((xs ++ [x]).map .int), k5, k6, k7, k8] ∧ rs'.length = rs.length ∧ (∀ z ∈ rs', Sz 1048577 z) ∧ 0 ≤ x ∧ x < 1000 := by
  have hxl : xs.length < sizeLine := by rw [hx.len]; exact Nat.lt_of_lt_of_le hi (by decide)
  by_cases he : 0 < rs.length
  · have hne : (rs.length : Int) ≠ 0 := by omega
    obtain ⟨a1, a2⟩ := fmod_rng (a := ((i : Nat) : Int)) (b := rs.length) (by omega)
    generalize hk : (((i : Nat) : Int).fmod rs.length) = k at a1 a2
    have hm : modD (.int (i : Nat)) (.int rs.length) = some (.int k) := by rw [r_mod hne, hk]
    obtain ⟨v, hv⟩ : ∃ v, rs[k.toNat]? = some v := ⟨_, List.getElem?_eq_getElem (by omega)⟩
    have hvz : Sz 1048577 v := hrz v (List.mem_of_getElem? hv)
    by_cases hbig : 1000000000000000000 ≤ v
    · have hd : okDiv v 1000 = true := okDiv_lit (by decide) (by decide)
      have hix : ixN rs.length k = some k.toNat := by unfold ixN; rw [if_pos a1, if_pos a2]
      refine ⟨rs.set k.toNat (v.fdiv 1000), v.fmod 1000, .sh (.int (i : Nat)), .sh (.int (v.fmod 1000)), .sh (.int k), j8, ?_, by simp, fun z hz => ?_, (fmod_rng (by decide)).1, (fmod_rng (by decide)).2⟩
      · simp [b__law_draws_1, he, hm, a1, hv, hbig, hd, hix, hxl, okPow]
      · rcases List.mem_or_eq_of_mem_set hz with h | h
        · exact hrz z h
        · subst h; exact hvz.fdiv
    · have h1 : okMul v 48271 = true := okMul_of hvz (b := 100) (.lit (by decide)) (by decide)
      have hi2 : Sz 100 (i : Nat) := (Sz.lit (i := 100000) (a := 100) (by decide)).of_le (by omega)
      have h2 : okMul (i : Nat) 69621 = true := okMul_of hi2 (b := 100) (.lit (by decide)) (by decide)
      have h3 : okMul ((v * 48271 + (i : Nat) * 69621 + 11).fmod 2147483647) 16807 = true := by
        obtain ⟨b1, b2⟩ := fmod_rng (a := v * 48271 + (i : Nat) * 69621 + 11) (b := 2147483647) (by decide)
        exact okMul_of (a := 100) (b := 100) ((Sz.lit (i := 2147483647) (a := 100) (by decide)).of_le (by omega)) (.lit (by decide)) (by decide)
      have h4 : ∀ x : Int, okDiv x 7 = true := fun x => okDiv_lit (by decide) (by decide)
      exact ⟨rs, _, _, _, _, _, by simp [b__law_draws_1, he, hm, a1, hv, hbig, h1, h2, h3, h4, hxl, okPow]; exact ⟨rfl, rfl, rfl, rfl, rfl⟩, rfl, hrz, (fmod_rng (by decide)).1, (fmod_rng (by decide)).2⟩
  · have h0 : rs = [] := by cases rs with | nil => rfl | cons _ _ => simp at he
    subst h0
    exact ⟨[], 0, _, _, _, _, by simp [b__law_draws_1, hxl]; exact ⟨rfl, rfl, rfl, rfl⟩, rfl, hrz, by decide, by decide⟩
theorem draws_ok (ns : List Int) (hn : ns.length ≤ 63) (hb : ∀ z ∈ ns, Builtin.Int.intBits z ≤ 1048576) (z : Int) (c : Nat) (hz : z = c) (hc : c ≤ 100000) : ∃ xs : List Int, m__law_draws [.list (ns.map .int), .int z] = .ok (.ow (xs.map .int)) ∧ IsDraws c xs := by
  subst hz
  obtain ⟨ρ', e, hρ⟩ := forO_inv (F := gTo (gSet 5) b__law_draws_1) (l := rngL 0 1 c)
    (fun i ρ => ∃ rs xs : List Int, ∃ j3 j5 j6 j7 j8 : SD, ρ = [.sh (.list (ns.map .int)), .sh (.int c), .ow (rs.map .int), j3, .ow (xs.map .int), j5, j6, j7, j8] ∧ rs.length ≤ 63 ∧ (∀ z ∈ rs, Sz 1048577 z) ∧ IsDraws i xs)
    (ρ := [.sh (.list (ns.map .int)), .sh (.int c), .ow (ns.map .int), .no, .ow [], .no, .no, .no, .no])
    ⟨ns, [], _, _, _, _, _, rfl, hn, fun z hz => sz_bits (Nat.le_trans (hb z hz) (by decide)), ⟨rfl, by simp, by simp⟩⟩
    (fun i d ρ hd hi => by
      obtain ⟨hic, rfl⟩ := rng0_get hd
      obtain ⟨rs, xs, j3, j5, j6, j7, j8, rfl, hrl, hrz, hx⟩ := hi
      obtain ⟨rs', x, k5, k6, k7, k8, e, h1, h2, h3, h4⟩ := draws_step (a := .sh (.list (ns.map .int))) (b := .sh (.int c)) (j3 := j3) (j5 := j5) (j6 := j6) (j7 := j7) (j8 := j8) (Nat.lt_of_lt_of_le hic hc) hrl hrz hx
      exact ⟨_, .inl e, rs', xs ++ [x], _, _, _, _, _, rfl, by omega, h2, draws_app hx x h3 h4⟩)
  rw [rngL_length] at hρ
  obtain ⟨rs, xs, j3, j5, j6, j7, j8, rfl, _, _, hx⟩ := hρ
  refine ⟨xs, ?_, hx⟩
  simp [m__law_draws, c__law_draws, slB (Nat.le_trans hn (by decide)), range1_ok (x := (c : Nat)) (by omega) (by omega), idD_ok, e]
/-! ### gcd -/
theorem gcd_halves {a b : Nat} (h : b ≤ a) (hb : b ≠ 0) : 2 * (b * (a % b)) ≤ a * b ∧ a % b ≤ b := by
  have h1 : a % b < b := Nat.mod_lt _ (by omega)
  have h2 : a % b + b ≤ a := by
    have e := Nat.div_add_mod a b
    have : 1 ≤ a / b := (Nat.one_le_div_iff (by omega)).mpr h
    have : b * 1 ≤ b * (a / b) := Nat.mul_le_mul_left b this
    omega
  refine ⟨?_, by omega⟩
  calc 2 * (b * (a % b)) = b * (2 * (a % b)) := by grind
    _ ≤ b * a := Nat.mul_le_mul_left b (by omega)
    _ = a * b := Nat.mul_comm _ _
/-! ### numbers -/
def qD (q : Int × Int) : D := .tuple [.int q.1, .int q.2]
def mkQ (n d : Int) : Int × Int := if d < 0 then ((-n).fdiv (Nat.gcd n.natAbs d.natAbs : Nat), (-d).fdiv (Nat.gcd n.natAbs d.natAbs : Nat)) else (n.fdiv (Nat.gcd n.natAbs d.natAbs : Nat), d.fdiv (Nat.gcd n.natAbs d.natAbs : Nat))
structure Nm (q : Int × Int) : Prop where
  pos : 1 ≤ q.2
  low : Nat.gcd q.1.natAbs q.2.natAbs = 1
theorem fdiv_of_dvd {a g : Int} (hg : g ∣ a) (h0 : g ≠ 0) : a.fdiv g * g = a := by
  obtain ⟨k, rfl⟩ := hg
  rw [Int.mul_fdiv_cancel_left k h0, Int.mul_comm]
theorem mkQ_key (x y : Int) (hp : 0 < y) : Nm (x.fdiv (Nat.gcd x.natAbs y.natAbs : Nat), y.fdiv (Nat.gcd x.natAbs y.natAbs : Nat)) ∧ x.fdiv (Nat.gcd x.natAbs y.natAbs : Nat) * y = x * y.fdiv (Nat.gcd x.natAbs y.natAbs : Nat) := by
  have hgp := Nat.gcd_pos_of_pos_right x.natAbs (show 0 < y.natAbs by omega)
  have hg0 : (Nat.gcd x.natAbs y.natAbs : Int) ≠ 0 := by omega
  have d1 : (Nat.gcd x.natAbs y.natAbs : Int) ∣ x := Int.ofNat_dvd_left.mpr (Nat.gcd_dvd_left _ _)
  have d2 : (Nat.gcd x.natAbs y.natAbs : Int) ∣ y := Int.ofNat_dvd_left.mpr (Nat.gcd_dvd_right _ _)
  have e1 := fdiv_of_dvd d1 hg0
  have e2 := fdiv_of_dvd d2 hg0
  generalize hu : x.fdiv (Nat.gcd x.natAbs y.natAbs : Nat) = u at *
  generalize hv : y.fdiv (Nat.gcd x.natAbs y.natAbs : Nat) = v at *
  generalize hg : Nat.gcd x.natAbs y.natAbs = g at *
  have hvp : 0 < v := by
    rcases Int.lt_or_le 0 v with h | h
    · exact h
    · have : v * g ≤ 0 := Int.mul_nonpos_of_nonpos_of_nonneg h (by omega)
      omega
  refine ⟨⟨hvp, ?_⟩, ?_⟩
  · have e3 : 1 * g = Nat.gcd u.natAbs v.natAbs * g := by
      rw [← Nat.gcd_mul_right]
      have a1 : u.natAbs * g = x.natAbs := by rw [← e1, Int.natAbs_mul]; rfl
      have a2 : v.natAbs * g = y.natAbs := by rw [← e2, Int.natAbs_mul]; rfl
      rw [a1, a2, hg, Nat.one_mul]
    exact (Nat.eq_of_mul_eq_mul_right hgp e3).symm
  · rw [← e1, ← e2]; grind
theorem mkQ_spec (n d : Int) (hd : d ≠ 0) : Nm (mkQ n d) ∧ (mkQ n d).1 * d = n * (mkQ n d).2 := by
  unfold mkQ
  by_cases h : d < 0
  · rw [if_pos h]
    obtain ⟨k1, k2⟩ := mkQ_key (-n) (-d) (by omega)
    rw [Int.natAbs_neg, Int.natAbs_neg] at k1 k2
    exact ⟨k1, by dsimp only at *; grind⟩
  · rw [if_neg h]
    exact mkQ_key n d (by omega)
theorem mkQ_nm {n d : Int} (hd : d ≠ 0) : Nm (mkQ n d) := (mkQ_spec n d hd).1
theorem mkQ_eq {n d : Int} (hd : d ≠ 0) : (mkQ n d).1 * d = n * (mkQ n d).2 := (mkQ_spec n d hd).2
theorem mkQ_sz1 {n d : Int} {k : Nat} (h : Sz k n) : Sz k (mkQ n d).1 := by
  unfold mkQ; split
  · exact (h.neg).fdiv
  · exact h.fdiv
theorem mkQ_sz2 {n d : Int} {k : Nat} (h : Sz k d) : Sz k (mkQ n d).2 := by
  unfold mkQ; split
  · exact (h.neg).fdiv
  · exact h.fdiv
/-- numbers in lowest terms are the same if they are equal -/
theorem Nm.uniq {p q : Int × Int} (hp : Nm p) (hq : Nm q) (h : p.1 * q.2 = q.1 * p.2) : p = q := by
  have h1 := hp.pos
  have h2 := hq.pos
  have a : p.2.natAbs ∣ q.2.natAbs := by
    have : p.2.natAbs ∣ p.1.natAbs * q.2.natAbs := by
      rw [← Int.natAbs_mul, h, Int.natAbs_mul]; exact ⟨q.1.natAbs, Nat.mul_comm _ _⟩
    exact (Nat.Coprime.dvd_of_dvd_mul_left (Nat.Coprime.symm hp.low) this)
  have b : q.2.natAbs ∣ p.2.natAbs := by
    have : q.2.natAbs ∣ q.1.natAbs * p.2.natAbs := by
      rw [← Int.natAbs_mul, ← h, Int.natAbs_mul]; exact ⟨p.1.natAbs, Nat.mul_comm _ _⟩
    exact (Nat.Coprime.dvd_of_dvd_mul_left (Nat.Coprime.symm hq.low) this)
  have e : p.2 = q.2 := by
    have := Nat.dvd_antisymm a b
    omega
  rw [e] at h
  have e1 : p.1 = q.1 := Int.eq_of_mul_eq_mul_right (by omega) h
  exact Prod.ext e1 e
theorem gcd_sz {n d : Int} {k : Nat} (h : Sz k d) (hd : d ≠ 0) : Sz k (Nat.gcd n.natAbs d.natAbs : Nat) := h.of_le (by
  have := Nat.le_of_dvd (by omega) (Nat.gcd_dvd_right n.natAbs d.natAbs)
  omega)
theorem gcd_ne {n d : Int} (hd : d ≠ 0) : (Nat.gcd n.natAbs d.natAbs : Int) ≠ 0 := by
  have := Nat.gcd_pos_of_pos_right n.natAbs (show 0 < d.natAbs by omega)
  omega
theorem okDiv_gcd {n d : Int} (h : Sz 9000 d) (hd : d ≠ 0) (x : Int) : okDiv x (Nat.gcd n.natAbs d.natAbs : Nat) = true := okDiv_of (gcd_sz h hd) (gcd_ne hd)
theorem s2 : (2 : Nat) ≤ sizeLine := by decide
theorem number_ok {n d : Int} (h2 : Sz 9000 d) (hd : d ≠ 0) : m_number [.int n, .int d] = .ok (.sh (qD (mkQ n d))) := by
  have o := okDiv_gcd (n := n) h2 hd
  by_cases h : d < 0
  · simp [m_number, c_number, h, o, s2, qD, mkQ]
  · simp [m_number, c_number, h, o, s2, qD, mkQ]
@[simp] theorem ix_q0 (q : Int × Int) : ixD (qD q) (.int 0) = some (.int q.1) := by simp [qD]
@[simp] theorem ix_q1 (q : Int × Int) : ixD (qD q) (.int 1) = some (.int q.2) := by simp [qD]
@[simp] theorem okD_q (n : Nat) (q : Int × Int) : okD (n + 1) (qD q) = true := by simp [qD]
/-- a number within 2^k -/
structure Nk (k : Nat) (q : Int × Int) : Prop where
  nm : Nm q
  s1 : Sz k q.1
  s2 : Sz k q.2
theorem Nk.mono {k l : Nat} {q : Int × Int} (h : Nk k q) (e : k ≤ l) : Nk l q := ⟨h.nm, h.s1.mono e, h.s2.mono e⟩
theorem Nk.ne {k : Nat} {q : Int × Int} (h : Nk k q) : q.2 ≠ 0 := by have := h.nm.pos; omega
theorem mkQ_nk {n d : Int} {k : Nat} (hd : d ≠ 0) (h1 : Sz k n) (h2 : Sz k d) : Nk k (mkQ n d) := ⟨mkQ_nm hd, mkQ_sz1 h1, mkQ_sz2 h2⟩
def addQ (p q : Int × Int) : Int × Int := mkQ (p.1 * q.2 + q.1 * p.2) (p.2 * q.2)
def mulQ (p q : Int × Int) : Int × Int := mkQ (p.1 * q.1) (p.2 * q.2)
def subQ (p q : Int × Int) : Int × Int := mkQ (p.1 * q.2 - q.1 * p.2) (p.2 * q.2)
def negQ (p : Int × Int) : Int × Int := (-p.1, p.2)
theorem Nm.neg {p : Int × Int} (h : Nm p) : Nm (negQ p) := ⟨h.pos, by show Nat.gcd (-p.1).natAbs _ = 1; rw [Int.natAbs_neg]; exact h.low⟩
section
variable {p q : Int × Int} {k l : Nat}
theorem Nk.neg (h : Nk k p) : Nk k (negQ p) := ⟨h.nm.neg, h.s1.neg, h.s2⟩
theorem Nk.mulne (hp : Nk k p) (hq : Nk l q) : p.2 * q.2 ≠ 0 := Int.mul_ne_zero hp.ne hq.ne
theorem Nk.add (hp : Nk k p) (hq : Nk l q) : Nk (k + l + 1) (addQ p q) := mkQ_nk (hp.mulne hq) ((hp.s1.mul hq.s2).add (Nat.add_comm l k ▸ hq.s1.mul hp.s2)) ((hp.s2.mul hq.s2).mono (by omega))
theorem Nk.sub (hp : Nk k p) (hq : Nk l q) : Nk (k + l + 1) (subQ p q) := mkQ_nk (hp.mulne hq) ((hp.s1.mul hq.s2).sub (Nat.add_comm l k ▸ hq.s1.mul hp.s2)) ((hp.s2.mul hq.s2).mono (by omega))
theorem Nk.mul (hp : Nk k p) (hq : Nk l q) : Nk (k + l) (mulQ p q) := mkQ_nk (hp.mulne hq) (hp.s1.mul hq.s1) (hp.s2.mul hq.s2)
theorem plus_ok (hp : Nk k p) (hq : Nk l q) (e : k + l ≤ 8000) : m_plus [qD p, qD q] = .ok (.sh (qD (addQ p q))) := by
  have o1 := okMul_of hp.s1 hq.s2 (by omega)
  have o2 := okMul_of hq.s1 hp.s2 (by omega)
  have o3 := okMul_of hp.s2 hq.s2 (by omega)
  have n := number_ok (n := p.1 * q.2 + q.1 * p.2) ((hp.s2.mul hq.s2).mono (show _ ≤ 9000 by omega)) (hp.mulne hq)
  simp [m_plus, c_plus, o1, o2, o3, n, addQ]
theorem times_ok (hp : Nk k p) (hq : Nk l q) (e : k + l ≤ 8000) : m_times [qD p, qD q] = .ok (.sh (qD (mulQ p q))) := by
  have o1 := okMul_of hp.s1 hq.s1 (by omega)
  have o3 := okMul_of hp.s2 hq.s2 (by omega)
  have n := number_ok (n := p.1 * q.1) ((hp.s2.mul hq.s2).mono (show _ ≤ 9000 by omega)) (hp.mulne hq)
  simp [m_times, c_times, o1, o3, n, mulQ]
end

/-! ### looks at numbers -/
theorem nk01 : Nk 1 (0, 1) := ⟨⟨by decide, by decide⟩, .lit (by decide), .lit (by decide)⟩
end W

set_option Elab.async false
set_option linter.all false
set_option maxRecDepth 100000
set_option autoImplicit false
namespace W
open PySem PySem.Spec PyProof.Rows L2 VL
noncomputable def b_trimmed_1 : Ev → Out := sAug 1 subD (cst (.int 1))
noncomputable def c_trimmed : Ev → Out := sSeq (sSet 1 (e1 lenD (eCons (eOwn 0) (cst [])))) (sSeq (sWhile (eAnd (e1 bOf (e2 gtD (eOwn 1) (cst (.int 0)))) (e1 bOf (e2 eqD (e2 ixD (eOwn 0) (e2 subD (eOwn 1) (cst (.int 1)))) (cst (.int 0))))) b_trimmed_1) (sRet (e3 sliceD (eOwn 0) (pNo) (e1 intOf (eVar 1)))))
noncomputable def m_trimmed : List D → R SD := runD 1 2 c_trimmed
noncomputable def c_coefficient_of : Ev → Out := sRet (eIf (e1 bOf (e2 ltD (eOwn 1) (e1 lenD (eCons (eOwn 0) (cst []))))) (e2 ixD (eOwn 0) (eOwn 1)) (cst (.int 0)))
noncomputable def m_coefficient_of : List D → R SD := runD 2 2 c_coefficient_of
noncomputable def c_add : Ev → Out := sSeq (sSet 2 (e1 maxD (eCons (e1 lenD (eCons (eOwn 0) (cst []))) (eCons (e1 lenD (eCons (eOwn 1) (cst []))) (cst []))))) (sRet (eCall m_trimmed (eCons (eLst (eComp [3] (e1 range1D (eCons (eOwn 2) (cst []))) (gSet 3) (cst true) (e2 addD (eCall m_coefficient_of (eCons (eVar 0) (eCons (eVar 3) (cst [])))) (eCall m_coefficient_of (eCons (eVar 1) (eCons (eVar 3) (cst []))))))) (cst []))))
noncomputable def m_add : List D → R SD := runD 2 4 c_add
noncomputable def c_scale : Ev → Out := sRet (eCall m_trimmed (eCons (eLst (eComp [2] (e1 seqD (eVar 0)) (gSet 2) (cst true) (e2 mulD (eOwn 2) (eOwn 1)))) (cst [])))
noncomputable def m_scale : List D → R SD := runD 2 3 c_scale
noncomputable def c_subtract : Ev → Out := sRet (eCall m_add (eCons (eVar 0) (eCons (eCall m_scale (eCons (eVar 1) (eCons (e1 negD (cst (.int 1))) (cst [])))) (cst []))))
noncomputable def m_subtract : List D → R SD := runD 2 2 c_subtract
noncomputable def b_multiply_1 : Ev → Out := sAugIx 2 iaddD (e2 addD (eOwn 3) (eOwn 5)) (e2 mulD (eOwn 4) (eOwn 6))
noncomputable def b_multiply_2 : Ev → Out := sFor (e1 enuD (eCons (eVar 1) (cst []))) (gTupD 2 (gsCons (gSet 5) (gsCons (gSet 6) (gsNil)))) b_multiply_1
noncomputable def c_multiply : Ev → Out := sSeq (sIf (eOr (eNot (e1 truD (eOwn 0))) (eNot (e1 truD (eOwn 1)))) (sRetO (e1 lim (cst []))) (sNil)) (sSeq (sSetO 2 (e2 mulO (eLst (e1 lim (eCons (cst (.int 0)) (cst [])))) (e2 subD (e2 addD (e1 lenD (eCons (eOwn 0) (cst []))) (e1 lenD (eCons (eOwn 1) (cst [])))) (cst (.int 1))))) (sSeq (sFor (e1 enuD (eCons (eVar 0) (cst []))) (gTupD 2 (gsCons (gSet 3) (gsCons (gSet 4) (gsNil)))) b_multiply_2) (sRetV 2)))
noncomputable def m_multiply : List D → R SD := runD 2 7 c_multiply
noncomputable def b_value_at_1 : Ev → Out := sSet 2 (eCall m_plus (eCons (eCall m_times (eCons (eVar 2) (eCons (eVar 1) (cst [])))) (eCons (e1 tupD (eCons (eVar 3) (eCons (cst (.int 1)) (cst [])))) (cst []))))
noncomputable def c_value_at : Ev → Out := sSeq (sSet 2 (cst (.tuple [(.int 0), (.int 1)]))) (sSeq (sFor (e1 seqD (eLst (e1 revO (eOwn 0)))) (gSet 3) b_value_at_1) (sRet (eVar 2)))
noncomputable def m_value_at : List D → R SD := runD 2 4 c_value_at
/-! ### lists of whole numbers as data -/
def pD (l : List Int) : D := .list (l.map .int)
@[simp] theorem pD_fold (l : List Int) : PyData.list (List.map .int l) = pD l := rfl
@[simp] theorem p_len (l : List Int) : lenD [pD l] = some (.int l.length) := by unfold pD; rw [r_len_l, List.length_map]
@[simp] theorem p_tru (l : List Int) : truD (pD l) = some (!l.isEmpty) := by unfold pD; rw [r_tru_l]; cases l <;> rfl
@[simp] theorem p_seq (l : List Int) : seqD (pD l) = some (l.map .int) := id rfl
@[simp] theorem p_listO (l : List Int) : listO [pD l] = some (l.map .int) := id rfl
@[simp] theorem p_rev (l : List Int) : revO (pD l) = some (l.reverse.map .int) := by unfold pD; rw [r_revO, List.map_reverse]
@[simp] theorem p_isi (n : String) (l : List Int) : isiD n (pD l) = (kitB "list" n).map .bool := id rfl
@[simp] theorem p_okD (n : Nat) (l : List Int) : okD (n + 1) (pD l) = true := okL_ints n l
@[simp] theorem p_enu (l : List Int) : enuD [pD l] = some (enuL (l.map .int)) := id rfl
theorem p_ix {l : List Int} {x : Int} (h : 0 ≤ x) : ixD (pD l) (.int x) = (l[x.toNat]?).map .int := by unfold pD; rw [r_ix_l, r_atI h, List.getElem?_map]
theorem p_ixn (l : List Int) (n : Nat) : ixD (pD l) (.int (n : Int)) = (l[n]?).map .int := by rw [p_ix (by omega)]; simp
def cutI (l : List Int) (lo hi : Option Int) : List Int := (l.drop (HT.sIx l.length 0 lo)).take (HT.sIx l.length l.length hi - HT.sIx l.length 0 lo)
@[simp] theorem p_slice (l : List Int) (o o' : Option Int) : sliceD (pD l) o o' = some (pD (cutI l o o')) := by unfold pD; rw [r_slice, cut_map]; rfl
@[simp] theorem p_sliceO (l : List Int) (o o' : Option Int) : sliceO (pD l) o o' = some ((cutI l o o').map .int) := by unfold pD; rw [r_sliceO, cut_map]; rfl
theorem cutI_to (l : List Int) (n : Nat) (h : n ≤ l.length) : cutI l none (some (n : Int)) = l.take n := by
  unfold cutI; rw [HT.sIx_none, sIx_in (by omega) (by omega)]; simp

/-! ### coefficients -/
def cf (l : List Int) (k : Nat) : Int := l.getD k 0
@[simp] theorem cf_nil (k : Nat) : cf [] k = 0 := by simp [cf]
@[simp] theorem cf_zero (a : Int) (l : List Int) : cf (a :: l) 0 = a := rfl
@[simp] theorem cf_succ (a : Int) (l : List Int) (k : Nat) : cf (a :: l) (k + 1) = cf l k := rfl
theorem cf_get {l : List Int} {k : Nat} (h : k < l.length) : l[k]? = some (cf l k) := by
  unfold cf; rw [List.getD_eq_getElem?_getD, List.getElem?_eq_getElem h]; rfl
@[simp] theorem cf_elem {l : List Int} {k : Nat} (h : k < l.length) : l[k] = cf l k := by
  have := List.getElem?_eq_getElem h
  rw [cf_get h] at this
  exact (Option.some.inj this).symm
theorem cf_out {l : List Int} {k : Nat} (h : l.length ≤ k) : cf l k = 0 := by
  unfold cf; rw [List.getD_eq_getElem?_getD, List.getElem?_eq_none h]; rfl
theorem cf_take (l : List Int) (n k : Nat) : cf (l.take n) k = if k < n then cf l k else 0 := by
  unfold cf
  rw [List.getD_eq_getElem?_getD, List.getD_eq_getElem?_getD, List.getElem?_take]
  split <;> rfl
theorem cf_mem {l : List Int} {k : Nat} (h : k < l.length) : cf l k ∈ l := List.mem_of_getElem? (cf_get h)
theorem cf_all {l : List Int} {Q : Int → Prop} (h : ∀ c ∈ l, Q c) (h0 : Q 0) (k : Nat) : Q (cf l k) := by
  by_cases e : k < l.length
  · exact h _ (cf_mem e)
  · rw [cf_out (by omega)]; exact h0
/-- the first n values -/
def fl (n : Nat) (φ : Nat → Int) : List Int := (List.range n).map φ
@[simp] theorem fl_length (n : Nat) (φ : Nat → Int) : (fl n φ).length = n := by simp [fl]
theorem cf_fl (n : Nat) (φ : Nat → Int) (k : Nat) : cf (fl n φ) k = if k < n then φ k else 0 := by
  split
  · rename_i h
    have := cf_get (l := fl n φ) (k := k) (by simpa using h)
    unfold fl at this
    rw [List.getElem?_map, List.getElem?_range h] at this
    exact (Option.some.inj this).symm
  · rename_i h
    exact cf_out (by simpa using h)
theorem fl_get {n : Nat} {φ : Nat → Int} {k : Nat} (h : k < n) : (fl n φ)[k]? = some (φ k) := by rw [cf_get (by simpa using h), cf_fl, if_pos h]
theorem cf_ext {l m : List Int} (hl : l.length = m.length) (h : ∀ k, k < l.length → cf l k = cf m k) : l = m := by
  apply List.ext_getElem?
  intro i
  by_cases e : i < l.length
  · rw [cf_get e, cf_get (by omega), h i e]
  · rw [List.getElem?_eq_none (by omega), List.getElem?_eq_none (by omega)]
theorem fl_eq {n : Nat} {l : List Int} {φ : Nat → Int} (hl : l.length = n) (h : ∀ k, k < n → cf l k = φ k) : l = fl n φ :=
  cf_ext (by simpa using hl) fun k hk => by rw [h k (by omega), cf_fl, if_pos (by omega)]
theorem fl_set {n : Nat} {φ : Nat → Int} {p : Nat} {v : Int} : (fl n φ).set p v = fl n (fun k => if k = p then v else φ k) := by
  refine fl_eq (by simp) fun k hk => ?_
  have : ((fl n φ).set p v)[k]? = some (if k = p then v else φ k) := by
    rw [List.getElem?_set]
    by_cases e : p = k
    · subst e; simp [hk]
    · rw [if_neg e, fl_get hk, if_neg (Ne.symm e)]
  unfold cf
  rw [List.getD_eq_getElem?_getD, this]; rfl
theorem fl_congr {n : Nat} {φ ψ : Nat → Int} (h : ∀ k, k < n → φ k = ψ k) : fl n φ = fl n ψ := fl_eq (by simp) fun k hk => by rw [cf_fl, if_pos hk, h k hk]

/-! ### trimming -/
/-- no zero at the end -/
def Tr (l : List Int) : Prop := ∀ m, l.length = m + 1 → cf l m ≠ 0
theorem tr_nil : Tr [] := fun m h => by cases h
theorem Tr.uniq {l m : List Int} (hl : Tr l) (hm : Tr m) (h : ∀ k, cf l k = cf m k) : l = m := by
  have : l.length = m.length := by
    rcases Nat.lt_trichotomy l.length m.length with e | e | e
    · exact absurd (by rw [← h, cf_out (by omega)]) (hm (m.length - 1) (by omega))
    · exact e
    · exact absurd (by rw [h, cf_out (by omega)]) (hl (l.length - 1) (by omega))
  exact cf_ext this fun k _ => h k
def tlen (l : List Int) : Nat → Nat
  | 0 => 0
  | m + 1 => if cf l m = 0 then tlen l m else m + 1
theorem tlen_le (l : List Int) : ∀ m, tlen l m ≤ m
  | 0 => Nat.le_refl _
  | m + 1 => by
    unfold tlen
    split
    · exact Nat.le_succ_of_le (tlen_le l m)
    · exact Nat.le_refl _
theorem tlen_zero (l : List Int) : ∀ m k, tlen l m ≤ k → k < m → cf l k = 0
  | 0, k, _, h => by omega
  | m + 1, k, h1, h2 => by
    unfold tlen at h1
    split at h1
    · rename_i z
      by_cases e : k = m
      · subst e; exact z
      · exact tlen_zero l m k h1 (by omega)
    · omega
theorem tlen_last (l : List Int) : ∀ m j, tlen l m = j + 1 → cf l j ≠ 0
  | 0, j, h => by cases h
  | m + 1, j, h => by
    unfold tlen at h
    split at h
    · exact tlen_last l m j h
    · rename_i z
      have : m = j := by omega
      subst this; exact z
def trimP (l : List Int) : List Int := l.take (tlen l l.length)
theorem cf_trim (l : List Int) (k : Nat) : cf (trimP l) k = cf l k := by
  unfold trimP
  rw [cf_take]
  split
  · rfl
  · by_cases e : k < l.length
    · exact (tlen_zero l l.length k (by omega) e).symm
    · exact (cf_out (by omega)).symm
theorem trim_length (l : List Int) : (trimP l).length = tlen l l.length := by
  unfold trimP
  rw [List.length_take]
  have := tlen_le l l.length
  omega
theorem trim_le (l : List Int) : (trimP l).length ≤ l.length := by rw [trim_length]; exact tlen_le l l.length
theorem tr_trim (l : List Int) : Tr (trimP l) := fun m h => by
  rw [cf_trim]
  rw [trim_length] at h
  exact tlen_last l l.length m h
theorem trim_eq {l m : List Int} (hm : Tr m) (h : ∀ k, cf l k = cf m k) : trimP l = m := (tr_trim l).uniq hm fun k => by rw [cf_trim, h]
theorem Tr.trim {l : List Int} (h : Tr l) : trimP l = l := trim_eq h fun _ => rfl
theorem trim_mem {l : List Int} {Q : Int → Prop} (h : ∀ c ∈ l, Q c) : ∀ c ∈ trimP l, Q c := fun c hc => h c (List.mem_of_mem_take hc)
def SzP (s : Nat) (l : List Int) : Prop := ∀ c ∈ l, Sz s c
theorem sz0 (s : Nat) : Sz s 0 := ⟨by simpa using Nat.two_pow_pos s⟩
theorem SzP.cf {s : Nat} {l : List Int} (h : SzP s l) (k : Nat) : Sz s (cf l k) := cf_all h (sz0 s) k
theorem SzP.mono {s t : Nat} {l : List Int} (h : SzP s l) (e : s ≤ t) : SzP t l := fun c hc => (h c hc).mono e
theorem SzP.trim {s : Nat} {l : List Int} (h : SzP s l) : SzP s (trimP l) := trim_mem h
theorem SzP.fl {s n : Nat} {φ : Nat → Int} (h : ∀ k, k < n → Sz s (φ k)) : SzP s (fl n φ) := fun c hc => by
  unfold W.fl at hc
  obtain ⟨k, hk, rfl⟩ := List.mem_map.mp hc
  exact h k (List.mem_range.mp hk)

theorem trimmed_loop (l : List Int) : ∀ m, m ≤ l.length → whileO (eAnd (e1 bOf (e2 gtD (eOwn 1) (cst (.int 0)))) (e1 bOf (e2 eqD (e2 ixD (eOwn 0) (e2 subD (eOwn 1) (cst (.int 1)))) (cst (.int 0))))) b_trimmed_1 (m + 1) [.sh (pD l), .sh (.int (m : Nat))] = .nx [.sh (pD l), .sh (.int (tlen l m : Nat))]
  | 0, _ => by simp [whileO, tlen]
  | m + 1, h => by
    have ix : ixD (pD l) (.int (m : Nat)) = some (.int (cf l m)) := by rw [p_ixn, cf_get (by omega)]; rfl
    have he : ((m + 1 : Nat) : Int) - 1 = (m : Nat) := by omega
    have hh : (0 : Int) < ((m + 1 : Nat) : Int) := by omega
    have ih := trimmed_loop l m (by omega)
    rw [whileO]
    by_cases z : cf l m = 0
    · rw [tlen, if_pos z, ← ih]
      simp [-Int.natCast_add, he, hh, ix, z, b_trimmed_1]
    · rw [tlen, if_neg z]
      simp [-Int.natCast_add, he, hh, ix, z]
theorem trimmed_ok (l : List Int) (h : l.length ≤ 100000) : m_trimmed [pD l] = .ok (.sh (pD (trimP l))) := by
  have e := sWhile_eq (trimmed_loop l l.length (Nat.le_refl _)) (by simp)
  have c := cutI_to l (tlen l l.length) (tlen_le l _)
  simp [m_trimmed, c_trimmed, e, c, trimP]
/-! ### the law's own trimming -/
/-! ### sums -/
theorem coefficient_ok (a : List Int) (k : Nat) : m_coefficient_of [pD a, .int (k : Nat)] = .ok (.sh (.int (cf a k))) := by
  by_cases h : k < a.length
  · have : ((k : Nat) : Int) < a.length := by omega
    simp [m_coefficient_of, c_coefficient_of, h, p_ixn, cf_get h]
  · simp [m_coefficient_of, c_coefficient_of, h, cf_out (Nat.not_lt.mp h)]
def addP (a b : List Int) : List Int := trimP (fl (max a.length b.length) fun k => cf a k + cf b k)
theorem cf_add (a b : List Int) (k : Nat) : cf (addP a b) k = cf a k + cf b k := by
  unfold addP
  rw [cf_trim, cf_fl]
  split
  · rfl
  · rw [cf_out (l := a) (by omega), cf_out (l := b) (by omega)]; rfl
theorem SzP.add {s : Nat} {a b : List Int} (ha : SzP s a) (hb : SzP s b) : SzP (s + 1) (addP a b) := SzP.trim (SzP.fl fun k _ => (ha.cf k).add (hb.cf k))
theorem add_len (a b : List Int) : (addP a b).length ≤ max a.length b.length := Nat.le_trans (trim_le _) (by simp)
theorem max2 (a b : Nat) : (if (b : Int) > (a : Int) then (b : Int) else (a : Int)) = ((max a b : Nat) : Int) := by split <;> omega
@[simp] theorem r_max2 (a b : Nat) : maxD [.int (a : Int), .int (b : Int)] = some (.int ((max a b : Nat) : Int)) := by
  show some (PyData.int (if (b : Int) > (a : Int) then (b : Int) else (a : Int))) = _
  rw [max2]
theorem rng0 (n : Nat) : rngL 0 1 n = (List.range n).map fun i => .int (i : Nat) := by unfold rngL; simp
theorem add_ok {a b : List Int} (ha : a.length ≤ 50000) (hb : b.length ≤ 50000) : m_add [pD a, pD b] = .ok (.sh (pD (addP a b))) := by
  have hr := range1_ok (x := ((max a.length b.length : Nat) : Int)) (by omega) (by omega)
  have hc : compR (compS [3] (gSet 3) (cst true) (e2 addD (eCall m_coefficient_of (eCons (eVar 0) (eCons (eVar 3) (cst [])))) (eCall m_coefficient_of (eCons (eVar 1) (eCons (eVar 3) (cst []))))) [.sh (pD a), .sh (pD b), .sh (.int ((max a.length b.length : Nat) : Int)), .no]) (rngL 0 1 (max a.length b.length)) = .ok ((fl (max a.length b.length) fun k => cf a k + cf b k).map .int) := by
    rw [rng0, fl, List.map_map]
    exact compR_map' fun k hk => by simp [compS, coefficient_ok]
  have ht := trimmed_ok (fl (max a.length b.length) fun k => cf a k + cf b k) (by simp; omega)
  have hl : max a.length b.length ≤ sizeLine := slB (by omega)
  simp only [Int.toNat_natCast] at hr
  simp [m_add, c_add, hr, rngL_length, hl, hc, ht, addP]
def scaleP (a : List Int) (c : Int) : List Int := trimP (a.map (· * c))
theorem cf_map {a : List Int} {f : Int → Int} (h0 : f 0 = 0) (k : Nat) : cf (a.map f) k = f (cf a k) := by
  by_cases e : k < a.length
  · have := cf_get (l := a.map f) (k := k) (by simpa using e)
    rw [List.getElem?_map, cf_get e] at this
    exact (Option.some.inj this).symm
  · rw [cf_out (by simpa using Nat.not_lt.mp e), cf_out (by omega), h0]
theorem cf_scale (a : List Int) (c : Int) (k : Nat) : cf (scaleP a c) k = cf a k * c := by
  unfold scaleP; rw [cf_trim, cf_map (by simp)]
theorem scale_len (a : List Int) (c : Int) : (scaleP a c).length ≤ a.length := Nat.le_trans (trim_le _) (by simp)
theorem SzP.scale {s t : Nat} {a : List Int} {c : Int} (ha : SzP s a) (hc : Sz t c) : SzP (s + t) (scaleP a c) := SzP.trim fun x hx => by
  obtain ⟨y, hy, rfl⟩ := List.mem_map.mp hx
  exact (ha y hy).mul hc
theorem scale_comp {a : List Int} {c : Int} {s t : Nat} (ha : SzP s a) (hc : Sz t c) (hst : s + t ≤ 134217728) (ρ : Ev) (hρ : ρ.length = 3) (h1 : ρ[1]? = some (.sh (.int c))) :
    compR (compS [2] (gSet 2) (cst true) (e2 mulD (eOwn 2) (eOwn 1)) ρ) (a.map .int) = .ok ((a.map (· * c)).map .int) := by
  rw [List.map_map]
  match ρ, hρ with
  | [x, y, z], _ =>
    simp at h1
    subst h1
    exact compR_map' fun k hk => by simp [compS, okMul_of (ha k hk) hc hst]
theorem scale_ok {a : List Int} {c : Int} {s t : Nat} (ha : SzP s a) (hc : Sz t c) (hst : s + t ≤ 134217728) (hl : a.length ≤ 100000) : m_scale [pD a, .int c] = .ok (.sh (pD (scaleP a c))) := by
  have h := scale_comp ha hc hst [.sh (pD a), .sh (.int c), .no] rfl rfl
  have ht := trimmed_ok (a.map (· * c)) (by simpa using hl)
  simp only [List.map_map] at h
  simp [m_scale, c_scale, slB hl, h, scaleP, -List.map_map]
  rw [show (PyData.list (List.map (PyData.int ∘ fun x => x * c) a)) = pD (a.map (· * c)) by unfold pD; rw [List.map_map]]
  simp [ht]
def subP (a b : List Int) : List Int := addP a (scaleP b (-1))
theorem cf_sub (a b : List Int) (k : Nat) : cf (subP a b) k = cf a k - cf b k := by unfold subP; rw [cf_add, cf_scale]; omega
theorem sz1 : Sz 1 (-1) := .lit (by decide)
theorem subtract_ok {a b : List Int} {s : Nat} (hb : SzP s b) (hs : s ≤ 100000000) (hla : a.length ≤ 50000) (hlb : b.length ≤ 50000) : m_subtract [pD a, pD b] = .ok (.sh (pD (subP a b))) := by
  have h1 := scale_ok hb sz1 (by omega) (by omega)
  have h2 := add_ok (a := a) (b := scaleP b (-1)) hla (Nat.le_trans (scale_len b _) hlb)
  simp [m_subtract, c_subtract, h1, h2, subP]
end W

set_option Elab.async false
set_option linter.all false
set_option maxRecDepth 100000
set_option autoImplicit false
namespace W
open PySem PySem.Spec PyProof.Rows L2 VL
/-! ### products -/
def sumN : Nat → (Nat → Int) → Int
  | 0, _ => 0
  | n + 1, f => sumN n f + f n
theorem sumN_congr {f g : Nat → Int} : ∀ {n : Nat}, (∀ i, i < n → f i = g i) → sumN n f = sumN n g
  | 0, _ => rfl
  | n + 1, h => by unfold sumN; rw [sumN_congr (n := n) fun i hi => h i (by omega), h n (by omega)]
theorem sumN_zero {f : Nat → Int} : ∀ {n : Nat}, (∀ i, i < n → f i = 0) → sumN n f = 0
  | 0, _ => rfl
  | n + 1, h => by unfold sumN; rw [sumN_zero (n := n) fun i hi => h i (by omega), h n (by omega)]; rfl
theorem sumN_succ' (f : Nat → Int) : ∀ n, sumN (n + 1) f = f 0 + sumN n (fun i => f (i + 1))
  | 0 => by simp [sumN]
  | n + 1 => by rw [sumN, sumN_succ' f n, sumN]; omega
/-- one summand of a coefficient of a product -/
def tm (a b : List Int) (k i : Nat) : Int := if i ≤ k then cf a i * cf b (k - i) else 0
/-- the coefficient of a product -/
def cv (a b : List Int) (k : Nat) : Int := sumN a.length (tm a b k)
theorem cv_nil (b : List Int) (k : Nat) : cv [] b k = 0 := rfl
theorem cv_cons (x : Int) (a b : List Int) : ∀ k, cv (x :: a) b k = x * cf b k + (if k = 0 then 0 else cv a b (k - 1)) := by
  intro k
  unfold cv
  rw [List.length_cons, sumN_succ']
  cases k with
  | zero =>
    rw [if_pos rfl, sumN_zero fun i _ => by unfold tm; rw [if_neg (by omega)]]
    simp [tm]
  | succ k =>
    rw [if_neg (by omega), show tm (x :: a) b (k + 1) 0 = x * cf b (k + 1) by simp [tm]]
    congr 1
    refine sumN_congr fun i _ => ?_
    unfold tm
    by_cases h : i ≤ k
    · rw [if_pos (by omega), if_pos (by omega), cf_succ, show k + 1 - (i + 1) = k + 1 - 1 - i by omega]
    · rw [if_neg (by omega), if_neg (by omega)]
theorem cv_out {a b : List Int} {k : Nat} (h : a.length + b.length ≤ k + 1) : cv a b k = 0 := sumN_zero fun i hi => by
  unfold tm; split
  · rw [cf_out (l := b) (by omega)]; simp
  · rfl
def mulP (a b : List Int) : List Int := if a = [] ∨ b = [] then [] else fl (a.length + b.length - 1) (cv a b)
theorem cf_mul (a b : List Int) (k : Nat) : cf (mulP a b) k = cv a b k := by
  unfold mulP
  by_cases h : a = [] ∨ b = []
  · rw [if_pos h]
    rcases h with rfl | rfl
    · simp [cv_nil]
    · rw [cf_nil, eq_comm]
      exact sumN_zero fun i hi => by unfold tm; split <;> simp
  · rw [if_neg h, cf_fl]
    split
    · rfl
    · rw [cv_out]
      have : 0 < a.length := by cases a with | nil => simp at h | cons _ _ => simp
      omega
theorem mul_len (a b : List Int) : (mulP a b).length ≤ a.length + b.length := by
  unfold mulP; split
  · simp
  · rw [fl_length]; omega
theorem sz_sum {f : Nat → Int} {s : Nat} : ∀ {n : Nat}, (∀ i, i < n → Sz s (f i)) → Sz (s + n) (sumN n f)
  | 0, _ => sz0 _
  | n + 1, h => (sz_sum (n := n) fun i hi => h i (by omega)).add ((h n (by omega)).mono (by omega))
theorem SzP.cv {s t : Nat} {a b : List Int} (ha : SzP s a) (hb : SzP t b) (k : Nat) : Sz (s + t + a.length) (cv a b k) := sz_sum fun i _ => by
  unfold tm; split
  · exact (ha.cf i).mul (hb.cf _)
  · exact sz0 _
theorem SzP.mul {s t : Nat} {a b : List Int} (ha : SzP s a) (hb : SzP t b) : SzP (s + t + a.length) (mulP a b) := by
  unfold mulP; split
  · exact fun c hc => by cases hc
  · exact SzP.fl fun k _ => ha.cv hb k
theorem enu_get {l : List Int} {i : Nat} {d : D} (h : (enuL (l.map .int))[i]? = some d) : i < l.length ∧ d = .tuple [.int (i : Nat), .int (cf l i)] := by
  unfold enuL at h
  rw [List.length_map, List.getElem?_zipWith] at h
  by_cases e : i < l.length
  · rw [List.getElem?_range e, List.getElem?_map, cf_get e] at h
    exact ⟨e, (Option.some.inj h).symm⟩
  · rw [List.getElem?_eq_none (by simpa using e)] at h
    cases h
theorem enu_length (l : List Int) : (enuL (l.map .int)).length = l.length := by simp [enuL]
theorem fl_ix {n : Nat} {φ : Nat → Int} {k : Nat} (h : k < n) : ((fl n φ).map PyData.int)[k]? = some (.int (φ k)) := by rw [List.getElem?_map, fl_get h]; rfl
/-- one step of the inner loop -/
theorem mul_step {a b : List Int} {s t L : Nat} {φ : Nat → Int} {i j : Nat} (ha : SzP s a) (hb : SzP t b) (hst : s + t ≤ 134217728) (hL : i + j < L) (hL2 : L ≤ 100000) (x0 x1 x5 x6 : SD) :
    gTo (gTupD 2 (gsCons (gSet 5) (gsCons (gSet 6) (gsNil)))) b_multiply_1 (.tuple [.int (j : Nat), .int (cf b j)]) [x0, x1, .ow ((fl L φ).map .int), .sh (.int (i : Nat)), .sh (.int (cf a i)), x5, x6]
      = .nx [x0, x1, .ow ((fl L fun k => if k = i + j then φ k + cf a i * cf b j else φ k).map .int), .sh (.int (i : Nat)), .sh (.int (cf a i)), .sh (.int (j : Nat)), .sh (.int (cf b j))] := by
  have m := okMul_of (ha.cf i) (hb.cf j) hst
  have ix := fl_ix (φ := φ) hL
  have e : ((i : Int) + (j : Int)).toNat = i + j := by omega
  have h1 : (0 : Int) ≤ (i : Int) + (j : Int) := by omega
  have h2 : (i : Int) + (j : Int) < 9223372036854775808 := by omega
  have st : ((fl L φ).map PyData.int).set (i + j) (.int (φ (i + j) + cf a i * cf b j)) = (fl L fun k => if k = i + j then φ k + cf a i * cf b j else φ k).map .int := by
    rw [← List.map_set, fl_set]
    congr 2
    funext k
    by_cases z : k = i + j
    · subst z; simp
    · simp [z]
  simp only [List.getElem?_map] at ix
  simp [b_multiply_1, placeD, h1, h2, e, ix, m, st]
theorem mul_inner {a b : List Int} {s t L : Nat} {φ : Nat → Int} {i : Nat} (ha : SzP s a) (hb : SzP t b) (hst : s + t ≤ 134217728) (hL : i + b.length ≤ L) (hL2 : L ≤ 100000) (x0 x1 x5 x6 : SD) :
    ∃ y5 y6, forO (gTo (gTupD 2 (gsCons (gSet 5) (gsCons (gSet 6) (gsNil)))) b_multiply_1) (enuL (b.map .int)) [x0, x1, .ow ((fl L φ).map .int), .sh (.int (i : Nat)), .sh (.int (cf a i)), x5, x6]
      = .nx [x0, x1, .ow ((fl L fun k => φ k + tm a b k i).map .int), .sh (.int (i : Nat)), .sh (.int (cf a i)), y5, y6] := by
  obtain ⟨ρ', e, y5, y6, rfl⟩ := forO_inv (F := gTo (gTupD 2 (gsCons (gSet 5) (gsCons (gSet 6) (gsNil)))) b_multiply_1) (l := enuL (b.map .int))
    (fun j ρ => ∃ y5 y6, ρ = [x0, x1, .ow ((fl L fun k => φ k + if i ≤ k ∧ k < i + j then cf a i * cf b (k - i) else 0).map .int), .sh (.int (i : Nat)), .sh (.int (cf a i)), y5, y6])
    (ρ := [x0, x1, .ow ((fl L φ).map .int), .sh (.int (i : Nat)), .sh (.int (cf a i)), x5, x6])
    ⟨x5, x6, by
      rw [show fl L φ = fl L fun k => φ k + if i ≤ k ∧ k < i + 0 then cf a i * cf b (k - i) else 0 from fl_congr fun k _ => by rw [if_neg (by omega)]; omega]⟩
    (fun j d ρ hd hi => by
      obtain ⟨hj, rfl⟩ := enu_get hd
      obtain ⟨y5, y6, rfl⟩ := hi
      refine ⟨_, .inl (mul_step ha hb hst (by omega) hL2 _ _ _ _), .sh (.int (j : Nat)), .sh (.int (cf b j)), ?_⟩
      refine congrArg (fun l => [x0, x1, SD.ow (List.map PyData.int l), .sh (.int (i : Nat)), .sh (.int (cf a i)), .sh (.int (j : Nat)), .sh (.int (cf b j))]) (fl_congr fun k _ => ?_)
      by_cases z : k = i + j
      · subst z
        rw [if_pos rfl, if_neg (by omega), if_pos (by omega)]
        simp
      · rw [if_neg z]
        by_cases w : i ≤ k ∧ k < i + j
        · rw [if_pos w, if_pos (by omega)]
        · rw [if_neg w, if_neg (by omega)])
  refine ⟨y5, y6, ?_⟩
  rw [e, enu_length]
  refine congrArg (fun l => Out.nx [x0, x1, SD.ow (List.map PyData.int l), .sh (.int (i : Nat)), .sh (.int (cf a i)), y5, y6]) (fl_congr fun k _ => ?_)
  unfold tm
  by_cases w : i ≤ k
  · rw [if_pos w]
    by_cases v : k < i + b.length
    · rw [if_pos ⟨w, v⟩]
    · rw [if_neg (by omega), cf_out (l := b) (by omega)]; simp
  · rw [if_neg w, if_neg (by omega)]
theorem rep_zero (n : Nat) : (List.replicate n [PyData.int 0]).flatten = (fl n fun _ => 0).map .int := by
  induction n with
  | zero => rfl
  | succ n ih => rw [List.replicate_succ, List.flatten_cons, ih]; simp [fl, List.range_succ_eq_map, List.map_map, Function.comp_def]
theorem multiply_ok {a b : List Int} {s t : Nat} (ha : SzP s a) (hb : SzP t b) (hst : s + t ≤ 134217728) (hla : a.length ≤ 50000) (hlb : b.length ≤ 50000) : m_multiply [pD a, pD b] = .ok (.ow ((mulP a b).map .int)) := by
  by_cases h1 : a = []
  · subst h1
    simp [m_multiply, c_multiply, mulP]
  by_cases h2 : b = []
  · subst h2
    cases a with
    | nil => simp at h1
    | cons x a => simp [m_multiply, c_multiply, mulP]
  · have t1 : truD (pD a) = some true := by rw [p_tru]; cases a with | nil => simp at h1 | cons _ _ => rfl
    have t2 : truD (pD b) = some true := by rw [p_tru]; cases b with | nil => simp at h2 | cons _ _ => rfl
    have la : 0 < a.length := by cases a with | nil => simp at h1 | cons _ _ => simp
    obtain ⟨L, hL⟩ : ∃ L, L = a.length + b.length - 1 := ⟨_, rfl⟩
    have rp : repD [.int 0] ((a.length : Int) + (b.length : Int) - 1) = some ((fl L fun _ => 0).map .int) := by
      unfold repD
      have e : ((a.length : Int) + (b.length : Int) - 1).toNat = L := by omega
      rw [if_pos ⟨by omega, by omega, by rw [e]; exact slB (by simp; omega)⟩, e, rep_zero]
    obtain ⟨ρ', e, y3, y4, y5, y6, rfl⟩ := forO_inv (F := gTo (gTupD 2 (gsCons (gSet 3) (gsCons (gSet 4) (gsNil)))) b_multiply_2) (l := enuL (a.map .int))
      (fun i ρ => ∃ y3 y4 y5 y6, ρ = [.sh (pD a), .sh (pD b), .ow ((fl L fun k => sumN i (tm a b k)).map .int), y3, y4, y5, y6])
      (ρ := [.sh (pD a), .sh (pD b), .ow ((fl L fun _ => 0).map .int), .no, .no, .no, .no])
      ⟨_, _, _, _, rfl⟩
      (fun i d ρ hd hi => by
        obtain ⟨hj, rfl⟩ := enu_get hd
        obtain ⟨y3, y4, y5, y6, rfl⟩ := hi
        obtain ⟨z5, z6, e⟩ := mul_inner (φ := fun k => sumN i (tm a b k)) (i := i) (L := L) ha hb hst (by omega) (by omega) (.sh (pD a)) (.sh (pD b)) y5 y6
        exact ⟨_, .inl (by simp [b_multiply_2, e, -Out.nx.injEq]; rfl), _, _, _, _, rfl⟩)
    rw [enu_length] at e
    have : mulP a b = fl L fun k => sumN a.length (tm a b k) := by
      unfold mulP
      rw [if_neg (by simp [h1, h2]), hL]; rfl
    simp [m_multiply, c_multiply, h1, h2, rp, e, this]

/-! ### products of lists, derivative -/
end W

set_option Elab.async false
set_option linter.all false
set_option maxRecDepth 100000
set_option autoImplicit false
namespace W
open PySem PySem.Spec PyProof.Rows L2 VL
/-! ### numbers as Rat -/
def tQ (r : Rat) : Int × Int := (r.num, (r.den : Int))
def rD (r : Rat) : D := qD (tQ r)
theorem nm_tQ (r : Rat) : Nm (tQ r) := ⟨by
  have := r.den_pos
  show (1 : Int) ≤ (r.den : Int)
  omega, by
  show Nat.gcd r.num.natAbs (r.den : Int).natAbs = 1
  rw [Int.natAbs_natCast]; exact r.reduced⟩
theorem den_ne (r : Rat) : ((r.den : Int) : Rat) ≠ 0 := by
  have := r.den_nz
  exact_mod_cast this
theorem num_eq (r : Rat) : (r.num : Rat) = r * ((r.den : Int) : Rat) := by
  have h : (r.num : Rat) / ((r.den : Int) : Rat) = r := by rw [← Rat.divInt_eq_div]; exact Rat.num_divInt_den r
  have := den_ne r
  grind
theorem mkQ_rat {n d : Int} (h : d ≠ 0) : mkQ n d = tQ ((n : Rat) / (d : Rat)) := by
  have hd : (d : Rat) ≠ 0 := by exact_mod_cast h
  refine (mkQ_nm h).uniq (nm_tQ _) ?_
  have e := mkQ_eq (n := n) h
  have e2 := num_eq ((n : Rat) / (d : Rat))
  generalize hr : (n : Rat) / (d : Rat) = r at e2 ⊢
  have e3 : (r.num : Rat) * (d : Rat) = (n : Rat) * ((r.den : Int) : Rat) := by rw [e2, ← hr]; grind
  have e4 : r.num * d = n * (r.den : Int) := by exact_mod_cast e3
  show (mkQ n d).1 * (r.den : Int) = r.num * (mkQ n d).2
  have : ((mkQ n d).1 * (r.den : Int)) * d = (r.num * (mkQ n d).2) * d := by grind
  exact Int.eq_of_mul_eq_mul_right h this
theorem addQ_rat (r s : Rat) : addQ (tQ r) (tQ s) = tQ (r + s) := by
  unfold addQ
  have h1 := den_ne r
  have h2 := den_ne s
  have h3 : (tQ r).2 * (tQ s).2 ≠ 0 := by
    show (r.den : Int) * (s.den : Int) ≠ 0
    have := r.den_nz
    have := s.den_nz
    exact Int.mul_ne_zero (by omega) (by omega)
  rw [mkQ_rat h3]
  congr 1
  have e1 := num_eq r
  have e2 := num_eq s
  show ((r.num * (s.den : Int) + s.num * (r.den : Int) : Int) : Rat) / (((r.den : Int) * (s.den : Int) : Int) : Rat) = r + s
  rw [Rat.intCast_add, Rat.intCast_mul, Rat.intCast_mul, Rat.intCast_mul, e1, e2]
  grind
theorem mulQ_rat (r s : Rat) : mulQ (tQ r) (tQ s) = tQ (r * s) := by
  unfold mulQ
  have h1 := den_ne r
  have h2 := den_ne s
  have h3 : (tQ r).2 * (tQ s).2 ≠ 0 := by
    show (r.den : Int) * (s.den : Int) ≠ 0
    have := r.den_nz
    have := s.den_nz
    exact Int.mul_ne_zero (by omega) (by omega)
  rw [mkQ_rat h3]
  congr 1
  have e1 := num_eq r
  have e2 := num_eq s
  show ((r.num * s.num : Int) : Rat) / (((r.den : Int) * (s.den : Int) : Int) : Rat) = r * s
  rw [Rat.intCast_mul, Rat.intCast_mul, e1, e2]
  grind
/-! ### values -/
def evP (a : List Int) (x : Rat) : Rat := a.foldr (fun (c : Int) (v : Rat) => v * x + (c : Rat)) 0
def Rk (k : Nat) (r : Rat) : Prop := Nk k (tQ r)
theorem Rk.mono {k l : Nat} {r : Rat} (h : Rk k r) (e : k ≤ l) : Rk l r := Nk.mono h e
theorem Rk.add {k l : Nat} {r s : Rat} (h : Rk k r) (h' : Rk l s) : Rk (k + l + 1) (r + s) := by
  have := Nk.add h h'
  rwa [addQ_rat] at this
theorem Rk.mul {k l : Nat} {r s : Rat} (h : Rk k r) (h' : Rk l s) : Rk (k + l) (r * s) := by
  have := Nk.mul h h'
  rwa [mulQ_rat] at this
theorem rk_int {k : Nat} {c : Int} (h : Sz k c) (hk : 1 ≤ k) : Rk k (c : Rat) := ⟨nm_tQ _, h, (Sz.lit (i := 1) (a := 1) (by decide)).mono hk⟩
theorem rD_int (c : Int) : (PyData.tuple [.int c, .int 1]) = rD (c : Rat) := rfl
theorem rD_0 : (PyData.tuple [.int 0, .int 1]) = rD 0 := rfl
theorem rk0 : Rk 1 0 := nk01
theorem plus_r {r s : Rat} {k l : Nat} (h : Rk k r) (h' : Rk l s) (e : k + l ≤ 8000) : m_plus [rD r, rD s] = .ok (.sh (rD (r + s))) := by
  have := plus_ok h h' e
  rwa [addQ_rat] at this
theorem times_r {r s : Rat} {k l : Nat} (h : Rk k r) (h' : Rk l s) (e : k + l ≤ 8000) : m_times [rD r, rD s] = .ok (.sh (rD (r * s))) := by
  have := times_ok h h' e
  rwa [mulQ_rat] at this
theorem rk_div {n d : Int} {k : Nat} (hd : d ≠ 0) (h1 : Sz k n) (h2 : Sz k d) : Rk k ((n : Rat) / (d : Rat)) := by
  unfold Rk; rw [← mkQ_rat hd]; exact mkQ_nk hd h1 h2
@[simp] theorem okD_r (n : Nat) (r : Rat) : okD (n + 1) (rD r) = true := okD_q n _
@[simp] theorem ix_r0 (r : Rat) : ixD (rD r) (.int 0) = some (.int r.num) := ix_q0 _
@[simp] theorem ix_r1 (r : Rat) : ixD (rD r) (.int 1) = some (.int (r.den : Int)) := ix_q1 _
theorem value_loop {a0 : SD} {x : Rat} {kx c : Nat} (hx : Rk kx x) (hc : 1 ≤ c) : ∀ (r : List Int) (s : Rat) (k : Nat) (j : SD), (∀ z ∈ r, Sz c z) → Rk k s → k + r.length * (kx + c + 1) + kx + c ≤ 8000 →
    ∃ j', forO (gTo (gSet 3) b_value_at_1) (r.map .int) [a0, .sh (rD x), .sh (rD s), j] = .nx [a0, .sh (rD x), .sh (rD (r.foldl (fun (v : Rat) (c : Int) => v * x + (c : Rat)) s)), j'] ∧ Rk (k + r.length * (kx + c + 1)) (r.foldl (fun (v : Rat) (c : Int) => v * x + (c : Rat)) s)
  | [], s, k, j, _, hs, _ => ⟨j, rfl, by simpa using hs⟩
  | z :: r, s, k, j, hr, hs, h => by
    rw [List.length_cons, Nat.succ_mul] at h
    have hz := rk_int (hr z (by simp)) hc
    have e1 := times_r hs hx (by omega)
    have e2 := plus_r (hs.mul hx) hz (by omega)
    have e : gTo (gSet 3) b_value_at_1 (.int z) [a0, .sh (rD x), .sh (rD s), j] = .nx [a0, .sh (rD x), .sh (rD (s * x + (z : Rat))), .sh (.int z)] := by
      simp [b_value_at_1, e1, rD_int, e2]
    obtain ⟨j', i1, i2⟩ := value_loop (a0 := a0) hx hc r (s * x + (z : Rat)) (k + (kx + c + 1)) (.int z |> .sh) (fun y hy => hr y (by simp [hy])) (((hs.mul hx).add hz).mono (by omega)) (by omega)
    refine ⟨j', ?_, ?_⟩
    · rw [List.map_cons]
      unfold forO
      rw [e]
      exact i1
    · rw [List.length_cons, Nat.succ_mul]
      exact i2.mono (by omega)
theorem evP_rev (a : List Int) (x : Rat) : a.reverse.foldl (fun (v : Rat) (c : Int) => v * x + (c : Rat)) 0 = evP a x := by rw [List.foldl_reverse]; rfl
theorem value_at_ok {a : List Int} {x : Rat} {kx c : Nat} (ha : SzP c a) (hx : Rk kx x) (hc : 1 ≤ c) (h : 1 + a.length * (kx + c + 1) + kx + c ≤ 8000) :
    m_value_at [pD a, rD x] = .ok (.sh (rD (evP a x))) ∧ Rk (1 + a.length * (kx + c + 1)) (evP a x) := by
  obtain ⟨j', e, i2⟩ := value_loop (a0 := .sh (pD a)) hx hc a.reverse 0 1 .no (fun z hz => ha z (by simpa using hz)) rk0 (by simpa using h)
  rw [evP_rev] at e i2
  refine ⟨?_, by simpa using i2⟩
  rw [List.map_reverse] at e
  simp [m_value_at, c_value_at, rD_0, e]
/-! ### values of sums and products -/
def evS : Nat → (Nat → Int) → Rat → Rat
  | 0, _, _ => 0
  | n + 1, f, x => evS n f x + (f n : Rat) * x ^ n
theorem evS_add (f g : Nat → Int) (x : Rat) : ∀ n, evS n (fun k => f k + g k) x = evS n f x + evS n g x
  | 0 => by simp [evS, Rat.add_zero]
  | n + 1 => by unfold evS; rw [evS_add f g x n, Rat.intCast_add]; grind
theorem evS_mul (c : Int) (f : Nat → Int) (x : Rat) : ∀ n, evS n (fun k => c * f k) x = (c : Rat) * evS n f x
  | 0 => by simp [evS]
  | n + 1 => by unfold evS; rw [evS_mul c f x n, Rat.intCast_mul]; grind
theorem evS_congr {f g : Nat → Int} {x : Rat} : ∀ {n : Nat}, (∀ k, k < n → f k = g k) → evS n f x = evS n g x
  | 0, _ => rfl
  | n + 1, h => by unfold evS; rw [evS_congr (n := n) fun k hk => h k (by omega), h n (by omega)]
theorem evS_succ (f : Nat → Int) (x : Rat) : ∀ n, evS (n + 1) f x = (f 0 : Rat) + x * evS n (fun k => f (k + 1)) x
  | 0 => by simp [evS, Rat.add_zero, Rat.zero_add]
  | n + 1 => by rw [evS, evS_succ f x n, evS, Rat.pow_succ]; grind
theorem evS_ext {f : Nat → Int} {x : Rat} {n m : Nat} (h : n ≤ m) (hz : ∀ k, n ≤ k → f k = 0) : evS m f x = evS n f x := by
  induction m with
  | zero => rw [show n = 0 by omega]
  | succ m ih =>
    by_cases e : n = m + 1
    · rw [e]
    · rw [evS, ih (by omega), hz m (by omega)]; simp [Rat.add_zero]
theorem evP_S (a : List Int) (x : Rat) : ∀ n, a.length ≤ n → evP a x = evS n (cf a) x := by
  induction a with
  | nil =>
    intro n _
    rw [evS_ext (n := 0) (Nat.zero_le n) fun k _ => cf_nil k]; rfl
  | cons c a ih =>
    intro n hn
    cases n with
    | zero => simp at hn
    | succ n =>
      rw [evS_succ, cf_zero]
      have := ih n (by simpa using hn)
      rw [show (fun k => cf (c :: a) (k + 1)) = cf a from funext fun k => cf_succ c a k, ← this]
      show evP a x * x + (c : Rat) = _
      grind
theorem evP_ext {a b : List Int} (h : ∀ k, cf a k = cf b k) (x : Rat) : evP a x = evP b x := by
  rw [evP_S a x (max a.length b.length) (by omega), evP_S b x (max a.length b.length) (by omega)]
  exact evS_congr fun k _ => h k
theorem evP_add (a b : List Int) (x : Rat) : evP (addP a b) x = evP a x + evP b x := by
  have h1 := add_len a b
  rw [evP_S _ x (max a.length b.length) h1, evP_S a x (max a.length b.length) (by omega), evP_S b x (max a.length b.length) (by omega), ← evS_add]
  exact evS_congr fun k _ => cf_add a b k
theorem evS_cv (b : List Int) (x : Rat) : ∀ (a : List Int) (n : Nat), a.length + b.length ≤ n → evS n (cv a b) x = evP a x * evP b x
  | [], n, _ => by
    rw [evS_ext (n := 0) (Nat.zero_le n) fun k _ => cv_nil b k]
    show (0 : Rat) = 0 * _
    grind
  | c :: a, n, h => by
    rw [List.length_cons] at h
    obtain ⟨m, rfl⟩ : ∃ m, n = m + 1 := ⟨n - 1, by omega⟩
    have e1 : evS (m + 1) (cv (c :: a) b) x = evS (m + 1) (fun k => c * cf b k + if k = 0 then 0 else cv a b (k - 1)) x := evS_congr fun k _ => cv_cons c a b k
    rw [e1, evS_add (fun k => c * cf b k) (fun k => if k = 0 then 0 else cv a b (k - 1)), evS_mul, ← evP_S b x (m + 1) (by omega), evS_succ]
    have ih := evS_cv b x a m (by omega)
    rw [show (fun k => if k + 1 = 0 then (0 : Int) else cv a b (k + 1 - 1)) = cv a b from funext fun k => by simp, ih]
    show _ = (evP a x * x + (c : Rat)) * evP b x
    simp
    grind
theorem evP_mul (a b : List Int) (x : Rat) : evP (mulP a b) x = evP a x * evP b x := by
  rw [evP_S _ x (a.length + b.length) (mul_len a b), ← evS_cv b x a (a.length + b.length) (Nat.le_refl _)]
  exact evS_congr fun k _ => cf_mul a b k
theorem rD_div {n d : Int} (hd : d ≠ 0) : qD (mkQ n d) = rD ((n : Rat) / (d : Rat)) := by rw [mkQ_rat hd]; rfl
end W

set_option Elab.async false
set_option linter.all false
set_option maxRecDepth 100000
set_option autoImplicit false
namespace W
open PySem PySem.Spec PyProof.Rows L2 VL
theorem ixN_nat {n i : Nat} (h : i < n) : ixN n (i : Int) = some i := by unfold ixN; rw [if_pos (by omega), if_pos (by omega)]; simp
theorem p_ixc {l : List Int} {n : Nat} (h : n < l.length) : ixD (pD l) (.int (n : Int)) = some (.int (cf l n)) := by rw [p_ixn, cf_get h]; rfl
end W

set_option Elab.async false
set_option linter.all false
set_option maxRecDepth 100000
set_option autoImplicit false
namespace VL
open PySem PySem.Spec PyProof.Rows L2

def strsOf : List D → Option (List Str)
  | [] => some []
  | .str a :: l => (strsOf l).map (a :: ·)
  | _ => none
/-- a.split(b) -/
def splitD (a : Str) : D → Option (List D)
  | .str b => if (b.length == 0) = false ∧ a.length + 2 ≤ sizeLine then some ((Txt.split a b).map .str) else none
  | _ => none
/-- a.join(l) -/
def joinD (a : Str) : D → Option D
  | .list l => match strsOf l with
    | some ys => if (ys.map (·.length)).sum + ys.length * a.length ≤ 16777216 then some (.str (Txt.join a ys)) else none
    | none => none
  | _ => none
def eStr {γ : Type} (F : Str → D → Option γ) (f g : Ev → R D) : Ev → R γ := fun ρ => (f ρ).bind fun x => match x with
  | .str a => (g ρ).bind fun y => ofO (F a y)
  | _ => .bad
theorem strsOf_rp {K : Fg} {Hs : Hp} {l : List D} {ys : List Str} (h : strsOf l = some ys) {xs : List V} (r : RpL K Hs l xs) : xs = ys.map V.str := by
  induction l generalizing ys xs with
  | nil => cases r; cases h; rfl
  | cons d l ih =>
    cases d <;> first | cases h | skip
    rename_i a
    unfold strsOf at h
    cases z : strsOf l with
    | none => rw [z] at h; cases h
    | some zs =>
      rw [z] at h; cases h
      cases r with
      | cons r1 r2 => cases r1; rw [ih z r2]; rfl
theorem rp_strs {K : Fg} {Hs : Hp} (ys : List Str) : RpL K Hs (ys.map fun a => (PyData.str a : D)) (ys.map V.str) := by
  induction ys with
  | nil => exact .nil
  | cons a l ih => exact .cons (.str a) ih

section
variable {X : Cx} {W : WX} {o e : Expr} {apos pos : Pos} {f g : Ev → R D}
theorem v_splitO (ho : VP X W o f) (he : VP X W e g) (hs : starEach [e] X.env = [(false, eval e X.env)] := by rfl) (hbase : attributeBase o "split" X.env (eval o X.env) = eval o X.env := by rfl) (hline : (apos.endLine == pos.line) = true := by rfl) :
    VO X W (.Call (.Attribute o "split" apos) [e] [] pos) (eStr splitD f g) := PE.imp (pe_split ho he hs hbase hline) fun σ H Q ⟨S, G, Hs, ρ, r, p⟩ => by
  refine ⟨S, G, Hs, ρ, r, (Post.bind p).imp fun x Hs1 H1 e q u hu => ?_⟩
  cases x with
  | str a =>
    refine ⟨⟨a, hu.str⟩, S, G, Hs1, ρ, r.step e, (Post.bind q).imp fun y Hs2 H2 e' q' v hv => ?_⟩
    cases y with
    | str b =>
      change Post _ _ _ _ _ _ (ofO (if (b.length == 0) = false ∧ a.length + 2 ≤ sizeLine then some ((Txt.split a b).map fun a => (PyData.str a : D)) else none)) _ at q'
      split at q'
      · rename_i hc
        refine ⟨a, b, hu.str, by rw [hv.str], hc.1, hc.2, fun p hp => ?_⟩
        obtain ⟨x1, x2, x3, x4⟩ := new_own e'.sub hp (rp_strs (Txt.split a b))
        exact q' _ _ x1 p _ ((e.trans e').same.free hp) x2 x3 x4
      · exact q'.elim
    | _ => exact q'.elim
  | _ => exact q.elim
theorem v_join (ho : VP X W o f) (he : VP X W e g) (hs : starEach [e] X.env = [(false, eval e X.env)] := by rfl) (hbase : attributeBase o "join" X.env (eval o X.env) = eval o X.env := by rfl) (hline : (apos.endLine == pos.line) = true := by rfl) :
    VE X W (.Call (.Attribute o "join" apos) [e] [] pos) (eStr joinD f g) := PE.imp (pe_join ho he hs hbase hline) fun σ H Q ⟨S, G, Hs, ρ, r, p⟩ => by
  refine ⟨S, G, Hs, ρ, r, (Post.bind p).imp fun x Hs1 H1 e q u hu => ?_⟩
  cases x with
  | str a =>
    refine ⟨⟨a, hu.str⟩, S, G, Hs1, ρ, r.step e, (Post.bind q).imp fun y Hs2 H2 e' q' v hv => ?_⟩
    cases y with
    | list l =>
      cases z : strsOf l with
      | none => unfold joinD at q'; simp only [z] at q'; exact q'.elim
      | some ys =>
        unfold joinD at q'; simp only [z] at q'
        split at q'
        · rename_i hc
          obtain ⟨b, xs, rfl, h1, h2⟩ := hv.list e'.sub
          have h3 := strsOf_rp z h2
          subst h3
          exact ⟨a, b, ys, hu.str, rfl, .inl h1, hc, q'.now e'.sub _ (.str _)⟩
        · exact q'.elim
    | _ => exact q'.elim
  | _ => exact q.elim
end
@[simp] theorem r_eStrE {γ : Type} (F : Str → D → Option γ) (f g : Ev → R D) (ρ : Ev) {a : Str} {y : D} (h1 : f ρ = .ok (.str a)) (h2 : g ρ = .ok y) : eStr F f g ρ = ofO (F a y) := by
  unfold eStr; rw [h1]; show (g ρ).bind _ = _; rw [h2]; rfl
end VL

set_option Elab.async false
set_option linter.all false
set_option maxRecDepth 100000
set_option autoImplicit false
namespace VL
open PySem PySem.Spec PyProof.Rows L2

/-! ### comprehensions of two clauses -/
def compF (f : D → R (List D)) : List D → R (List D)
  | [] => .ok []
  | d :: ds => (f d).bind fun a => (compF f ds).bind fun r => .ok (a ++ r)
def compI (vs : List Nat) (g : D → Ev → Option Ev) (ft : Ev → R Bool) (vs1 : List Nat) (fi1 : Ev → R (List D)) (g1 : D → Ev → Option Ev) (ft1 : Ev → R Bool) (fe : Ev → R D) (ρ : Ev) : D → R (List D) := fun d => match g d (wipeE ρ vs) with
  | some ρ' => (noex (ft ρ')).bind fun b => if b then (noex (fi1 ρ')).bind fun l1 => compR (compS vs1 g1 ft1 fe ρ') l1 else .ok []
  | none => .bad
def eComp2 (vs : List Nat) (fi : Ev → R (List D)) (g : D → Ev → Option Ev) (ft : Ev → R Bool) (vs1 : List Nat) (fi1 : Ev → R (List D)) (g1 : D → Ev → Option Ev) (ft1 : Ev → R Bool) (fe : Ev → R D) : Ev → R (List D) := fun ρ =>
  (fi ρ).bind fun l => (noex (compF (compI vs g ft vs1 fi1 g1 ft1 fe ρ) l)).bind fun r => if r.length ≤ sizeLine then .ok r else .bad
section
variable {X : Cx} {W : WX} {elt tg iter tg1 iter1 : Expr} {ifs ifs1 : List Expr} {scope : Scope} {own : List (Str × Nat)} {pos : Pos} {ts ts1 vs1 : List Nat} {fi fi1 : Ev → R (List D)} {g g1 : D → Ev → Option Ev} {ft ft1 : Ev → R Bool} {fe : Ev → R D}
/-- what is not wanted, promises nothing -/
theorem vss_bad {st : List Stmt} : VSs X W st (fun _ => .bad) := ⟨fun pins s σ H D I ⟨_, _, _, _, _, h⟩ => h.elim⟩
end
@[simp] theorem r_eComp2 (vs : List Nat) (fi : Ev → R (List D)) (g : D → Ev → Option Ev) (ft : Ev → R Bool) (vs1 : List Nat) (fi1 : Ev → R (List D)) (g1 : D → Ev → Option Ev) (ft1 : Ev → R Bool) (fe : Ev → R D) (ρ : Ev) : eComp2 vs fi g ft vs1 fi1 g1 ft1 fe ρ = (fi ρ).bind fun l => (noex (compF (compI vs g ft vs1 fi1 g1 ft1 fe ρ) l)).bind fun r => if r.length ≤ sizeLine then .ok r else .bad := id rfl
end VL

set_option Elab.async false
set_option linter.all false
set_option maxRecDepth 100000
set_option autoImplicit false
namespace VL
open PySem PySem.Spec PyProof.Rows L2

/-! ### defs whose first two parameters are lists that are lent -/
inductive RC where
  | ok (r : SD) (l l2 : List D)
  | bad
def startC (n : Nat) (l l2 : List D) (ds : List D) : Ev := .bo l :: .bo l2 :: (ds.map .sh ++ List.replicate (n - 2 - ds.length) .no)
def finC : Out → RC
  | .rtB r ρ => match (ρ[0]? : Option SD), (ρ[1]? : Option SD) with
    | some (.bo l), some (.bo l2) => .ok r l l2
    | _, _ => .bad
  | .nx ρ => match (ρ[0]? : Option SD), (ρ[1]? : Option SD) with
    | some (.bo l), some (.bo l2) => .ok (.sh .none) l l2
    | _, _ => .bad
  | _ => .bad
def runC (np n : Nat) (F : Ev → Out) : List D → List D → List D → RC := fun l l2 ds => if ds.length + 2 = np then finC (F (startC n l l2 ds)) else .bad
def spC (K : Fg) (n : Nat) (m : List D → List D → List D → RC) : Sp := fun vs H Q _ => vs.length = n ∧ ∃ Hs l us p l2 us2 q ds vs', vs = .ref p :: .ref q :: vs' ∧ p ≠ q ∧ SubT K Hs H ∧ Hs p = none ∧ H p = some (.lst us) ∧ RpL K Hs l us ∧ Hs q = none ∧ H q = some (.lst us2) ∧ RpL K Hs l2 us2 ∧ RpL K Hs ds vs' ∧ (match m l l2 ds with
  | .ok r l' l2' => ∀ Hs' H' v us' us2', Same Hs Hs' → Same Hs' H' → (∀ a o, a ≠ p → a ≠ q → H a = some o → H' a = some o) → (∀ a o, Hs' a = some o → Hs a = none → H a = none) → Hs' p = none → H' p = some (.lst us') → RpL K Hs' l' us' → Hs' q = none → H' q = some (.lst us2') → RpL K Hs' l2' us2' → RpO K H Hs' H' r v → Q v H'
  | .bad => False)
def cutC (H : Hp) (p q : Addr) : Hp := fun a => if a = p ∨ a = q then none else H a
def lentC (p q : Addr) : Nat → Option Addr
  | 0 => some p
  | 1 => some q
  | _ => none
theorem startC_rel {K : Fg} {N : List Str} {Hs H : Hp} {l l2 : List D} {us us2 : List V} {p q : Addr} {ds : List D} {vs : List V} (hl : vs.length + 2 ≤ N.length) (hs : SubT K Hs H) (hpq : p ≠ q) (h0 : Hs p = none) (h1 : H p = some (.lst us)) (hl2 : RpL K Hs l us)
    (g0 : Hs q = none) (g1 : H q = some (.lst us2)) (gl2 : RpL K Hs l2 us2) (r : RpL K Hs ds vs) :
    RelE K Hs ⟨cutC H p q, lentC p q⟩ Hs H (L2.start N (.ref p :: .ref q :: vs)) (startC N.length l l2 ds) := by
  have hlen := r.length
  have cutI : ∀ {a : Addr} {u : HO}, cutC H p q a = some u → H a = some u := fun {a u} e => by
    unfold cutC at e
    split at e
    · cases e
    · exact e
  have sl : ∀ (i : Nat) (s : SD), (startC N.length l l2 ds)[i + 2]? = some s → (i < ds.length ∧ ∃ d, s = .sh d ∧ ds[i]? = some d) ∨ s = .no := fun i s hi => by
    have hi : (ds.map SD.sh ++ List.replicate (N.length - 2 - ds.length) SD.no)[i]? = some s := hi
    by_cases h : i < ds.length
    · rw [List.getElem?_append_left (by simpa using h), List.getElem?_map] at hi
      obtain ⟨d, e1, rfl⟩ := Option.map_eq_some_iff.mp hi
      exact .inl ⟨h, d, rfl, e1⟩
    · rw [List.getElem?_append_right (by simpa using h), List.getElem?_replicate] at hi
      split at hi
      · cases hi; exact .inr rfl
      · cases hi
  have noOw : ∀ (i : Nat) (m : List D), (startC N.length l l2 ds)[i]? ≠ some (.ow m) := fun i m e => by
    match i with
    | 0 => cases e
    | 1 => cases e
    | i + 2 => rcases sl i _ e with ⟨_, d, e, _⟩ | e <;> cases e
  have vsat : ∀ i v, (V.ref p :: V.ref q :: vs)[i]? = some v → (L2.start N (.ref p :: .ref q :: vs))[i]? = some (some v) := fun i v h => by
    unfold L2.start
    have : i < (V.ref p :: V.ref q :: vs).length := (List.getElem?_eq_some_iff.mp h).1
    rw [List.getElem?_append_left (by simpa using this), List.getElem?_map, h]; rfl
  refine ⟨hs.sub, fun a u e => cutI e, ⟨.refl _, hs.tab⟩, fun a o e n => (by rw [e] at n; cases n), ?_, fun i s hi => ?_, fun j a ha => ?_, fun i j p' ha hb' => ?_, fun i j l m q a _ _ _ => (noOw i l a).elim⟩
  · unfold startC
    simp [L2.start, hlen]; omega
  · match i, hi with
    | 0, hi => cases hi; exact ⟨p, us, vsat 0 _ rfl, rfl, h1, hl2⟩
    | 1, hi => cases hi; exact ⟨q, us2, vsat 1 _ rfl, rfl, g1, gl2⟩
    | i + 2, hi =>
      rcases sl i s hi with ⟨hlt, d, rfl, hd⟩ | rfl
      · obtain ⟨v, e1, e2⟩ := r.get hd
        exact ⟨v, vsat (i + 2) _ e1, e2⟩
      · trivial
  · match j, ha with
    | 0, ha => cases ha; exact ⟨if_pos (.inl rfl), h0, by rw [h1]; simp⟩
    | 1, ha => cases ha; exact ⟨if_pos (.inr rfl), g0, by rw [g1]; simp⟩
    | j + 2, ha => cases ha
  · match i, j, ha, hb' with
    | 0, 0, _, _ => rfl
    | 1, 1, _, _ => rfl
    | 0, 1, ha, hb' => cases ha; cases hb'; exact (hpq rfl).elim
    | 1, 0, ha, hb' => cases ha; cases hb'; exact (hpq rfl).elim
    | i + 2, _, ha, _ => cases ha
    | 0, j + 2, _, hb' => cases hb'
    | 1, j + 2, _, hb' => cases hb'
theorem finC_ok {o : Out} (h : finC o ≠ .bad) : ∃ r ρ l l2, (o = .rtB r ρ ∨ (o = .nx ρ ∧ r = .sh .none)) ∧ ρ[0]? = some (.bo l) ∧ ρ[1]? = some (.bo l2) ∧ finC o = .ok r l l2 := by
  cases o with
  | nx ρ =>
    unfold finC at h ⊢
    simp only at h ⊢
    split at h
    · rename_i l l2 e1 e2
      exact ⟨.sh .none, ρ, l, l2, .inr ⟨rfl, rfl⟩, e1, e2, rfl⟩
    · exact (h rfl).elim
  | rtB r ρ =>
    unfold finC at h ⊢
    simp only at h ⊢
    split at h
    · rename_i l l2 e1 e2
      exact ⟨r, ρ, l, l2, .inl rfl, e1, e2, rfl⟩
    · exact (h rfl).elim
  | rt r => exact (h rfl).elim
  | ex x ρ => exact (h rfl).elim
  | bk ρ => exact (h rfl).elim
  | ct ρ => exact (h rfl).elim
  | bad => exact (h rfl).elim
section
variable {P : Program} {w : World} {K : Fg} {mg : Str → Option Value} {base : Heap}
structure COk (P : Program) (w : World) (K : Fg) (mg : Str → Option Value) (base : Heap) (k : Nat) (f : Addr) (fd : FuncData) (ps : List Str) (m : List D → List D → List D → RC) : Prop where
  fn : FnG P w K mg base k f fd ps (spC K ps.length m)
  ar : ∀ l l2 ds, m l l2 ds ≠ .bad → ds.length + 2 = ps.length
theorem defC_ok {x qual : Str} {st : Stmt} {f : Addr} {fd : FuncData} {N ps : List Str} {k : Nat} {F : Ev → Out} (Fn : Fun K x qual st f fd) (S : FnScope N ps (defScope st))
    (body : ∀ (cdv : Value) (A : Around) (outer : List Env) (s : Shared) (H : Hp) (E : XK), Inn (cxOf (L2N.CX P w) P w K mg base N qual (defScope st) f cdv A outer s H E) (fun cls d _ H => E cls d H) k →
      VSs (cxOf (L2N.CX P w) P w K mg base N qual (defScope st) f cdv A outer s H E) (fun cls d _ H => E cls d H) (defBody st) F) :
    COk P w K mg base (k + 1) f fd ps (runC ps.length N.length F) := by
  refine ⟨?_, fun l l2 ds h => ?_⟩
  · obtain ⟨oc, od, kV, doc, pm, an, cdv, ct, osl, rfl, lk, hcd⟩ := Fn.ex
    refine fn_ofG lk hcd S (fun vs H Q E h => h.1) fun A outer s H vs Q E hr hgd h => ⟨_, body cdv A outer s H E ⟨hr, hgd, L2N.takes_of rfl rfl rfl rfl, passes_of rfl⟩, ?_⟩
    obtain ⟨hl, Hs, l, us, p, l2, us2, q, ds, vs', rfl, hpq, hs, h0, h1, h2, g0, g1, g2, hds, h⟩ := h
    have rel := startC_rel (N := N) (by have := VL.FnScope.le S; rw [← hl] at this; simpa using this) hs hpq h0 h1 h2 g0 g1 g2 hds
    refine ⟨Hs, ⟨cutC H p q, lentC p q⟩, Hs, _, rel, ?_⟩
    unfold runC at h
    rw [if_pos (by rw [hds.length, ← hl]; simp)] at h
    show OutOk K mg (fun cls d _ H => E cls d H) Hs _ Hs _ (F (startC N.length l l2 ds))
    have nb : finC (F (startC N.length l l2 ds)) ≠ .bad := fun z => by rw [z] at h; exact h
    obtain ⟨r, ρ, l', l2', hF, e1, e2, e3⟩ := finC_ok nb
    rw [e3] at h
    simp only at h
    have fin : ∀ Hs' H' σ' v, Same Hs Hs' → RelE K Hs ⟨cutC H p q, lentC p q⟩ Hs' H' σ' ρ → RpO K (cutC H p q) Hs' H' r v → (∀ l, r = .ow l → ∀ i a, lentC p q i = some a → v ≠ .ref a) → Q v H' := by
      intro Hs' H' σ' v g rl hv hne
      obtain ⟨p', us', f1, f2, f3, f4⟩ := rl.lent e1
      cases f2
      obtain ⟨q', us2', k1, k2, k3, k4⟩ := rl.lent e2
      cases k2
      refine h Hs' H' v us' us2' g rl.sub (fun a o n1 n2 e => rl.old a o ((if_neg (by rintro (z | z); exact n1 z; exact n2 z)).trans e)) (fun a o e n => ?_) (rl.bor 0 p rfl).2.1 f3 f4 (rl.bor 1 q rfl).2.1 k3 k4 ?_
      · have t := rl.new a o e n
        by_cases z : a = p ∨ a = q
        · rcases z with rfl | rfl
          · rw [(rl.bor 0 _ rfl).2.1] at e; cases e
          · rw [(rl.bor 1 _ rfl).2.1] at e; cases e
        · exact (if_neg z).symm.trans t
      · cases r with
        | no => exact hv
        | sh d => exact hv
        | bo l => exact hv
        | ow l =>
          obtain ⟨q', ws, rfl, f1, f2, f3, f4⟩ := hv
          refine ⟨q', ws, rfl, ?_, f2, f3, f4⟩
          have n1 : q' ≠ p := fun z => hne l rfl 0 p rfl (by rw [z])
          have n2 : q' ≠ q := fun z => hne l rfl 1 q rfl (by rw [z])
          exact (if_neg (by rintro (z | z); exact n1 z; exact n2 z)).symm.trans f1
    rcases hF with hF | ⟨hF, rfl⟩
    · rw [hF]
      exact fun Hs' H' v σ' g r hv hne => fin Hs' H' σ' v g r hv hne
    · rw [hF]
      exact fun Hs' H' σ' g r => fin Hs' H' σ' .non g r .non (fun l z => by cases z)
  · unfold runC at h
    split at h
    · assumption
    · exact (h rfl).elim
structure ClC (P : Program) (w : World) (K : Fg) (mg : Str → Option Value) (base : Heap) (k : Nat) (x : Str) (ps : List Str) (m : List D → List D → List D → RC) : Prop where
  ex : ∃ f fd, COk P w K mg base k f fd ps m ∧ mg x = some (.ref f) ∧ PySem.W.keepIn K (.ref f) = true ∧ Binds K fd ps []
theorem clC_ok {x : Str} {st : Stmt} {N ps : List Str} {k : Nat} {F : Ev → Out} (Fn : Df K mg x st ps) (S : FnScope N ps (defScope st))
    (body : ∀ (f : Addr) (cdv : Value) (A : Around) (outer : List Env) (s : Shared) (H : Hp) (E : XK), Inn (cxOf (L2N.CX P w) P w K mg base N x (defScope st) f cdv A outer s H E) (fun cls d _ H => E cls d H) k →
      VSs (cxOf (L2N.CX P w) P w K mg base N x (defScope st) f cdv A outer s H E) (fun cls d _ H => E cls d H) (defBody st) F) :
    ClC P w K mg base (k + 1) x ps (runC ps.length N.length F) := by
  obtain ⟨f, fd, h1, h2, h3⟩ := Fn.ex
  exact ⟨f, fd, defC_ok h1 S fun cdv A outer s H E I => body f cdv A outer s H E I, h2, h1.kp, h3⟩
end
/-! calls -/
def xCallC (m : List D → List D → List D → RC) (i j : Nat) (f : Ev → RX (List D)) : Ev → RX D := fun ρ => match lstAt ρ i, lstAt ρ j with
  | some _, some _ => (f ρ).bind fun ds ρ => match lstAt ρ i, lstAt ρ j with
    | some (l, k), some (l2, k2) => match m l l2 ds with
      | .ok r l' l2' => ofX (toD r) ((ρ.set i (mkL k l')).set j (mkL k2 l2'))
      | .bad => .bad
    | _, _ => .bad
  | _, _ => .bad
theorem RelE.apart {K : Fg} {S Hs H : Hp} {G : Gx} {σ : Sg} {ρ : Ev} {i j : Nat} {l m : List D} {k k' : Bool} {a : Addr} (r : RelE K S G Hs H σ ρ) (h : lstAt ρ i = some (l, k)) (h' : lstAt ρ j = some (m, k')) (ha : σ[i]? = some (some (.ref a))) (hb : σ[j]? = some (some (.ref a))) : i = j := by
  rcases lstAt_cases h with ⟨_, h⟩ | ⟨_, h⟩ <;> rcases lstAt_cases h' with ⟨_, h'⟩ | ⟨_, h'⟩
  · exact r.dis i j l m a h h' ha hb
  · obtain ⟨p, _, e1, _, _, _, _, e6⟩ := r.own' h
    obtain ⟨q, _, f1, f2, _, _⟩ := r.lent h'
    rw [ha] at e1; cases e1
    rw [hb] at f1; cases f1
    exact (e6 j f2).elim
  · obtain ⟨p, _, e1, _, _, _, _, e6⟩ := r.own' h'
    obtain ⟨q, _, f1, f2, _, _⟩ := r.lent h
    rw [hb] at e1; cases e1
    rw [ha] at f1; cases f1
    exact (e6 i f2).elim
  · obtain ⟨p, _, e1, e2, _, _⟩ := r.lent h
    obtain ⟨q, _, f1, f2, _, _⟩ := r.lent h'
    rw [ha] at e1; cases e1
    rw [hb] at f1; cases f1
    exact r.one i j a e2 f2
theorem lstAt_lt {ρ : Ev} {i : Nat} {x : List D × Bool} (h : lstAt ρ i = some x) : i < ρ.length := by
  obtain ⟨l, k⟩ := x
  rcases lstAt_cases h with ⟨_, h⟩ | ⟨_, h⟩ <;> exact (List.getElem?_eq_some_iff.mp h).1
theorem lstAt_self {ρ : Ev} {i : Nat} {k : Bool} {l : List D} (h : i < ρ.length) : lstAt (ρ.set i (mkL k l)) i = some (l, k) := by
  unfold lstAt
  rw [List.getElem?_set_self h]
  cases k <;> rfl
theorem lstAt_other {ρ : Ev} {i j : Nat} {s : SD} (h : i ≠ j) : lstAt (ρ.set i s) j = lstAt ρ j := by
  unfold lstAt
  rw [List.getElem?_set_ne h]
theorem RelE.calledC {K : Fg} {S Hs H Hs' H' : Hp} {G : Gx} {σ : Sg} {ρ : Ev} {i j : Nat} {l l' l2 l2' : List D} {k k2 : Bool} {a b : Addr} {us' us2' : List V} (r : RelE K S G Hs H σ ρ) (hij : i ≠ j) (z : lstAt ρ i = some (l, k)) (ha : σ[i]? = some (some (.ref a))) (z2 : lstAt ρ j = some (l2, k2)) (hb : σ[j]? = some (some (.ref b)))
    (c1 : Same Hs Hs') (c2 : Same Hs' H') (c3 : ∀ c o, c ≠ a → c ≠ b → H c = some o → H' c = some o) (c4 : ∀ c o, Hs' c = some o → Hs c = none → H c = none) (c5 : Hs' a = none) (c6 : H' a = some (.lst us')) (c7 : RpL K Hs' l' us') (d5 : Hs' b = none) (d6 : H' b = some (.lst us2')) (d7 : RpL K Hs' l2' us2') :
    RelE K S G Hs' H' σ ((ρ.set i (mkL k l')).set j (mkL k2 l2')) := by
  have hab : a ≠ b := fun e => by subst e; exact hij (r.apart z z2 ha hb)
  have li := lstAt_lt z
  have lj := lstAt_lt z2
  have r1 := r.wrL z ha (l' := []) (ws := []) .nil
  have z3 : lstAt (ρ.set i (mkL k [])) j = some (l2, k2) := by rw [lstAt_other hij]; exact z2
  have r2 := r1.wrL z3 hb (l' := []) (ws := []) .nil
  have e : Ext Hs (upd (upd H a (.lst [])) b (.lst [])) Hs' (upd (upd H' a (.lst [])) b (.lst [])) := by
    refine ⟨fun c u q => ?_, fun c u q => ?_, c1, fun c o q n => ?_⟩
    · rw [upd_ne (ne_of_none q d5), upd_ne (ne_of_none q c5)]; exact c2 c u q
    · by_cases hb : c = b
      · subst hb; rw [upd_same] at q ⊢; exact q
      · rw [upd_ne hb] at q ⊢
        by_cases ha : c = a
        · subst ha; rw [upd_same] at q ⊢; exact q
        · rw [upd_ne ha] at q ⊢; exact c3 c u ha hb q
    · rw [upd_ne (ne_of_none q d5), upd_ne (ne_of_none q c5)]; exact c4 c o q n
  have r3 := r2.step e
  have r4 := r3.wrL (lstAt_self (by simpa using lj)) hb d7
  rw [List.set_set] at r4
  have z5 : lstAt ((ρ.set i (mkL k [])).set j (mkL k2 l2')) i = some ([], k) := by rw [lstAt_other (Ne.symm hij)]; exact lstAt_self li
  have r5 := r4.wrL z5 ha c7
  rw [List.set_comm _ _ (Ne.symm hij), List.set_set] at r5
  have : upd (upd (upd (upd H' a (.lst [])) b (.lst [])) b (.lst us2')) a (.lst us') = H' := by
    funext c
    by_cases ha : c = a
    · subst ha; rw [upd_same, c6]
    · rw [upd_ne ha]
      by_cases hb : c = b
      · subst hb; rw [upd_same, d6]
      · rw [upd_ne hb, upd_ne hb, upd_ne ha]
  rwa [this] at r5
section
variable {X : Cx} {W : WX} {es : List Expr} {pos p : Pos} {fl : Ev → RX (List D)} {x : Str}
/-- the arguments: two lists that are lent, the others behind them -/
def XC (X : Cx) (i j : Nat) (es : List Expr) (f : Ev → RX (List D)) : Prop := ∃ (y z : Expr) (es' : List Expr), es = y :: z :: es' ∧ PA X es (fun σ H Q => ∃ v, σ[i]? = some (some v) ∧ ∃ u, σ[j]? = some (some u) ∧ tXA X.K f σ H (fun vs H' => Q (v :: u :: vs) H'))
theorem xc_here {i j : Nat} {y z : Str} {py pz : Pos} (h : PE X (.Name y py) (tVar i)) (h' : PE X (.Name z pz) (tVar j)) (hr : XA X es fl) (hs : starEach (.Name y py :: .Name z pz :: es) X.env = (false, eval (.Name y py) X.env) :: starEach (.Name z pz :: es) X.env := by rfl) (hs' : starEach (.Name z pz :: es) X.env = (false, eval (.Name z pz) X.env) :: starEach es X.env := by rfl) :
    XC X i j (.Name y py :: .Name z pz :: es) fl := ⟨_, _, _, rfl, PA.imp (pa_cons h (pa_cons h' hr hs') hs) fun σ H Q ⟨v, hv, u, hu, q⟩ => ⟨v, hv, u, hu, q⟩⟩
theorem simX_callC {K : Fg} {m : List D → List D → List D → RC} {n i j : Nat} {E : Sg → XK} (hij : i ≠ j) (vn : ∀ l l2 ds, m l l2 ds ≠ .bad → ds.length + 2 = n) : ∀ σ H Q, tX K (xCallC m i j fl) σ H Q → tCallS (spC K n m) E (fun σ H Q => ∃ v, σ[i]? = some (some v) ∧ ∃ u, σ[j]? = some (some u) ∧ tXA K fl σ H (fun vs H' => Q (v :: u :: vs) H')) σ H Q := fun σ H Q ⟨S, G, Hs, ρ, r, p⟩ => by
  unfold xCallC at p
  cases w1 : lstAt ρ i with
  | none => rw [w1] at p; exact p.elim
  | some lb1 =>
  cases w2 : lstAt ρ j with
  | none => rw [w1, w2] at p; exact p.elim
  | some lb2 =>
  rw [w1, w2] at p
  obtain ⟨l1, k1⟩ := lb1
  obtain ⟨l2, k2⟩ := lb2
  obtain ⟨a, vs1, o1, _, _, _⟩ := r.lst w1
  obtain ⟨b, vs2, o2, _, _, _⟩ := r.lst w2
  refine ⟨_, o1, _, o2, S, G, Hs, ρ, r, (PostX.bind (show PostX K S G σ Hs ((fl ρ).bind _) _ from p)).imp fun ds ρ1 Hs1 H1 g1 r1 q vs hv => ?_⟩
  cases z : lstAt ρ1 i with
  | none => simp only [z] at q; exact q.elim
  | some lb1 =>
  cases z2 : lstAt ρ1 j with
  | none => simp only [z, z2] at q; exact q.elim
  | some lb2 =>
  obtain ⟨l1, k1⟩ := lb1
  obtain ⟨l2, k2⟩ := lb2
  simp only [z, z2] at q
  obtain ⟨a', us, o1', o3, o4, o5⟩ := r1.lst z
  rw [o1] at o1'; cases o1'
  obtain ⟨b', us2, o2', p3, p4, p5⟩ := r1.lst z2
  rw [o2] at o2'; cases o2'
  have hab : a ≠ b := fun e => by subst e; exact hij (r1.apart z z2 o1 o2)
  have nb : m l1 l2 ds ≠ .bad := fun y => by simp only [y] at q; exact q
  refine ⟨by simp only [List.length_cons]; rw [← hv.length]; exact vn l1 l2 ds nb, Hs1, l1, us, a, l2, us2, b, ds, vs, rfl, hab, r1.st0, o3, o4, o5, p3, p4, p5, hv, ?_⟩
  cases y : m l1 l2 ds with
  | bad => exact nb y
  | ok s l' l2' =>
    simp only [y] at q ⊢
    intro Hs' H' v us' us2' c1 c2 c3 c4 c5 c6 c7 d5 d6 d7 c8
    obtain ⟨d, w, q3⟩ := ofX_post q
    cases s with
    | no => cases w
    | bo _ => cases w
    | sh d' =>
      cases w
      exact q3 Hs' H' c1 (r1.calledC hij z o1 z2 o2 c1 c2 c3 c4 c5 c6 c7 d5 d6 d7) v c8
    | ow l2 =>
      cases w
      obtain ⟨q0, ws, rfl, f1, f2, f3, f4⟩ := c8
      have na : a ≠ q0 := fun z => by subst z; rw [o4] at f1; cases f1
      have nbb : b ≠ q0 := fun z => by subst z; rw [p4] at f1; cases f1
      have g : Same Hs' (upd Hs' q0 (.lst ws)) := fun b u e => by rw [upd_ne (ne_of_none e f2)]; exact e
      refine q3 (upd Hs' q0 (.lst ws)) H' (c1.trans g) (r1.calledC hij z o1 z2 o2 (c1.trans g) (fun b u e => ?_) c3 (fun b o e nn => ?_) ?_ c6 (c7.mono g) ?_ d6 (d7.mono g)) _ (.lst (.inl (.inl upd_same)) (f4.mono g))
      · by_cases hb : b = q0
        · subst hb; rw [upd_same] at e; cases e; exact f3
        · rw [upd_ne hb] at e; exact c2 b u e
      · by_cases hb : b = q0
        · subst hb; exact f1
        · rw [upd_ne hb] at e; exact c4 b o e nn
      · rw [upd_ne na]; exact c5
      · rw [upd_ne nbb]; exact d5
theorem x_callC {k j0 i j : Nat} {e : Expr} {ps : List Str} {m : List D → List D → List D → RC} (C : ClC X.prog X.w X.K X.mg X.base k x ps m) (hr : Room j0 X.A) (hgd : X.A.guards = some []) (tk : L2N.Takes X W) (ha : XC X i j (e :: es) fl) (hij : i ≠ j := by decide) (hg : Gl X x := by rfl) (hj : k ≤ j0 := by decide)
    (hdb : (x == ("__debug__" : Str)) = false := by decide) (he : starEach (e :: es) X.env = (false, eval e X.env) :: starEach es X.env := by rfl) (hpl : (backTo pos (starEach es X.env)).any (·.1) = false := by rfl) :
    XE X (.Call (.Name x p) (e :: es) [] pos) (xCallC m i j fl) := by
  obtain ⟨f, fd, h1, h2, h3, h4⟩ := C.ex
  obtain ⟨_, _, _, _, ha⟩ := ha
  exact PE.imp (pe_callG h1.fn (hr.mono hj) hgd hg h2 h3 h4 (L2N.passAt tk) ha hdb he hpl) (simX_callC hij h1.ar)
end
/-! rows -/
@[simp] theorem rx_xCallC (m : List D → List D → List D → RC) (i j : Nat) (f : Ev → RX (List D)) (ρ : Ev) : xCallC m i j f ρ = (match lstAt ρ i, lstAt ρ j with
  | some _, some _ => (f ρ).bind fun ds ρ => match lstAt ρ i, lstAt ρ j with
    | some (l, k), some (l2, k2) => match m l l2 ds with
      | .ok r l' l2' => ofX (toD r) ((ρ.set i (mkL k l')).set j (mkL k2 l2'))
      | .bad => .bad
    | _, _ => .bad
  | _, _ => .bad) := id rfl
@[simp] theorem rx_fin_C (s : SD) (l l2 : List D) (ρ : Ev) : finC (.rtB s (.bo l :: .bo l2 :: ρ)) = .ok s l l2 := id rfl
@[simp] theorem rx_fin_CN (l l2 : List D) (ρ : Ev) : finC (.nx (.bo l :: .bo l2 :: ρ)) = .ok (.sh .none) l l2 := id rfl
@[simp] theorem rx_runC0 (n : Nat) (F : Ev → Out) (l l2 : List D) : runC 2 n F l l2 [] = finC (F (.bo l :: .bo l2 :: List.replicate (n - 2) .no)) := if_pos rfl
@[simp] theorem rx_runC1 (n : Nat) (F : Ev → Out) (l l2 : List D) (a : D) : runC 3 n F l l2 [a] = finC (F (.bo l :: .bo l2 :: .sh a :: List.replicate (n - 2 - 1) .no)) := if_pos rfl
end VL

set_option Elab.async false
set_option linter.all false
set_option maxRecDepth 100000
set_option autoImplicit false
namespace VL
open PySem PySem.Spec PyProof.Rows L2

/-! ### lists that are made for a call alone -/
def eCallCT (m : List D → List D → List D → RC) (f1 f2 fl : Ev → R (List D)) : Ev → R D := fun ρ => (noex (f1 ρ)).bind fun l1 => (noex (f2 ρ)).bind fun l2 => (noex (fl ρ)).bind fun ds => match m l1 l2 ds with
  | .ok r _ _ => ofO (toD r)
  | .bad => .bad
/-- .. the second of two arguments -/
def eCallB1 (m : List D → List D → RB) (f : Ev → R D) (f1 : Ev → R (List D)) : Ev → R D := fun ρ => (noex (f ρ)).bind fun d => (noex (f1 ρ)).bind fun l => match m l [d, .none] with
  | .ok r _ => ofO (toD r)
  | .bad => .bad
theorem ofO_post {α : Type} {K : Fg} {mg : Str → Option Value} {W : WX} {Hs H : Hp} {σ : Sg} {o : Option α} {P : α → Hp → Hp → Prop} (h : Post K mg W Hs H σ (ofO o) P) : ∃ d, o = some d ∧ Post K mg W Hs H σ (.ok d) P := by
  cases o with
  | none => exact h.elim
  | some d => exact ⟨d, rfl, h⟩
section
variable {X : Cx} {W : WX} {e1 e2 e : Expr} {es : List Expr} {pos p : Pos} {f : Ev → R D} {f1 f2 fl : Ev → R (List D)} {x : Str}
/-- what a call gives back -/
theorem call_back {K : Fg} {mg : Str → Option Value} {W : WX} {Hs H Hs' H' : Hp} {σ : Sg} {r : SD} {v : V} {Q : VK} (E : Ext Hs H Hs' H') (hr : RpO K H' Hs' H' r v ∨ RpO K H Hs' H' r v) (h : Post K mg W Hs H σ (ofO (toD r)) (fun d Hs' H' => ∀ v, Rp K Hs' d v → Q v H')) : Q v H' := by
  obtain ⟨d, w, q⟩ := ofO_post h
  cases r with
  | no => cases w
  | bo _ => cases w
  | sh d' =>
    cases w
    rcases hr with hr | hr <;> exact q Hs' H' E v hr
  | ow l2 =>
    cases w
    have : ∃ q0 ws, v = .ref q0 ∧ Hs' q0 = none ∧ H' q0 = some (.lst ws) ∧ RpL K Hs' l2 ws ∧ H q0 = none := by
      rcases hr with hr | hr
      · obtain ⟨q0, ws, rfl, a1, a2, a3, a4⟩ := hr
        rw [a3] at a1; cases a1
      · obtain ⟨q0, ws, rfl, a1, a2, a3, a4⟩ := hr
        exact ⟨q0, ws, rfl, a2, a3, a4, a1⟩
    obtain ⟨q0, ws, rfl, f2, f3, f4, f1⟩ := this
    have g : Same Hs' (upd Hs' q0 (.lst ws)) := fun b u e => by rw [upd_ne (ne_of_none e f2)]; exact e
    exact q _ _ (E.frz f1 f3 f2) _ (.lst (.inl (.inl upd_same)) (f4.mono g))
theorem sim_callCT {K : Fg} {mg : Str → Option Value} {m : List D → List D → List D → RC} {n : Nat} {E : Sg → XK} (vn : ∀ l l2 ds, m l l2 ds ≠ .bad → ds.length + 2 = n) : ∀ σ H Q, tE K mg W (eCallCT m f1 f2 fl) σ H Q →
    tCallS (spC K n m) E (fun σ H Q => tO K mg WF f1 σ H fun v H1 => tO K mg WF f2 σ H1 fun u H2 => tA K mg WF fl σ H2 fun vs H3 => Q (v :: u :: vs) H3) σ H Q := fun σ H Q ⟨S, G, Hs, ρ, r, p⟩ => by
  unfold eCallCT at p
  obtain ⟨l1, h1⟩ := noex_cases p
  rw [h1] at p
  simp only [noex_ok, bind_ok] at p
  obtain ⟨l2, h2⟩ := noex_cases p
  rw [h2] at p
  simp only [noex_ok, bind_ok] at p
  obtain ⟨ds, h3⟩ := noex_cases p
  rw [h3] at p
  simp only [noex_ok, bind_ok] at p
  refine ⟨S, G, Hs, ρ, r, ?_⟩
  rw [h1]
  intro Hs1 H1 x1 a us a0 a1 a2 a3
  refine ⟨S, G, Hs1, ρ, r.step x1, ?_⟩
  rw [h2]
  intro Hs2 H2 x2 b ws b0 b1 b2 b3
  refine ⟨S, G, Hs2, ρ, (r.step x1).step x2, ?_⟩
  rw [h3]
  intro Hs3 H3 x3 vs hv
  have hab : a ≠ b := fun e => by subst e; rw [a2] at b0; cases b0
  have x23 := x2.trans x3
  have k1 := x23.hidden a1 a2
  have k2 := x3.hidden b1 b2
  have x13 := x1.trans x23
  have nb : m l1 l2 ds ≠ .bad := fun y => by simp only [y] at p; exact p
  refine ⟨by simp only [List.length_cons]; rw [← hv.length]; exact vn l1 l2 ds nb, Hs3, l1, us, a, l2, ws, b, ds, vs, rfl, hab, r.st x13, k1, x23.same _ _ a2, a3.mono x23.grow, k2, x3.same _ _ b2, b3.mono x3.grow, hv, ?_⟩
  cases y : m l1 l2 ds with
  | bad => exact nb y
  | ok s l' l2' =>
    simp only [y] at p ⊢
    intro Hs' H' v us' us2' c1 c2 c3 c4 c5 c6 c7 d5 d6 d7 c8
    have Ex : Ext Hs H Hs' H' := by
      refine ⟨c2, fun c u q => ?_, x13.grow.trans c1, fun c o q nn => ?_⟩
      · have ca : c ≠ a := fun e => by subst e; rw [a0] at q; cases q
        have hb0 : H b = none := x1.same.free b0
        have cb : c ≠ b := fun e => by subst e; rw [hb0] at q; cases q
        exact c3 c u ca cb (x13.same c u q)
      · cases z : Hs3 c with
        | none => exact x13.same.free (c4 c o q z)
        | some o' => exact x13.fresh c o' z nn
    refine call_back Ex ?_ p
    cases s with
    | no => exact .inr c8
    | bo _ => exact .inr c8
    | sh d => exact .inr c8
    | ow l2 =>
      obtain ⟨q0, ws0, rfl, f1, f2, f3, f4⟩ := c8
      exact .inr ⟨q0, ws0, rfl, x13.same.free f1, f2, f3, f4⟩
theorem v_callCT {k j : Nat} {ps : List Str} {m : List D → List D → List D → RC} (C : ClC X.prog X.w X.K X.mg X.base k x ps m) (hr : Room j X.A) (hgd : X.A.guards = some []) (tk : L2N.Takes X W) (h1 : VO X WF e1 f1) (h2 : VO X WF e2 f2) (h3 : VA X WF es fl) (hg : Gl X x := by rfl) (hj : k ≤ j := by decide)
    (hdb : (x == ("__debug__" : Str)) = false := by decide) (he : starEach (e1 :: e2 :: es) X.env = (false, eval e1 X.env) :: starEach (e2 :: es) X.env := by rfl) (he2 : starEach (e2 :: es) X.env = (false, eval e2 X.env) :: starEach es X.env := by rfl) (hpl : (backTo pos (starEach (e2 :: es) X.env)).any (·.1) = false := by rfl) :
    VE X W (.Call (.Name x p) (e1 :: e2 :: es) [] pos) (eCallCT m f1 f2 fl) := by
  obtain ⟨f, fd, g1, g2, g3, g4⟩ := C.ex
  exact PE.imp (pe_callG g1.fn (hr.mono hj) hgd hg g2 g3 g4 (L2N.passAt tk) (pa_cons h1 (pa_cons h2 h3 he2) he) hdb he hpl) (sim_callCT g1.ar)
end
/-! ### a choice out of a display by a key that changes a list -/
theorem RelE.drop {K : Fg} {S Hs H : Hp} {G : Gx} {σ : Sg} {ρ : Ev} {D : Addr} {o : HO} (r : RelE K S (G.plus D o) Hs H σ ρ) (hg : G.h D = none) : RelE K S G Hs H σ ρ := by
  have hG : ∀ {p : Addr}, (G.plus D o).h p = none → G.h p = none := fun {p} e => by
    have e' : upd G.h D o p = none := e
    by_cases hp : p = D
    · subst hp; rw [upd_same] at e'; cases e'
    · rw [upd_ne hp] at e'; exact e'
  refine ⟨r.sub, fun b u e => ?_, r.ext, fun p u e n => hG (r.new p u e n), r.len, fun i s hi => ?_, fun j p hp => ?_, r.one, r.dis⟩
  · refine r.old b u ?_
    show upd G.h D o b = some u
    rw [upd_ne (ne_of_none e hg)]; exact e
  · have q := r.slot i s hi
    cases s with
    | no => trivial
    | sh d => exact q
    | ow l =>
      obtain ⟨p, vs, e1, e2, e3⟩ := q
      exact ⟨p, vs, e1, hG e2, e3⟩
    | bo l => exact q
  · obtain ⟨h1, h2⟩ := r.bor j p hp
    exact ⟨hG h1, h2⟩
def xDSel (ks : List Str) (fs : Ev → R (List D)) (fk : Ev → RX D) : Ev → RX D := fun ρ => match fs ρ with
  | .ok ds => (fk ρ).bind fun k ρ => ofX (selD ks ds k) ρ
  | _ => .bad
@[simp] theorem rx_dsel (ks : List Str) (fs : Ev → R (List D)) (fk : Ev → RX D) (ρ : Ev) : xDSel ks fs fk ρ = (match fs ρ with
  | .ok ds => (fk ρ).bind fun k ρ => ofX (selD ks ds k) ρ
  | _ => .bad) := id rfl
/-! ### repr, of truths and None as well -/
section
variable {X : Cx}
def reprA : List D → Option D
  | [.bool b] => some (.str (if b then "True" else "False"))
  | [.none] => some (.str "None")
  | ds => reprL ds
end
@[simp] theorem r_reprA_b (b : Bool) : reprA [.bool b] = some (.str (if b then "True" else "False")) := id rfl
@[simp] theorem r_reprA_n : reprA [.none] = some (.str "None") := id rfl
@[simp] theorem r_reprA_t (l : List D) : reprA [.tuple l] = reprL [.tuple l] := id rfl
@[simp] theorem r_reprA_l (l : List D) : reprA [.list l] = reprL [.list l] := id rfl
@[simp] theorem r_callCT (m : List D → List D → List D → RC) (f1 f2 fl : Ev → R (List D)) (ρ : Ev) : eCallCT m f1 f2 fl ρ = (noex (f1 ρ)).bind fun l1 => (noex (f2 ρ)).bind fun l2 => (noex (fl ρ)).bind fun ds => match m l1 l2 ds with
  | .ok r _ _ => ofO (toD r)
  | .bad => .bad := id rfl
@[simp] theorem r_callB1 (m : List D → List D → RB) (f : Ev → R D) (f1 : Ev → R (List D)) (ρ : Ev) : eCallB1 m f f1 ρ = (noex (f ρ)).bind fun d => (noex (f1 ρ)).bind fun l => match m l [d, .none] with
  | .ok r _ => ofO (toD r)
  | .bad => .bad := id rfl
end VL

set_option Elab.async false
set_option linter.all false
set_option maxRecDepth 100000
set_option autoImplicit false
namespace VL
open PySem PySem.Spec PyProof.Rows L2

/-! ### f'{x}' -/
def fmtD : D → Option D
  | .int i => if i.natAbs.log2 < 1920 then some (.str (toString i)) else none
  | .str y => if y.length ≤ sizeLine then some (.str y) else none
  | _ => none
section
variable {X : Cx} {W : WX} {e : Expr} {p1 p2 : Pos} {f : Ev → R D}
end
/-! ### a list that is lent, and one that is made for the call -/
def xCallCM (m : List D → List D → List D → RC) (i : Nat) (f2 fl : Ev → R (List D)) : Ev → RX D := fun ρ => match lstAt ρ i with
  | some (l, k) => match f2 ρ, fl ρ with
    | .ok l2, .ok ds => match m l l2 ds with
      | .ok r l' _ => ofX (toD r) (ρ.set i (mkL k l'))
      | .bad => .bad
    | _, _ => .bad
  | none => .bad
section
variable {X : Cx} {W : WX} {e2 : Expr} {es : List Expr} {pos p : Pos} {f2 fl : Ev → R (List D)} {x : Str}
end
@[simp] theorem rx_callCM (m : List D → List D → List D → RC) (i : Nat) (f2 fl : Ev → R (List D)) (ρ : Ev) : xCallCM m i f2 fl ρ = (match lstAt ρ i with
  | some (l, k) => match f2 ρ, fl ρ with
    | .ok l2, .ok ds => match m l l2 ds with
      | .ok r l' _ => ofX (toD r) (ρ.set i (mkL k l'))
      | .bad => .bad
    | _, _ => .bad
  | none => .bad) := id rfl
end VL

set_option Elab.async false
set_option linter.all false
set_option maxRecDepth 100000
set_option maxHeartbeats 1000000
set_option autoImplicit false
namespace VL
open PySem PySem.Spec PySem.Calls PyProof.Rows L2

/-! ### an own exception over ValueError whose __init__ says super().__init__(text) -/
abbrev supBody (txt : Str) (p0 p1 p2 p3 p4 pos : Pos) (k0 : Nat) : List Stmt := [.Expr (.Call (.Attribute (.Call (.Name "super" p0) [] [] p1) "__init__" p2) [.Constant (.str txt) k0 p3] [] p4) pos]
section
open PySem.W
variable {prog : Program} {w : World} {M : Model} {A : Around} {E : Value → Shared → Prop} {h : Heap} {g : Array GenState} {d : Drawn} {t : Nat} {os : OsState}
/-- the bound __init__, called -/
theorem call_mw {K : Frag} {C u x t0 : Addr} {rest : List Value} {Q : Value → Shared → Prop} (X : K.In h) (q : excInitIn K C PySem.HandSPX.veTail "ValueError.__new__" = true)
    (hu : h.get? u = some (kxs_mw "ValueError.__init__" x)) (he : h.get? x = some (PySem.HandSPX.excO C t0)) (hz : rest.length ≤ sizeLine)
    (hq : ∀ h' t1, (∀ b o, b ≠ x → h.get? b = some o → h'.get? b = some o) → h'.get? x = some (PySem.HandSPX.excO C t1) → Q .none ⟨h', g, d, t, os⟩) :
    wpAny (model prog w) A (call (.ref u) rest) Q E ⟨h, g, d, t, os⟩ := by
  obtain ⟨nm, N', qn, bs, bm, hdct, sn, sub, ab, col, dd, k0, k1, k2, k3, k5, hC, hT⟩ := excInit_of X q
  refine wpAny_call (codeAny_of_tree ?_)
  show wpAny _ A.in1 (callAny (.ref u) ⟨rest, []⟩) _ _ _
  simp only [callAny]
  refine wpAny_bind (wpAny_load hu ?_)
  simp only [kxs_mw, show (Value.type "method-wrapper" == Value.type "method" || Value.type "method-wrapper" == Value.type "builtin_function_or_method" || Value.type "method-wrapper" == Value.type "method-wrapper") = true by decide, if_true]
  refine KFB.if_so (by decide) ?_
  refine wpAny_bind (check_bound_init F.excBase_ValueError.toExcCallFacts hC he rfl ?_)
  refine wpAny_bind (wpAny_pure (wpAny_pure ?_))
  refine ⟨plainId_quiet F.excBase_ValueError.init.plain _, codeAny_builtin F.excBase_ValueError.initEntry ?_⟩
  rw [Around.under_plainId F.excBase_ValueError.init.plain _]
  wp_walk
  refine hq _ h.objs.size (fun b o hb ho => ?_) ?_
  · rw [Heap.get?_update_other _ _ (Ne.symm hb)]
    exact Heap.get?_push_of_some _ ho
  · rw [Heap.get?_update_self _ (Heap.get?_push_of_some _ he) rfl]
    rfl
theorem boot_super : bootBuiltins "super" = some (.type "super") := by decide +kernel
/-- how the call reads, its places known -/
abbrev SupCall (txt : Str) (p0 p1 p2 p3 p4 : Pos) (k0 : Nat) : Prop := ∀ env : Env, ∃ pl : Sem Bool, eval (.Call (.Attribute (.Call (.Name "super" p0) [] [] p1) "__init__" p2) [.Constant (.str txt) k0 p3] [] p4) env = (do
      let ov ← attributeBase (.Call (.Name "super" p0) [] [] p1) "__init__" env (eval (.Call (.Name "super" p0) [] [] p1) env)
      standAt p2.atName
      let (f, first) ← holding [ov] (getMethod ov "__init__" pl)
      callWith p4 f first (backTo p4 (starEach [.Constant (.str txt) k0 p3] env)) [])
/-- the own __init__, run -/
theorem super_run {K : Frag} {mg : Str → Option Value} {C fI cc cda e t0 : Addr} {name qual : Str} {ar : Arg} {params : Arguments} {scope : Scope} {dV kV doc pm ct oc ccl cl : Value} {an od cdd cld : Option Addr} {osl ccs csl : Array (Option Value)} {txt : Str} {p0 p1 p2 p3 p4 pos : Pos} {k0 : Nat}
    {vs : Array Value} {file : Str} {tf : Tok} {cd : ClassData} {R : Result → Shared → Prop} (X : K.In h) (glob : h.Ns mainGlobals mg) (hsup : mg "super" = none) (blt : ∃ mb, h.Ns builtinsNs mb ∧ ∀ x : Str, x ≠ "__name__" → mb x = bootBuiltins x) (lim : h.NoLimit) (hroom : A.depth < recursionLimit)
    (q : excInitIn K C PySem.HandSPX.veTail "ValueError.__new__" = true) (lk : K.lookup fI = some ⟨oc, od, .func (ksFn name qual params (supBody txt p0 p1 p2 p3 p4 pos k0) scope dV kV doc pm an (.ref cda) ct cc), osl⟩) (hcd : codeIn K (.ref cda) qual = true)
    (hp : (params.posonlyargs ++ params.args).head? = some ar) (hb : ∀ s : Shared, BindsTo s (ksFn name qual params (supBody txt p0 p1 p2 p3 p4 pos k0) scope dV kV doc pm an (.ref cda) ct cc) ⟨[.ref e], []⟩ [(ar.arg, .ref e)])
    (hcode : K.lookup cda = some ⟨ccl, cdd, .fields vs, ccs⟩) (hvs : vs[2]? = some (.str file tf)) (hfile : ((prog.main.file : Str) == file) = true)
    (hcell : K.lookup cc = some ⟨cl, cld, .cell (some (.ref C)), csl⟩) (hC : clsIn K C = some cd) (hsub : mroIn K C (.ref C) = some true) (hm : ks_superIn K C C "__init__" = some (some (.builtin "ValueError.__init__"))) (hB : subIn K (.ref C) (.type "ValueError") = some true)
    (hop : nsIn K cStatics "thirdparty.any" = some none) (hks : scope.names.lookup ("super" : Str) = some .globalImplicit) (hkc : scope.names.lookup ("__class__" : Str) = some .free) (hka : scope.names.lookup ar.arg = some .local) (hk : scope.kind = .function)
    (hco : scope.isCoroutine = false) (hgen : scope.isGenerator = false) (hnc : ∀ x ∈ scope.names, x.2 ≠ .cell) (htop : (prog.main.scope.names.lookup ("super" : Str)).isSome = false)
    (he : h.get? e = some (PySem.HandSPX.excO C t0)) (eC : e ≠ C) (hev : SupCall txt p0 p1 p2 p3 p4 k0)
    (hR : ∀ h' t1 tk, (∀ b o, b ≠ e → h.get? b = some o → h'.get? b = some o) → h'.get? e = some (PySem.HandSPX.excO C t1) → R (.ok (.ret .none)) ⟨h', g, d, tk, os⟩) :
    codeAny (model prog w) A (.call (.ref fI) ⟨[.ref e], []⟩) R ⟨h, g, d, t, os⟩ := by
  refine ks_codeAny_call_defAt hroom (X _ _ lk) rfl lim (codeRec_of X hcd) rfl (hb _) hnc (fun x hx => ?_) (fun h₀ hns k => ?_) hco hgen hk
  · simp at hx
    subst hx
    exact hka
  · have X₀ : K.In h₀ := X.keeps k
    show PySem.wpAt (model prog w) (A.deeper (ksEnv qual scope h.objs.size fI (.ref cda) cc)) (.func (supBody txt p0 p1 p2 p3 p4 pos k0) (ksEnv qual scope h.objs.size fI (.ref cda) cc)) (execs (supBody txt p0 p1 p2 p3 p4 pos k0) (ksEnv qual scope h.objs.size fI (.ref cda) cc)) _ _ _
    obtain ⟨pl, hev⟩ := hev (ksEnv qual scope h.objs.size fI (.ref cda) cc)
    have hi : interactive (ksEnv qual scope h.objs.size fI (.ref cda) cc) = false := by
      show (scope.kind == .module && _) = false
      rw [hk]; rfl
    obtain ⟨mb, b1, b2⟩ := blt
    obtain ⟨oC, hC1, hC2⟩ : ∃ oC, h₀.get? C = some oC ∧ oC.data = .cls cd := by
      have hC := hC
      unfold clsIn at hC
      split at hC
      · rename_i c d cd' sl ho
        cases hC
        exact ⟨_, X₀ _ _ ho, rfl⟩
      · cases hC
    have he0 := k _ _ he
    refine ks_wpAt_execs_cons (ks_wpAt_Expr_any (ks_wpAt_MethodCall ?_ hev) hi)
    refine ks_wpAt_super_base (env := ksEnv qual scope h.objs.size fI (.ref cda) cc) hks hkc (by decide) rfl (X₀ _ _ lk) rfl hp rfl (X₀ _ _ hcode) rfl hvs hfile htop ?_
    refine ks_loadName_global hk hks (loadGlobal_builtin (env := ksEnv qual scope h.objs.size fI (.ref cda) cc) (glob.keeps k) hsup (b1.keeps k) ((b2 _ (by decide +kernel)).trans boot_super) ⟨rfl, ?_⟩)
    refine wpAny_loadName_free hk hkc rfl ⟨_, X₀ _ _ hcell, rfl⟩ ?_
    have hv : (fun x => ([(ar.arg, Value.ref e)] : List (Str × Value)).reverse.lookup x) ar.arg = some (.ref e) := by simp
    refine wpAny_loadName_local hk hka hns hv ?_
    refine ks_wpAny_isType_cls hC1 hC2 ⟨rfl, ?_⟩
    refine ks_wpAny_call_super hC1 hC2 he0 rfl (fun c z => by cases z) (looks_mroIn X₀ hsub) (fun h1 e1' k1 => ?_)
    have X1 : K.In h1 := X₀.keeps k1
    have KC : ∃ cd', clsIn K C = some cd' := ⟨_, hC⟩
    have hm' : alongIn K "__init__" ((cd.mro.dropWhile (· != .ref C)).drop 1) = some (some (.builtin "ValueError.__init__")) := by
      unfold ks_superIn at hm
      rw [hC] at hm
      exact hm
    have TI : ∀ hh : Heap, hh.get? e = some (PySem.HandSPX.excO C t0) → K.In hh → Looks (model prog w) hh (isInstance (.ref e) (.type "ValueError")) true := fun hh z zX =>
      (InstAt.type (⟨z, rfl, rfl, trivial⟩ : InstAt hh e (PySem.HandSPX.excO C t0) C none)).andThen (looks_subIn zX hB)
    refine kxs_getMethod kxs_ValueError e1' (looks_opaque X1 hop) (l₀ := cd.mro) ?_ rfl X1 hm' (TI h1 (k1 _ _ he0) X1) eC (by decide) ?_
    · exact fun A Q E s k q => wpAny_bind ((looks_clsIn X1 hC) A _ E s k (wpAny_pure q))
    · have k2 : ∀ b o, h1.get? b = some o → (h1.push (kxs_mw "ValueError.__init__" e)).get? b = some o := fun b o z => Heap.get?_push_of_some _ z
      have hu : (h1.push (kxs_mw "ValueError.__init__" e)).get? h1.objs.size = some (kxs_mw "ValueError.__init__" e) := Heap.get?_push_at rfl rfl
      have X2 : K.In (h1.push (kxs_mw "ValueError.__init__" e)) := X1.keeps k2
      have he2 := k2 _ _ (k1 _ _ he0)
      show wpAny (model prog w) _ (callWith p4 (.ref h1.objs.size) [] (backTo p4 (starEach [.Constant (.str txt) k0 p3] _)) []) _ _ _
      refine kxs_callWith (i := "ValueError.__init__") (x := e) rfl (evalArgs_plain (spliced_more (Constant_str (spliced_none ⟨hu, ?_⟩))))
      refine call_mw X2 q hu he2 (by show 1 ≤ sizeLine; decide) fun h' t1 kk ee => ?_
      refine wpAt_of_wpAny (wpAny_execs_nil ?_)
      exact hR h' t1 _ (fun b o hb z => kk b o hb (k2 _ _ (k1 _ _ (k _ _ z)))) ee
end
/-- what the written part says of such a class -/
structure SupC (P : Program) (K : Fg) (C fI cc cda : Addr) (name qual : Str) (params : Arguments) (scope : Scope) (txt : Str) (p0 p1 p2 p3 p4 pos : Pos) (k0 : Nat) : Prop where
  ini : PySem.W.excInitIn K C PySem.HandSPX.veTail "ValueError.__new__" = true
  fun_ : ∃ (oc kV doc pm ct : Value) (od an : Option Addr) (osl : Array (Option Value)), K.lookup fI = some ⟨oc, od, .func (PySem.W.ksFn name qual params (supBody txt p0 p1 p2 p3 p4 pos k0) scope .none kV doc pm an (.ref cda) ct cc), osl⟩
  code : PySem.W.codeIn K (.ref cda) qual = true
  par : (params.posonlyargs ++ params.args).head?.map (·.arg) = some "self"
  binds : ∀ (kV doc pm ct : Value) (an : Option Addr) (e : Addr) (s : Shared), BindsTo s (PySem.W.ksFn name qual params (supBody txt p0 p1 p2 p3 p4 pos k0) scope .none kV doc pm an (.ref cda) ct cc) ⟨[.ref e], []⟩ [("self", .ref e)]
  file : ∃ (ccl : Value) (cdd : Option Addr) (vs : Array Value) (ccs : Array (Option Value)) (file : Str) (tf : Tok), K.lookup cda = some ⟨ccl, cdd, .fields vs, ccs⟩ ∧ vs[2]? = some (.str file tf) ∧ ((P.main.file : Str) == file) = true
  cell : ∃ (cl : Value) (cld : Option Addr) (csl : Array (Option Value)), K.lookup cc = some ⟨cl, cld, .cell (some (.ref C)), csl⟩
  cls : ∃ cd, PySem.W.clsIn K C = some cd
  sub : PySem.W.mroIn K C (.ref C) = some true
  sup : PySem.W.ks_superIn K C C "__init__" = some (some (.builtin "ValueError.__init__"))
  subB : PySem.W.subIn K (.ref C) (.type "ValueError") = some true
  exC : PySem.W.subIn K (.ref C) (.type "BaseException") = some true
  tyC : PySem.W.typeIn K (.ref C) = some (.type "type")
  iC : PySem.W.findIn K (.ref C) "__init__" = some (some (.ref fI))
  tI : PySem.W.typeIn K (.ref fI) = some (.type "function")
  kC : PySem.W.keepIn K (.ref C) = true
  op : PySem.W.nsIn K cStatics "thirdparty.any" = some none
  ks : scope.names.lookup ("super" : Str) = some .globalImplicit
  kc : scope.names.lookup ("__class__" : Str) = some .free
  ka : scope.names.lookup ("self" : Str) = some .local
  kind : scope.kind = .function
  co : scope.isCoroutine = false
  gen : scope.isGenerator = false
  nc : ∀ x ∈ scope.names, x.2 ≠ .cell
  top : (P.main.scope.names.lookup ("super" : Str)).isSome = false
  ev : SupCall txt p0 p1 p2 p3 p4 k0
section
variable {X : Cx} {x : Str} {C fI cc cda : Addr} {name qual : Str} {params : Arguments} {scope : Scope} {txt : Str} {p0 p1 p2 p3 p4 pos p cpos : Pos} {k0 : Nat}
/-- C() -/
theorem pmk_sup (S : SupC X.prog X.K C fI cc cda name qual params scope txt p0 p1 p2 p3 p4 pos k0) (hr : Room 1 X.A) (hg : Gl X x) (hm : X.mg x = some (.ref C)) (hsup : X.mg "super" = none) (hdb : (x == ("__debug__" : Str)) = false := by decide) :
    L2N.PMk X (.Call (.Name x p) [] [] cpos) (fun σ H Q => Q (.ref C) none H) := by
  intro pins s σ H Q I h
  refine wpAny_Call_Name_kw (ld_glob I hg hm ?_ hdb)
  refine PySem.W.callWith_K0 I.kIn S.kC ?_
  show wpAny _ _ (call (.ref C) []) _ _ _
  obtain ⟨hp, g, dr, tk, os⟩ := s
  obtain ⟨nm, N', qn, bs, bm, hdct, sn, sub, ab, col, dd, k0', k1, k2, k3, k5, hC, hT⟩ := PySem.W.excInit_of I.kIn S.ini
  refine wpAny_call (PySem.HandSPX.call_own F.excBase_ValueError hT hC (PySem.W.looks_findIn I.kIn S.iC) (fun self => PySem.W.bind_fn I.kIn self S.tI) (by show 0 ≤ sizeLine; exact Nat.zero_le _) ?_)
  obtain ⟨oc, kV, doc, pm, ct, od, an, osl, lk⟩ := S.fun_
  obtain ⟨ccl, cdd, vs, ccs, file, tf, f1, f2, f3⟩ := S.file
  obtain ⟨cl, cld, csl, c1⟩ := S.cell
  obtain ⟨cd, hcd⟩ := S.cls
  obtain ⟨ar, ha, har⟩ := Option.map_eq_some_iff.mp S.par
  have kk0 : ∀ b o, hp.get? b = some o → ((hp.push (PySem.W.kdv_tup [])).push (PySem.HandSPX.excO C hp.objs.size)).get? b = some o := fun b o e => Heap.get?_push_of_some _ (Heap.get?_push_of_some _ e)
  have hget : ((hp.push (PySem.W.kdv_tup [])).push (PySem.HandSPX.excO C hp.objs.size)).get? (hp.objs.size + 1) = some (PySem.HandSPX.excO C hp.objs.size) := by heap_get
  have lt : ∀ b o, hp.get? b = some o → b ≠ hp.objs.size + 1 := fun b o e z => by
    have h1 : b < hp.objs.size := Heap.lt_size e
    rw [z] at h1
    exact absurd h1 (Nat.not_lt.mpr (Nat.le_succ _))
  obtain ⟨mb, b1, b2⟩ := I.mod.blt
  refine super_run (K := X.K) (mg := X.mg) (C := C) (ar := ar) (I.kIn.keeps kk0) ((I.mod.glob.keeps I.bk).keeps kk0) hsup ⟨mb, (b1.keeps I.bk).keeps kk0, b2⟩ ((I.nolimit).keeps kk0) (hr.make C [] []).depth S.ini lk S.code ha (fun s => by rw [har]; exact S.binds _ _ _ _ _ _ s) f1 f2 f3 c1 hcd S.sub S.sup S.subB S.op S.ks S.kc (by rw [har]; exact S.ka) S.kind S.co S.gen S.nc S.top hget (fun z => lt C _ hC z.symm) S.ev fun h' t1 tk' kk ee => ?_
  refine ⟨rfl, ?_⟩
  exact ⟨hp.objs.size + 1, _, _, ⟨hp, g, dr, tk, os⟩, H, .ref C, none, rfl, I, fun b o e => kk b o (lt b o e) (kk0 b o e), by
    cases z : hp.get? (hp.objs.size + 1) with
    | none => rfl
    | some o => exact absurd rfl (lt _ _ z), ee, ⟨rfl, rfl, fun vs e => by cases e; rfl⟩, rfl, rfl, I.hok.fresh (Nat.le_succ _), rfl, I.bare, raises_own S.exC S.tyC, h⟩
end
end VL

set_option Elab.async false
set_option linter.all false
set_option maxRecDepth 100000
set_option maxHeartbeats 1000000
set_option autoImplicit false
namespace VL
open PySem PySem.Spec PyProof.Rows L2

/-! ### raise C() -/
def sRaise (n : Str) : Ev → Out := fun ρ => .ex ⟨n, []⟩ ρ
theorem vs_raise {X : Cx} {W : WX} {e : Expr} {n : Str} {C : Addr} {pos : Pos} (hc : X.calm = true) (tk : L2N.Takes X W) (hm : X.mg n = some (.ref C)) (mk : L2N.PMk X e (fun σ H Q => Q (.ref C) none H)) :
    VS X W (.Raise (some e) none pos) (sRaise n) :=
  PS.imp (L2N.ps_raise hc tk mk) fun D σ H ⟨S, G, Hs, ρ, r, h⟩ => h Hs H σ (.ref C) none (.refl _) r ⟨hm, .inl ⟨rfl, rfl⟩⟩

/-! ### try: .. except K as e: .. -/
/-- the slot of the caught error is forgotten at the suite's end -/
def offO (i : Nat) : Out → Out
  | .nx ρ => .nx (ρ.set i .no)
  | .bk ρ => .bk (ρ.set i .no)
  | .ct ρ => .ct (ρ.set i .no)
  | .rt r => .rt r
  | _ => .bad
theorem offO_ok {K : Fg} {mg : Str → Option Value} {W : WX} {S Hs : Hp} {G : Gx} {D : Ends} {i : Nat} {o : Out} (h : OutOk K mg W S G Hs D (offO i o)) :
    OutOk K mg WF S G Hs { nx := fun σ' H' => D.nx (σ'.set i none) H', rt := D.rt, bk := fun σ' H' => D.bk (σ'.set i none) H', ct := fun σ' H' => D.ct (σ'.set i none) H' } o := by
  cases o with
  | nx ρ => exact fun Hs' H' σ' g r => h Hs' H' _ g r.setNo
  | bk ρ => exact fun Hs' H' σ' g r => h Hs' H' _ g r.setNo
  | ct ρ => exact fun Hs' H' σ' g r => h Hs' H' _ g r.setNo
  | rt r => exact h
  | rtB r ρ => exact h.elim
  | ex x ρ => exact h.elim
  | bad => exact h.elim
open Classical in
/-- the suite's end, which must not depend on where the error lies -/
noncomputable def anyA (g : Addr → Out) : Out := if (∀ a, g a = g 0) then g 0 else .bad
theorem anyA_const (o : Out) : anyA (fun _ => o) = o := if_pos fun _ => rfl
theorem hot_suite {X : Cx} {a : Addr} {oe : Obj} {pn : List (Addr × Obj)} {cls : Value} {d : Option Addr} (hz : L2N.Zn cls d oe) (hf : ∃ vs, oe.data = .fields vs) : L2H.HotC (X.suite a ((a, oe) :: pn)) := by
  obtain ⟨vs, hv⟩ := hf
  exact ⟨(a, oe), ⟨rfl, vs, hv, hz.2.2 vs hv⟩, List.mem_cons_self⟩

theorem Inn.tr {X : Cx} {W W1 : WX} {k : Nat} {pn : List (Addr × Obj)} {xe : Value → Shared → Prop} (I : Inn X W k) (tk : L2N.Takes (X.tr pn xe) W1) (hp : PassesOwn (model X.prog X.w) X.A X.env xe) : Inn (X.tr pn xe) W1 k := ⟨I.hr, I.gd, tk, hp⟩
/-- what an except suite knows -/
structure InnH (X : Cx) (W : WX) (k : Nat) : Prop where
  hr : L2H.RoomH k X.A
  gd : X.A.guards = some []
  tk : L2N.Takes X W
  hp : PassesOwn (model X.prog X.w) X.A X.env X.xe
theorem takesN {X : Cx} : L2N.Takes X WF := fun _ _ ⟨_, _, _, _, _, _, _, _, _, _, _, _, _, _, _, _, w⟩ => w.elim
theorem Inn.suite {X : Cx} {W : WX} {k : Nat} (I : Inn X W k) (a : Addr) (oe : Obj) (pn : List (Addr × Obj)) : InnH (X.suite a ((a, oe) :: pn)) WF k := ⟨⟨I.hr.dp, I.hr.un⟩, I.gd, takesN, .never⟩
theorem unitsH {k : Nat} {A : Around} (r : L2H.RoomH k A) : A.units + 64 < cLine := by have := r.un; omega
/-! ### isinstance(e, C) in the suite -/
def isEx (n : Str) (a : Addr) : D → Bool
  | .dict [(.int 2, .str m), (.int 3, .int c)] => decide (m = n) && decide (c = (a : Int))
  | _ => false
theorem isEx_self (n : Str) (a : Addr) : isEx n a (exD n a) = true := by simp [isEx, exD]
def eIsE (n : Str) (a : Addr) (b : Bool) (f : Ev → R D) : Ev → R D := fun ρ => (f ρ).bind fun d => if isEx n a d = true then .ok (.bool b) else .bad
/-- what the written part says of an own class that is raised -/
structure ExK (P : Program) (K : Fg) (C : Addr) : Prop where
  sup : ∃ (fI cc cda : Addr) (name qual : Str) (params : Arguments) (scope : Scope) (txt : Str) (p0 p1 p2 p3 p4 pos : Pos) (k0 : Nat), SupC P K C fI cc cda name qual params scope txt p0 p1 p2 p3 p4 pos k0
  exc : ExcC K C
theorem vs_raiseC {X : Cx} {W : WX} {n : Str} {C : Addr} {p cpos pos : Pos} {k : Nat} (S : ExK X.prog X.K C) (hm : X.mg n = some (.ref C)) (hsup : X.mg "super" = none) (tk : L2N.Takes X W) (hr : Room k X.A) (hc : X.calm = true := by rfl) (hk : 1 ≤ k := by decide) (hg : Gl X n := by rfl) (hdb : (n == ("__debug__" : Str)) = false := by decide) :
    VS X W (.Raise (some (.Call (.Name n p) [] [] cpos)) none pos) (sRaise n) := by
  obtain ⟨_, _, _, _, _, _, _, _, _, _, _, _, _, _, _, s⟩ := S.sup
  exact vs_raise hc tk hm (pmk_sup s (hr.mono hk) hg hm hsup hdb)
end VL

set_option Elab.async false
set_option linter.all false
set_option maxRecDepth 100000
set_option maxHeartbeats 1000000
set_option autoImplicit false
namespace VL
open PySem PySem.Spec PyProof.Rows L2

/-! ### all(test for x in y), y a name that holds a text -/
section
variable {X : Cx} {pins : List (Addr × Obj)} {σ : Sg} {H : Hp} {s : Shared}
/-- a def's table has grown -/
theorem inv_grow {P : Addr} {h' : Heap} {g' : Array GenState} {d' : Drawn} {t' : Nat} (I : Inv X pins σ H s) (hP : H P = some (.ext (TabP P)))
    (k : ∀ b o, b ≠ P → s.heap.get? b = some o → h'.get? b = some o) (hm : TabP P h') (hg : AllBare g') : Inv X pins σ H { s with heap := h', gens := g', drawn := d', toks := t' } := by
  have away : ∀ {b : Addr} {u : Option HO}, H b = u → u ≠ some (.ext (TabP P)) → b ≠ P := fun e n z => by subst z; exact n (e.symm.trans hP)
  obtain ⟨ps, hps, htr⟩ := id hm
  refine I.step (H' := H) (ch := []) (fun b hb => nomatch hb) (fun b o _ _ _ e n => k b o (away n (by simp)) e) (fun b o _ _ _ e n => ⟨o.slots, k b o (away n (by simp)) e⟩) (fun b o _ _ n => n) (fun b o _ e => ?_) (fun _ _ e => e) (fun _ _ _ e => e)
    (fun b qs e => ⟨#[], by rw [e]; simp⟩) (fun m ⟨ob, es, ep, ho, r⟩ => ⟨ob, es, ep, k _ _ (away I.free (by simp)) ho, r⟩) (fun b u e => ?_) hg
  · by_cases z : b = P
    · subst z; exact ⟨_, hps⟩
    · exact ⟨o, k b o z e⟩
  · by_cases z : b = P
    · subst z
      rw [hP] at e; cases e
      obtain ⟨_, _, st⟩ := I.hok b _ hP
      exact ⟨hm, ⟨_, hps⟩, st⟩
    · refine (I.hok b u e).stay (fun c v hc q => k c v ?_ q) (fun _ q => q) fun _ _ q => q
      rcases hc with rfl | hc
      · exact z
      · exact away hc (by simp)
end
/-- the test of one sign, where the base lies as it was -/
def SgnT (X : Cx) (scope : Scope) (x : Str) (elt : Expr) (pb : Nat → Bool) : Prop :=
  ∀ (env : Env) (B : Around) (xe : Value → Shared → Prop) (c : Nat) (t : Tok) (s2 : Shared) (m : Str → Option Value), env.scope = scope → env.globals = mainGlobals → (∀ b o, X.base.get? b = some o → s2.heap.get? b = some o) → B.handled = none →
    s2.heap.Ns env.locals m → m x = some (.str ⟨#[c]⟩ t) → wpAny (model X.prog X.w) B (eval elt env) (fun y s3 => y = .bool (pb c) ∧ Keeps s2 s3) xe s2
/-- the scope of the generator expression: x its own name -/
structure GScope (env : Env) (scope : Scope) (x : Str) : Prop where
  fn : scope.kind = .function
  nco : scope.isCoroutine = false
  ncell : ∀ y ∈ scope.names, y.2 ≠ .cell
  own0 : scope.names.lookup (".0" : Str) = some NameKind.local
  own : scope.names.lookup x = some .local
  caps : ∀ y ∈ scope.names, y.2 = .free → ∃ c, env.cells.lookup y.1 = some c
theorem gs_mk {env : Env} {scope : Scope} {x : Str} (fn : scope.kind = .function) (nco : scope.isCoroutine = false) (ncell : ∀ y ∈ scope.names, y.2 ≠ .cell) (own0 : scope.names.lookup (".0" : Str) = some NameKind.local) (own : scope.names.lookup x = some .local)
    (nf : ∀ y ∈ scope.names, y.2 ≠ .free) : GScope env scope x := ⟨fn, nco, ncell, own0, own, fun y hy e => absurd e (nf y hy)⟩
def signB (pb : Nat → Bool) (l : List Nat) (j : Nat) : Bool := (l[j]?.map pb).getD false
theorem signB_all (pb : Nat → Bool) (l : List Nat) : (List.range l.length).all (signB pb l) = l.all pb := by
  rw [Bool.eq_iff_iff, List.all_eq_true, List.all_eq_true]
  constructor
  · intro h c hc
    obtain ⟨j, hj, rfl⟩ := List.mem_iff_getElem.mp hc
    have := h j (List.mem_range.mpr hj)
    unfold signB at this
    rw [List.getElem?_eq_getElem hj] at this
    exact this
  · intro h j hj
    have hj := List.mem_range.mp hj
    unfold signB
    rw [List.getElem?_eq_getElem hj]
    exact h _ (List.getElem_mem hj)
theorem passing_all (n : Nat) : passing (fun _ => true) n 0 = List.range n := GxR.passing_true n
theorem ask_all {X : Cx} {pins : List (Addr × Obj)} {σ : Sg} {H : Hp} {s : Shared} {Q : VK} {c P : Addr} {a : Str} {i k : Nat} {elt : Expr} {x y : Str} {px py gpos : Pos} {scope : Scope} {pb : Nat → Bool}
    (hr : Room k X.A) (hcm : X.calm = true) (TB : GxR.TabB X.base X.mg c P) (hc : X.env.code = .ref c) (hP : H P = some (.ext (TabP P))) (S : GScope X.env scope x) (hy : PE X (.Name y py) (tVar i)) (hi : σ[i]? = some (some (.str a))) (T : SgnT X scope x elt pb)
    (I : Inv X pins σ H s) (q : Q (.bl (a.cps.toList.all pb)) H) (hs : ∀ v, genFold (.Name y py) X.env v = pure v) :
    wpAny (model X.prog X.w) X.A (eval (.GeneratorExp elt [⟨.Name x px, .Name y py, [], 0⟩] scope gpos) X.env) (fun v s1 => wpAny (model X.prog X.w) X.A (call (.builtin "all") [v]) (EP X pins σ Q) X.xe s1) X.xe s := by
  have hh : X.A.handled = none := I.ok.hd hcm
  refine wpAny_GeneratorExp_walksQ hh S.nco (closure_ok S.caps) S.ncell S.own0 S.own S.fn hr.depth ?_ hs
  refine thn (hy.run pins s σ H (fun v H1 => v = .str a ∧ H1 = H) I ⟨_, hi, rfl, rfl⟩) fun u s1 hu => ?_
  obtain ⟨v, H1, J, ru, rfl, rfl⟩ := hu
  obtain ⟨t, rfl⟩ := _root_.id ru
  refine wpAny_pyIter_str fun it St Wk st0 => ?_
  obtain ⟨⟨ps, hps, htr⟩, _, _⟩ := J.hok P _ hP
  have pushk : ∀ {b : Addr} {o : Obj}, s1.heap.get? b = some o → (s1.heap.push it).get? b = some o := fun e => Heap.get?_push_of_some _ e
  have hd : PySem.W.CodeHd (s1.heap.push it) c P := TB.code.keeps fun b o e => pushk (J.bk b o e)
  have nolim : (s1.heap.push it).NoLimit := J.nolimit.push it
  have Plt : P < s1.heap.objs.size := Heap.lt_size hps
  have statP : cStatics ≠ P := fun e => by
    obtain ⟨_, ⟨o, es, ep, ho, hd, _⟩, _⟩ := J.nolimit
    rw [e, hps] at ho; cases ho; cases hd
  have slt : cStatics < s1.heap.objs.size := let ⟨_, hn, _⟩ := J.nolimit; hn.lt
  -- behind the code object, wherever it comes from
  have go : ∀ (code : Value) (h3 : Heap) (tk : Nat), Heap.ExtBut P (s1.heap.push it) h3 → (s1.heap.push it).objs.size ≤ h3.objs.size → TabP P h3 →
      wpAny (model X.prog X.w) X.A (builtinsFor X.env.globals X.env.builtins) (fun bi s4 => ∃ Ia fp wr n0 Pf St0 pz F, Value.ref s1.heap.objs.size = .ref Ia ∧ (∀ B : Around, B.handled = none → Walks X.prog X.w B Ia fp wr n0 Pf St0) ∧ St0 0 s4.heap ∧ (∀ b ∈ fp, b < s4.heap.objs.size) ∧ s4.heap.NoLimit ∧ cStatics ∉ wr ∧
        (∀ hf : Heap, (∀ b o, s4.heap.get? b = some o → hf.get? b = some o) → QuietGen X.prog X.w (genEnv scope (cloFrom X.env.cells scope.names []) s4.heap.objs.size code bi X.env) x [] elt (List.range s4.heap.objs.size) wr Pf pz F hf) ∧
        (∀ g h5 tk' gs, gs.bare = true → s4.heap.objs.size < g → h5.objs.size = g + 1 → (∀ b o, s4.heap.get? b = some o → h5.get? b = some o) →
          WalksS X.prog X.w X.A.in4 g (g :: s4.heap.objs.size :: List.range s4.heap.objs.size) (s4.heap.objs.size :: wr) (GenOnlyQ s4.gens.size) (passing pz n0 0).length (fun j v => ∃ i, (passing pz n0 0)[j]? = some i ∧ F i v) (GenAt X.prog X.w X.A.in4 g s4.gens.size s4.heap.objs.size (List.range s4.heap.objs.size) wr pz n0 F) →
          GenAt X.prog X.w X.A.in4 g s4.gens.size s4.heap.objs.size (List.range s4.heap.objs.size) wr pz n0 F 0 { s4 with gens := s4.gens.push gs, toks := tk', heap := h5 } →
          wpAny (model X.prog X.w) X.A (call (.builtin "all") [.ref g]) (EP X pins σ Q) X.xe { s4 with gens := s4.gens.push gs, toks := tk', heap := h5 })) X.xe { s1 with heap := h3, toks := tk } := by
    intro code h3 tk hx hsz hT3
    obtain ⟨bm, ob, e1, e2, e3, e4, e5, e6, e7, e8⟩ := TB.bm
    have up3 : ∀ {b : Addr} {o : Obj}, b ≠ P → s1.heap.get? b = some o → h3.get? b = some o := fun n e => hx _ _ n (pushk e)
    have szp : (s1.heap.push it).objs.size = s1.heap.objs.size + 1 := Heap.size_push ..
    refine wpAny_builtinsFor (m := X.mg) (by rw [J.ok.glob]; exact ((J.mod.glob.keeps J.bk).push it).extBut hx TB.gP) e1 e2 (up3 e4 (J.bk _ _ e5)) e6 e7 e8 ?_
    refine ⟨s1.heap.objs.size, [s1.heap.objs.size], [s1.heap.objs.size], a.cps.size, SignAt a, St, fun _ => true, fun i v => ∃ cc, a.cps[i]? = some cc ∧ v = .bool (pb cc), rfl, Wk, ?_, ?_, nolim.extBut hx statP, ?_, fun hf hfk => ?_, ?_⟩
    · refine (Wk X.A hh).frame _ _ _ st0 fun b hb o e => hx b o ?_ e
      rw [List.mem_singleton.mp hb]
      exact Ne.symm (Nat.ne_of_lt Plt)
    · intro b hb
      rw [List.mem_singleton.mp hb]
      show s1.heap.objs.size < h3.objs.size
      omega
    · exact fun z => Nat.ne_of_lt slt (List.mem_singleton.mp z)
    · refine ⟨fun B E' i v s2 m hB hv hn hm hk => ?_, fun B E' i v s2 m hB hv hp hn hm hk => ?_⟩
      · simp only [List.forIn_nil]
        exact wpAny_pure ⟨rfl, GxR.keeps_refl _⟩
      · obtain ⟨cc, u, hcc, rfl⟩ := hv
        have bk2 : ∀ b o, X.base.get? b = some o → s2.heap.get? b = some o := fun b o e => by
          have e1 := J.bk b o e
          have nP : b ≠ P := fun z => by
            have := (J.bs b o e).2
            rw [z, hP] at this; cases this
          have lt := Heap.lt_size e1
          refine hk b (List.mem_range.mpr (Nat.lt_of_lt_of_le lt (by show s1.heap.objs.size ≤ h3.objs.size; omega))) (fun z => Nat.ne_of_lt lt (List.mem_singleton.mp z)) o (hfk b o (up3 nP e1))
        exact wpAny_mono (T _ B E' cc u s2 m rfl J.ok.glob bk2 hB hn hm) (fun v s3 r => ⟨⟨cc, hcc, r.1⟩, r.2⟩) fun _ _ e => e
    · intro g h5 tk' gs gb glt gsz k5 W5 at5
      rw [passing_all, List.length_range] at W5
      refine call_all_walkS (W5.in4_1.self 0 _ _ _ at5 ⟨g, _, _, _, _, _, _, signB pb a.cps.toList, rfl, W5.in4_1, at5, ?_, fun s' mv => ?_⟩)
      · intro j v sj Qj Ej hv hQ
        obtain ⟨i, hij, cc, hcc, rfl⟩ := hv
        obtain ⟨hj, ej⟩ := List.getElem?_eq_some_iff.mp hij
        rw [List.getElem_range] at ej
        subst ej
        have e9 : signB pb a.cps.toList j = pb cc := by
          unfold signB
          rw [Array.getElem?_toList, hcc]; rfl
        exact wpAny_truthy_bool (by rw [← e9]; exact hQ)
      · have wrk : ∀ {b : Addr} {o : Obj}, s1.heap.get? b = some o → b ∉ h3.objs.size :: [s1.heap.objs.size] := fun e z => by
          have l := Heap.lt_size e
          rcases List.mem_cons.mp z with z | z
          · rw [z] at l
            have l2 : (h3.objs.size : Nat) < s1.heap.objs.size := l
            omega
          · rw [List.mem_singleton.mp z] at l
            exact Nat.lt_irrefl _ l
        obtain ⟨ps3, hp3, ht3⟩ := hT3
        have JJ := inv_grow (h' := s'.heap) (g' := s'.gens) (d' := s'.drawn) (t' := s'.toks) J hP (fun b o nb e => mv.heap b o (wrk e) (k5 b o (up3 nb e))) ⟨ps3, mv.heap P _ (wrk hps) (k5 P _ hp3), ht3⟩ (AllBare.movedS (J.bare.push gb) mv)
        rw [GxR.sh_eta s1 s' mv.os] at JJ
        refine ⟨.bl _, H1, JJ, rfl, ?_⟩
        have el : (List.range a.cps.size).all (signB pb a.cps.toList) = a.cps.toList.all pb := by
          rw [← signB_all pb a.cps.toList, Array.length_toList]
        rw [el]
        exact q
  refine ⟨nolim, ?_⟩
  have hps2 := pushk hps
  cases hf : codeAmong gpos ps.toList with
  | none =>
    refine wpAny_genexprCodeX hc (hd.code hps2 htr) (hd.tab hps2) hf fun c' h' tk hx hge hlt co _ tb _ => ?_
    obtain ⟨o1, vs, f1, tf, fl, tg, inF, tx, tt, op, _, _, _, _, _, _, _, _, _, htr', _⟩ := co
    exact go _ h' tk hx (Nat.le_trans hge (Nat.le_of_lt hlt)) ⟨_, tb.2, htr'⟩
  | some cv =>
    exact wpAny_genexprCode_hit hc (hd.code hps2 htr) hf (go cv (s1.heap.push it) s1.toks (Heap.ExtBut.refl _ _) (Nat.le_refl _) ⟨ps, hps2, htr⟩)
/-- the code of it: pb tells of each sign whether it passes -/
def eAllG (pb : Nat → Bool) (i : Nat) : Ev → R D := fun ρ => match ρ[i]? with
  | some (.sh (.str a)) => .ok (.bool (a.cps.toList.all pb))
  | _ => .bad
theorem v_allG {X : Cx} {W : WX} {c P : Addr} {i k : Nat} {elt : Expr} {x y nm : Str} {p pos px py gpos : Pos} {scope : Scope} {pb : Nat → Bool}
    (hr : Room k X.A) (TB : GxR.TabB X.base X.mg c P) (TI : TabI X.K nm c P) (hc : X.env.code = .ref c) (hm : X.mg "all" = none) (S : GScope X.env scope x) (hy : PE X (.Name y py) (tVar i)) (T : X.base.Ns mainGlobals X.mg → SgnT X scope x elt pb)
    (hcm : X.calm = true := by rfl) (hn : nm ∈ tabNames := by decide) (hg : Gl X "all" := by rfl) (hs : ∀ v, genFold (.Name y py) X.env v = pure v := by intro _; rfl)
    (he : starEach [.GeneratorExp elt [⟨.Name x px, .Name y py, [], 0⟩] scope gpos] X.env = (false, eval (.GeneratorExp elt [⟨.Name x px, .Name y py, [], 0⟩] scope gpos) X.env) :: starEach [] X.env := by rfl) :
    VE X W (.Call (.Name "all" p) [.GeneratorExp elt [⟨.Name x px, .Name y py, [], 0⟩] scope gpos] [] pos) (eAllG pb i) := by
  refine ⟨fun pins s σ H Q I h => ?_⟩
  obtain ⟨S', G, Hs, ρ, r, h⟩ := h
  obtain ⟨a, ha, h⟩ : ∃ a : Str, ρ[i]? = some (.sh (.str a)) ∧ Post X.K X.mg W Hs H σ (.ok (PyData.bool (a.cps.toList.all pb))) (fun d Hs' H' => ∀ v, Rp X.K Hs' d v → Q v H') := by
    unfold eAllG at h
    split at h
    · exact ⟨_, ‹_›, h⟩
    · exact h.elim
  obtain ⟨v, hv, rv⟩ := r.get ha
  obtain rfl : v = .str a := by cases rv; rfl
  have ta : TabA X.K P := by
    obtain ⟨f, o, fd, h1, h2, h3, h4⟩ := TI.ex
    exact ⟨nm, hn, f, o, fd, c, h1, h2, h3, h4, TI.hd⟩
  have hP : H P = some (.ext (TabP P)) := r.sub _ _ (r.tabs P ta)
  refine wpAny_Call_Name_kw (ld_blt I hg hm b_all ?_)
  refine PyProof.Rows.callWith_builtin1 ?_ he (by rfl)
  rw [he]
  refine Calls.spliced_cons (wpAny_mono (ask_all hr hcm TB hc hP S hy hv (T I.mod.glob) I (h.now r.sub _ (.bl _)) hs) (fun v s1 h1 => Calls.spliced_nil h1) fun _ _ e => e)
/-- the sign c stands in the text k -/
def inB (k : Str) (c : Nat) : Bool := !(Builtin.Str.occurrences k ⟨#[c]⟩ 0 k.length 1).isEmpty
/-- x in K, K a text of the module's top -/
theorem sgn_in {X : Cx} {scope : Scope} {x g k : Str} {p1 p2 p3 : Pos} (hg : Gc X.K X.mg g (.str k)) (hb : X.base.Ns mainGlobals X.mg) (hk : scope.kind = .function) (hl : scope.names.lookup x = some .local) (hl2 : scope.names.lookup g = some .globalImplicit)
    (hd : (x == ("__debug__" : Str)) = false := by decide) (hd2 : (g == ("__debug__" : Str)) = false := by decide) :
    SgnT X scope x (.Compare (.Name x p1) [.In] [.Name g p2] p3) (inB k) := by
  intro env B xe c t s2 m hs hgl hbk hh hn hm
  obtain ⟨u0, v0, hg, r0, d0⟩ := hg.ex
  obtain rfl : v0 = .str k := by cases d0 (fun _ => none); rfl
  obtain ⟨t0, rfl⟩ := _root_.id r0
  refine wpAny_Compare1 ?_
  refine wpAny_Name (wpAny_loadName_local (by rw [hs]; exact hk) (show env.scope.names.lookup x = some .local by rw [hs]; exact hl) hn hm ?_) hd
  refine Calls.Name_function_global (by rw [hs]; exact hk) (show env.scope.names.lookup g = some .globalImplicit by rw [hs]; exact hl2) (Calls.loadGlobal_global (by rw [hgl]; exact hb.keeps hbk) hg ?_) hd2
  exact PySem.P.in_str ⟨rfl, GxR.keeps_refl _⟩
/-- where a def stands whose code object is known -/
structure DfC (K : Fg) (mg : Str → Option Value) (x : Str) (st : Stmt) (ps : List Str) (c : Addr) : Prop where
  ex : ∃ (f : Addr) (oc kV doc pm ct : Value) (od an : Option Addr) (osl : Array (Option Value)), K.lookup f = some ⟨oc, od, .func (PySem.W.fnOf x x (defArgs st) (defBody st) (defScope st) .none kV doc pm an (.ref c) ct), osl⟩ ∧ PySem.W.codeIn K (.ref c) x = true ∧ mg x = some (.ref f) ∧ PySem.W.keepIn K (.ref f) = true ∧
    Binds K (PySem.W.fnOf x x (defArgs st) (defBody st) (defScope st) .none kV doc pm an (.ref c) ct) ps []
theorem clG_ok {P : Program} {w : World} {K : Fg} {mg : Str → Option Value} {base : Heap} {x : Str} {st : Stmt} {N ps : List Str} {k : Nat} {c : Addr} {F : Ev → Out} (Fn : DfC K mg x st ps c) (S : FnScope N ps (defScope st))
    (body : ∀ (f : Addr) (A : Around) (outer : List Env) (s : Shared) (H : Hp) (E : XK), Inn (cxOf (L2N.CX P w) P w K mg base N x (defScope st) f (.ref c) A outer s H E) (fun cls d _ H => E cls d H) k →
      VSs (cxOf (L2N.CX P w) P w K mg base N x (defScope st) f (.ref c) A outer s H E) (fun cls d _ H => E cls d H) (defBody st) F) :
    Cl P w K mg base (k + 1) x ps (runD ps.length N.length F) := by
  obtain ⟨f, oc, kV, doc, pm, ct, od, an, osl, lk, hcd, hm, hk, hb⟩ := Fn.ex
  exact ⟨f, _, def_okV lk hcd S fun A outer s H E I => body f A outer s H E I, hm, hk, hb⟩
theorem codeHd_mk {K : Fg} {c P : Addr} {dd : Option Addr} {vs : Array Value} {sl : Array (Option Value)} (lk : K.lookup c = some ⟨.type "code", dd, .fields vs, sl⟩) (h11 : vs[11]? = some (.ref P))
    (h : ((match vs.getD 18 .none with | .str _ _ => true | _ => false) && (match vs.getD 7 .none with | .int _ _ => true | _ => false) && (match vs.getD 9 .none with | .bool _ => true | _ => false) && (match vs.getD 10 .none with | .int _ _ => true | _ => false) && c != P) = true) :
    PySem.W.codeHdIn K c P = true := by
  unfold PySem.W.codeHdIn
  rw [lk]
  simp only [h11, beq_self_eq_true, Bool.true_and]
  exact h
theorem tabI_mk {K : Fg} {n : Str} {c P f : Addr} {o : Obj} {fd : FuncData} (h1 : PySem.W.nsIn K mainGlobals n = some (some (.ref f))) (h2 : K.lookup f = some o) (h3 : o.data = .func fd) (h4 : fd.code = .ref c) (hd : PySem.W.codeHdIn K c P = true) (no : K.lookup P = none) : TabI K n c P :=
  ⟨⟨f, o, fd, h1, h2, h3, h4⟩, hd, no⟩
end VL

set_option Elab.async false
set_option linter.all false
set_option maxRecDepth 100000
set_option maxHeartbeats 1000000
set_option autoImplicit false
namespace VL
open PySem PySem.Spec PyProof.Rows L2 L2H

/-! ### a list comprehension while an exception is handled -/
section
variable {X : Cx} {elt tg iter : Expr} {ifs : List Expr} {scope : Scope} {own : List (Str × Nat)} {pos pos' : Pos} {wi : TI} {g : TG} {tt : TT} {te : TE}
end

/-! ### in the value layer -/
section
variable {X : Cx} {W : WX} {elt tg iter a : Expr} {ifs : List Expr} {scope : Scope} {own : List (Str × Nat)} {pos p : Pos} {ts : List Nat} {fi fl : Ev → R (List D)} {g : D → Ev → Option Ev} {ft : Ev → R Bool} {fe : Ev → R D}
end
end VL

set_option Elab.async false
set_option linter.all false
set_option maxRecDepth 100000
set_option maxHeartbeats 1000000
set_option autoImplicit false
namespace VL
open PySem PySem.Spec PyProof.Rows L2
theorem b_ValueError : bootBuiltins "ValueError" = some (.type "ValueError") := by decide +kernel
section
variable {P : Program} {K : Fg} {C fI cc cda : Addr} {name qual : Str} {params : Arguments} {scope : Scope} {txt : Str} {p0 p1 p2 p3 p4 pos : Pos} {k0 : Nat}
  {oc kV doc pm ct ccl ccv : Value} {od an cdd cld : Option Addr} {osl ccs csl : Array (Option Value)} {vs : Array Value} {file : Str} {tf : Tok} {cd : ClassData}
/-- an own class, fact by fact -/
theorem exK_mk (iC : PySem.W.findIn K (.ref C) "__init__" = some (some (.ref fI))) (tI : PySem.W.typeIn K (.ref fI) = some (.type "function"))
    (lk : K.lookup fI = some ⟨oc, od, .func (PySem.W.ksFn name qual params (supBody txt p0 p1 p2 p3 p4 pos k0) scope .none kV doc pm an (.ref cda) ct cc), osl⟩) (code : PySem.W.codeIn K (.ref cda) qual = true)
    (lc : K.lookup cda = some ⟨ccl, cdd, .fields vs, ccs⟩) (fil : vs[2]? = some (.str file tf)) (fe : ((P.main.file : Str) == file) = true) (lcell : K.lookup cc = some ⟨ccv, cld, .cell (some (.ref C)), csl⟩)
    (ini : PySem.W.excInitIn K C PySem.HandSPX.veTail "ValueError.__new__" = true) (cl : PySem.W.clsIn K C = some cd) (sub : PySem.W.mroIn K C (.ref C) = some true) (sup : PySem.W.ks_superIn K C C "__init__" = some (some (.builtin "ValueError.__init__")))
    (subB : PySem.W.subIn K (.ref C) (.type "ValueError") = some true) (exC : PySem.W.subIn K (.ref C) (.type "BaseException") = some true) (tyC : PySem.W.typeIn K (.ref C) = some (.type "type")) (kC : PySem.W.keepIn K (.ref C) = true)
    (op : PySem.W.nsIn K cStatics "thirdparty.any" = some none)
    (hg : PySem.W.findIn K (.ref C) "__getattribute__" = some (some (.builtin "BaseException.__getattribute__"))) (hk : PySem.W.findIn K (.ref C) "__getattr__" = some none) (hd : PySem.W.hasDictIn K C = true)
    (ha : PySem.W.findIn K (.ref C) "__class__" = some (some (.builtin "object.__class__"))) (hn : PySem.W.specialIn K (.builtin "object.__class__") "__get__" = some (some (.builtin "getset_descriptor.__get__")))
    (ht : PySem.W.takesIn K (.builtin "object.__class__") = some true) (hm : PySem.W.mroIn K C (.type "object") = some true)
    (par : (params.posonlyargs ++ params.args).head?.map (·.arg) = some "self")
    (binds : ∀ (kV doc pm ct : Value) (an : Option Addr) (e : Addr) (s : Shared), BindsTo s (PySem.W.ksFn name qual params (supBody txt p0 p1 p2 p3 p4 pos k0) scope .none kV doc pm an (.ref cda) ct cc) ⟨[.ref e], []⟩ [("self", .ref e)])
    (ks : scope.names.lookup ("super" : Str) = some .globalImplicit) (kc : scope.names.lookup ("__class__" : Str) = some .free) (ka : scope.names.lookup ("self" : Str) = some .local) (kind : scope.kind = .function) (co : scope.isCoroutine = false) (gen : scope.isGenerator = false)
    (nc : ∀ x ∈ scope.names, x.2 ≠ .cell) (top : (P.main.scope.names.lookup ("super" : Str)).isSome = false) (ev : SupCall txt p0 p1 p2 p3 p4 k0) : ExK P K C :=
  ⟨⟨_, _, _, _, _, _, _, _, _, _, _, _, _, _, _, ⟨ini, ⟨_, _, _, _, _, _, _, _, lk⟩, code, par, binds, ⟨_, _, _, _, _, _, lc, fil, fe⟩, ⟨_, _, _, lcell⟩, ⟨_, cl⟩, sub, sup, subB, exC, tyC, iC, tI, kC, op, ks, kc, ka, kind, co, gen, nc, top, ev⟩⟩, ⟨hg, hk, exC, hd, ha, hn, ht, hm⟩⟩
end

/-! ### rows -/
@[simp] theorem r_raise (n : Str) (ρ : Ev) : sRaise n ρ = .ex ⟨n, []⟩ ρ := rfl
@[simp] theorem r_anyA (o : Out) : anyA (fun _ => o) = o := anyA_const o
@[simp] theorem r_offR (i : Nat) (r : SD) : offO i (.rt r) = .rt r := rfl
@[simp] theorem r_offN (i : Nat) (ρ : Ev) : offO i (.nx ρ) = .nx (ρ.set i .no) := rfl
@[simp] theorem r_isEx (n : Str) (a : Addr) : isEx n a (exD n a) = true := isEx_self n a
@[simp] theorem r_eIsE (n : Str) (a : Addr) (b : Bool) (f : Ev → R D) (ρ : Ev) : eIsE n a b f ρ = (f ρ).bind fun d => if isEx n a d = true then .ok (.bool b) else .bad := rfl
@[simp] theorem r_eAppX (n k : Nat) (f g : Ev → R (List D)) (ρ : Ev) : eApp n k f g ρ = (f ρ).bind fun a => (g ρ).bind fun b => if a.length = n ∧ b.length = k then .ok (a ++ b) else .bad := id rfl
@[simp] theorem r_is_nn : isD .none .none = some (.bool true) := id rfl
end VL

set_option Elab.async false
set_option linter.all false
set_option maxRecDepth 100000
set_option autoImplicit false
namespace VL
open PySem PySem.Spec PyProof.Rows L2

/-! ### a dict of the top, text keys, flat values -/
structure GD (K : Fg) (w : World) (mg : Str → Option Value) (x : Str) (ks : List Str) (ds : List D) : Prop where
  ex : ∃ a, mg x = some (.ref a) ∧ ∀ k d, selD ks ds (.str k) = some d → ∃ v, KDct K w a k v ∧ ∀ H, Rp K H d v
def eGSel (ks : List Str) (ds : List D) (fk : Ev → R D) : Ev → R D := fun ρ => (fk ρ).bind fun k => ofO (selD ks ds k)
@[simp] theorem r_eGSel (ks : List Str) (ds : List D) (fk : Ev → R D) (ρ : Ev) : eGSel ks ds fk ρ = (fk ρ).bind fun k => ofO (selD ks ds k) := id rfl
section
variable {X : Cx} {W : WX} {i : Expr} {g : Ev → R D} {ks : List Str} {ds : List D}
theorem v_gsel {x : Str} {px pos : Pos} (G : GD X.K X.w X.mg x ks ds) (hi : VE X W i g) (hg : Gl X x := by rfl) (hdb : (x == ("__debug__" : Str)) = false := by decide) (hs : PlainIx i := by exact fun _ _ => rfl) :
    VE X W (.Subscript (.Name x px) i pos) (eGSel ks ds g) := by
  obtain ⟨a, h1, h2⟩ := G.ex
  refine PE.imp (pe_ix ix_kdict (pe_glob (v := .ref a) hg h1 rfl hdb) hi hs) fun σ H Q ⟨S, G, Hs, ρ, r, p⟩ => ?_
  refine ⟨S, G, Hs, ρ, r, (Post.bind p).imp fun k Hs1 H1 e1 q w hw => ?_⟩
  cases z : selD ks ds k with
  | none => rw [z] at q; exact q.elim
  | some d =>
    rw [z] at q
    cases k with
    | str x =>
      cases hw
      obtain ⟨v, kd, hd⟩ := h2 _ _ z
      exact ⟨a, x, v, rfl, rfl, kd, q.now e1.sub v (hd _)⟩
    | none => cases z
    | bool _ => cases z
    | int _ => cases z
    | list _ => cases z
    | tuple _ => cases z
    | dict _ => cases z
end
def GAll (K : Fg) (a : Addr) : List Str → List D → Prop
  | k :: ks, d :: ds => (∃ u v, PySem.W.nsIn K a k = some (some u) ∧ absD' u = some (d, v)) ∧ GAll K a ks ds
  | _, _ => True
theorem sel_mem {k : Str} {d : D} : ∀ {ks : List Str} {ds : List D} {acc : Option D}, (ks.zip ds).foldl (fun acc p => if k = p.1 then some p.2 else acc) acc = some d → acc = some d ∨ (k, d) ∈ ks.zip ds
  | [], _, acc, h => .inl h
  | _ :: _, [], acc, h => .inl h
  | k' :: ks, d' :: ds, acc, h => by
    rw [List.zip_cons_cons, List.foldl_cons] at h
    rcases sel_mem h with h | h
    · simp only at h
      split at h
      · rename_i e
        cases h
        subst e
        exact .inr (by simp)
      · exact .inl h
    · exact .inr (by rw [List.zip_cons_cons]; exact List.mem_cons_of_mem _ h)
theorem gall_mem {K : Fg} {a : Addr} {k : Str} {d : D} : ∀ {ks : List Str} {ds : List D}, GAll K a ks ds → (k, d) ∈ ks.zip ds → ∃ u v, PySem.W.nsIn K a k = some (some u) ∧ absD' u = some (d, v)
  | [], _, _, h => by simp at h
  | _ :: _, [], _, h => by simp at h
  | k' :: ks, d' :: ds, g, h => by
    rw [List.zip_cons_cons, List.mem_cons] at h
    rcases h with h | h
    · cases h; exact g.1
    · exact gall_mem g.2 h
theorem gd_mk {K : Fg} {w : World} {mg : Str → Option Value} {x : Str} {a : Addr} {es : Array DictEntry} {n : Nat} {ks : List Str} {ds : List D} (h : mg x = some (.ref a)) (hk : K.lookup a = some ⟨.type "dict", none, .dict es n, #[]⟩) (hl : PySem.W.KeysLit w.params es.toList) (g : GAll K a ks ds) :
    GD K w mg x ks ds := ⟨a, h, fun k d e => by
  rcases sel_mem (show (ks.zip ds).foldl (fun acc p => if k = p.1 then some p.2 else acc) none = some d from e) with z | z
  · cases z
  · obtain ⟨u, v, h1, h2⟩ := gall_mem g z
    obtain ⟨r1, r2⟩ := absD'_ok (K := K) h2
    exact ⟨v, ⟨es, n, u, hk, hl, h1, r1⟩, r2⟩⟩
end VL

set_option Elab.async false
set_option linter.all false
set_option maxRecDepth 100000
set_option autoImplicit false
namespace VL
open PySem PySem.Spec PyProof.Rows L2

/-! ### tags -/
mutual
def un : D → D
  | .list l => .list (unL l)
  | .tuple l => .tuple (unL l)
  | .dict [(.int _, .list l)] => .list (unL l)
  | .none => .none
  | .bool b => .bool b
  | .int i => .int i
  | .str s => .str s
  | .dict k => .dict k
def unL : List D → List D
  | [] => []
  | d :: l => un d :: unL l
end
mutual
def old : D → D
  | .list l => tf (oldL l)
  | .tuple l => .tuple (oldL l)
  | .none => .none
  | .bool b => .bool b
  | .int i => .int i
  | .str s => .str s
  | .dict k => .dict k
def oldL : List D → List D
  | [] => []
  | d :: l => old d :: oldL l
end
mutual
def isOld : D → Bool
  | .list _ => false
  | .tuple l => isOldL l
  | .dict [(.int 1, .list l)] => isOldL l
  | .dict _ => false
  | _ => true
def isOldL : List D → Bool
  | [] => true
  | d :: l => isOld d && isOldL l
end
theorem un_tg (l : List D) : un (tg l) = .list (unL l) := by simp [un, tg]
theorem un_tf (l : List D) : un (tf l) = .list (unL l) := by simp [un, tf]
theorem isOld_tf (l : List D) : isOld (tf l) = isOldL l := by simp [isOld, tf]
theorem isOld_tg (l : List D) : isOld (tg l) = false := by simp [isOld, tg]
section
variable {K : Fg} {H : Hp}
mutual
theorem Rp.un : ∀ {d : D} {v : V}, Rp K H d v → Rp K H (un d) v
  | _, _, .non => by simp only [VL.un]; exact .non
  | _, _, .bl b => by simp only [VL.un]; exact .bl b
  | _, _, .int i => by simp only [VL.un]; exact .int i
  | _, _, .str x => by simp only [VL.un]; exact .str x
  | _, _, .lst h r => by simp only [VL.un]; exact .lst h (RpL.un r)
  | _, _, .tup h r => by simp only [VL.un]; exact .tup h (RpL.un r)
  | _, _, .nl h r => by rw [un_tg]; exact .lst (.inl (.inl h)) (RpL.un r)
  | _, _, .fl h r => by rw [un_tf]; exact .lst h.seq (RpL.un r)
  | _, _, .dk h l r => by simp only [dkD, VL.un]; exact .dk h l r
  | _, _, .exn a n => by simp only [exD, VL.un]; exact .exn a n
  | _, _, .xob c h f l r => by simp only [xoD, VL.un]; exact .xob c h f l r
  | _, _, .exf h l r => by simp only [exfD, VL.un]; exact .exf h l r
theorem RpL.un : ∀ {d : List D} {v : List V}, RpL K H d v → RpL K H (unL d) v
  | _, _, .nil => by simp only [VL.unL]; exact .nil
  | _, _, .cons h r => by simp only [VL.unL]; exact .cons (Rp.un h) (RpL.un r)
end
end
/-- read without tags -/
def eUn (f : Ev → R D) : Ev → R D := fun ρ => (f ρ).bind fun d => .ok (un d)
/-- a new list, frozen at once, known to be new -/
def eLstN (f : Ev → R (List D)) : Ev → R D := fun ρ => (f ρ).bind fun l => .ok (tg l)
section
variable {X : Cx} {W : WX} {e : Expr} {f : Ev → R D} {fl : Ev → R (List D)} {st : Stmt} {F : Ev → Out}
theorem VE.un (h : VE X W e f) : VE X W e (eUn f) := PE.imp h fun σ H Q ⟨S, G, Hs, ρ, r, p⟩ => ⟨S, G, Hs, ρ, r, (Post.bind p).imp fun d Hs' H' e q v hv => q.now e.sub v (Rp.un hv)⟩
theorem VP.un (h : VP X W e f) : VP X W e (eUn f) := PE.imp h fun σ H Q ⟨S, G, Hs, ρ, r, p⟩ => ⟨S, G, Hs, ρ, r, (Post.bind p).imp fun d Hs' H' e q v hv => q.now e.sub v (by
  rcases hv with hv | ⟨l, a, xs, rfl, rfl, h3, h4⟩
  · exact .inl (Rp.un hv)
  · exact .inr ⟨unL l, a, xs, by simp [VL.un], rfl, h3, RpL.un h4⟩)⟩
theorem VO.vn (h : VO X W e fl) : VE X W e (eLstN fl) := PE.imp h fun σ H Q ⟨S, G, Hs, ρ, r, p⟩ => ⟨S, G, Hs, ρ, r, by
  unfold eLstN at p
  cases q : fl ρ with
  | bad => rw [q] at p; exact p
  | ex x => rw [q] at p; exact p
  | ok l =>
    rw [q] at p
    refine fun Hs' H' e p' vs h0 h1 h2 h3 => ?_
    exact p _ _ (e.frz h0 h2 h1) _ (.nl upd_same (h3.mono fun b u z => by rw [upd_ne (ne_of_none z h1)]; exact z))⟩
end

/-! ### all that stands is coloured: what is new afterwards can be told -/
def colH (h : Heap) (Hs H : Hp) : Hp := fun a => match Hs a with
  | some (.lst xs) => (match h.get? a with
    | some o => some (.frz o (.lst xs))
    | none => H a)
  | _ => H a
theorem colH_lst {h : Heap} {Hs H : Hp} {a : Addr} {xs : List V} {o : Obj} (e : Hs a = some (.lst xs)) (e2 : h.get? a = some o) : colH h Hs H a = some (.frz o (.lst xs)) := by
  unfold colH; rw [e]; simp only [e2]
theorem colH_ne {h : Heap} {Hs H : Hp} {a : Addr} (e : ∀ xs, Hs a ≠ some (.lst xs)) : colH h Hs H a = H a := by
  unfold colH
  split
  · rename_i xs q; exact (e xs q).elim
  · rfl
/-- the lists of Hs lie in h -/
def LstIn (h : Heap) (Hs : Hp) : Prop := ∀ a xs, Hs a = some (.lst xs) → ∃ o, h.get? a = some o
section
variable {K : Fg} {h : Heap} {Hs : Hp}
mutual
theorem Rp.col (c : LstIn h Hs) : ∀ {d : D} {v : V}, Rp K Hs d v → d.hasDict = false → Rp K (colH h Hs Hs) (old d) v
  | _, _, .non, _ => by simp only [old]; exact .non
  | _, _, .bl b, _ => by simp only [old]; exact .bl b
  | _, _, .int i, _ => by simp only [old]; exact .int i
  | _, _, .str x, _ => by simp only [old]; exact .str x
  | _, _, .lst q r, n => by
    simp only [old]
    refine .fl ?_ (RpL.col c r (by unfold PyData.hasDict at n; exact n))
    rcases q with (q | ⟨o, q⟩) | q
    · obtain ⟨o, ho⟩ := c _ _ q
      exact .inl ⟨o, colH_lst q ho⟩
    · exact .inl ⟨o, by rw [colH_ne (fun xs z => by rw [q] at z; cases z)]; exact q⟩
    · exact .inr q
  | _, _, .tup q r, n => by
    simp only [old]
    refine .tup ?_ (RpL.col c r (by unfold PyData.hasDict at n; exact n))
    rcases q with (q | ⟨o, q⟩) | q
    · exact .inl (.inl (by rw [colH_ne (fun xs z => by rw [q] at z; cases z)]; exact q))
    · exact .inl (.inr ⟨o, by rw [colH_ne (fun xs z => by rw [q] at z; cases z)]; exact q⟩)
    · exact .inr q
  | _, _, .nl q r, n => by simp [tg, PyData.hasDict] at n
  | _, _, .fl q r, n => by simp [tf, PyData.hasDict] at n
  | _, _, .dk q l r, n => by simp [dkD, PyData.hasDict] at n
theorem RpL.col (c : LstIn h Hs) : ∀ {d : List D} {v : List V}, RpL K Hs d v → PyData.hasDictAll d = false → RpL K (colH h Hs Hs) (oldL d) v
  | _, _, .nil, _ => by simp only [oldL]; exact .nil
  | _, _, .cons q r, n => by
    unfold PyData.hasDictAll at n
    rw [Bool.or_eq_false_iff] at n
    simp only [oldL]
    exact .cons (Rp.col c q n.1) (RpL.col c r n.2)
end
end
def colS : SD → SD
  | .sh d => if d.hasDict then .no else .sh (old d)
  | .ow l => if PyData.hasDictAll l then .no else .ow (oldL l)
  | _ => .no
def colE (ρ : Ev) : Ev := ρ.map colS
def IsOwn (σ : Sg) (ρ : Ev) (a : Addr) : Prop := ∃ (i : Nat) (l : List D), ρ[i]? = some (.ow l) ∧ σ[i]? = some (some (.ref a))
open Classical in
noncomputable def noOwn (σ : Sg) (ρ : Ev) (H : Hp) : Hp := fun a => if IsOwn σ ρ a then none else H a
theorem RelE.col {K : Fg} {S Hs H : Hp} {G : Gx} {σ : Sg} {ρ : Ev} {h : Heap} (c : LstIn h Hs) (r : RelE K S G Hs H σ ρ) :
    RelE K (colH h Hs Hs) ⟨noOwn σ ρ (colH h Hs H), fun _ => none⟩ (colH h Hs Hs) (colH h Hs H) σ (colE ρ) where
  sub := fun b u q => by
    by_cases z : ∃ xs, Hs b = some (.lst xs)
    · obtain ⟨xs, z⟩ := z
      obtain ⟨o, ho⟩ := c _ _ z
      rw [colH_lst z ho] at q ⊢; exact q
    · rw [colH_ne (fun xs y => z ⟨xs, y⟩)] at q ⊢; exact r.sub b u q
  old := fun b u q => by
    show colH h Hs H b = some u
    have q : noOwn σ ρ (colH h Hs H) b = some u := q
    unfold noOwn at q
    split at q
    · cases q
    · exact q
  ext := ⟨.refl _, fun P t => (colH_ne (fun xs z => by rw [r.tabs P t] at z; cases z)).trans (r.tabs P t)⟩
  new := fun p o a b => by rw [a] at b; cases b
  len := by rw [← r.len]; simp [colE]
  slot := fun i s hs => by
    unfold colE at hs
    rw [List.getElem?_map] at hs
    obtain ⟨s0, e1, rfl⟩ := Option.map_eq_some_iff.mp hs
    cases s0 with
    | no => trivial
    | bo l => trivial
    | sh d =>
      by_cases z : d.hasDict = true
      · rw [show colS (.sh d) = .no from if_pos z]; trivial
      · rw [show colS (.sh d) = .sh (VL.old d) from if_neg z]
        obtain ⟨v, e2, e3⟩ := r.get e1
        exact ⟨v, e2, Rp.col c e3 (by simpa using z)⟩
    | ow l =>
      by_cases z : PyData.hasDictAll l = true
      · rw [show colS (.ow l) = .no from if_pos z]; trivial
      · rw [show colS (.ow l) = .ow (oldL l) from if_neg z]
        obtain ⟨p, vs, f1, f2, f3, f4, f5, _⟩ := r.own' e1
        have n : ∀ xs, Hs p ≠ some (.lst xs) := fun xs y => by rw [f3] at y; cases y
        refine ⟨p, vs, f1, ?_, by rw [colH_ne n]; exact f3, by rw [colH_ne n]; exact f4, RpL.col c f5 (by simpa using z), fun j y => by cases y⟩
        show noOwn σ ρ (colH h Hs H) p = none
        unfold noOwn
        rw [if_pos ⟨i, l, e1, f1⟩]
  bor := fun i p hp => by cases hp
  one := fun i j p hp => by cases hp
  dis := fun i j l m p a b x y => by
    have go : ∀ (k : Nat) (n : List D), (colE ρ)[k]? = some (.ow n) → ∃ n', ρ[k]? = some (.ow n') := fun k n q => by
      unfold colE at q
      rw [List.getElem?_map] at q
      obtain ⟨s0, e1, e2⟩ := Option.map_eq_some_iff.mp q
      cases s0 with
      | ow l => exact ⟨l, e1⟩
      | no => cases e2
      | bo l => cases e2
      | sh d =>
        by_cases z : d.hasDict = true
        · rw [show colS (.sh d) = .no from if_pos z] at e2; cases e2
        · rw [show colS (.sh d) = .sh (VL.old d) from if_neg z] at e2; cases e2
    obtain ⟨l', a'⟩ := go i l a
    obtain ⟨m', b'⟩ := go j m b
    exact r.dis i j l' m' p a' b' x y

/-! ### the rule: from here on what is new can be told; it must end with flat data -/
def NoLst (S : Hp) : Prop := ∀ a xs, S a ≠ some (.lst xs)
def flat : D → Bool
  | .none => true
  | .bool _ => true
  | .int _ => true
  | .str _ => true
  | _ => false
section
variable {X : Cx} {W : WX} {st : Stmt} {sts rest : List Stmt} {F F' : Ev → Out}
theorem colH_no {h : Heap} {Hs H : Hp} {b : Addr} (s : Same Hs H) (e : H b = none) : colH h Hs H b = none := by
  rw [colH_ne fun xs z => by rw [s _ _ z] at e; cases e]; exact e
theorem Inv.col {pins : List (Addr × Obj)} {σ : Sg} {H Hs : Hp} {s : Shared} (s1 : Same Hs H) (I : Inv X pins σ H s) : Inv X pins σ (colH s.heap Hs H) s := by
  have keepT : ∀ b u, H b = some u → (∀ xs, u ≠ .lst xs) → colH s.heap Hs H b = some u := fun b u e n => by
    rw [colH_ne fun xs z => by rw [s1 _ _ z] at e; cases e; exact n xs rfl]; exact e
  refine I.un (t' := s.toks) (h' := s.heap) ⟨fun b o e _ _ _ => e, fun b o e _ _ _ => ⟨o.slots, e⟩, fun b o e n _ => colH_no s1 n, fun b o e _ => ⟨o, e⟩, fun b xs e => keepT b _ e (fun _ z => by cases z), fun b o u e => keepT b _ e (fun _ z => by cases z), fun b ps e => ⟨#[], by rw [keepT b _ e (fun _ z => by cases z)]; simp⟩⟩ fun a u e => ?_
  by_cases z : ∃ xs, Hs a = some (.lst xs)
  · obtain ⟨xs, z⟩ := z
    have ok := I.hok a _ (s1 _ _ z)
    obtain ⟨q1, its, n, q2, q3⟩ := ok
    rw [colH_lst z q3] at e
    cases e
    exact ⟨q3, q1, its, n, q2, q3⟩
  · rw [colH_ne fun xs y => z ⟨xs, y⟩] at e
    exact (I.hok a u e).stay (fun b o _ e => e) (fun b e => keepT b _ e (fun _ z => by cases z)) (fun b xs e => keepT b _ e (fun _ z => by cases z))
end
end VL

set_option Elab.async false
set_option linter.all false
set_option maxRecDepth 100000
set_option autoImplicit false
namespace VL
open PySem PySem.Spec PyProof.Rows L2

/-! ### lists that are changed, told by kinds -/
inductive Kd where
  | po | co | ro
/-- what stays; the kinds of the lists that are changed; how often the first ones may still grow; how long the second ones are -/
structure Gh where
  B : Hp
  κ : Addr → Option Kd
  f : Nat
  nc : Nat
def TRow (K : Fg) (g : Gh) (x : V) : Prop := ∃ p c q s, x = .ref p ∧ SqT K g.B p [.ref c, .ref q, s] ∧ g.κ c = some .co ∧ g.κ q = some .po
def TAt (K : Fg) (g : Gh) (x : V) : Prop := (∃ p q s, x = .ref p ∧ SqT K g.B p [.str "sign", .ref q, s] ∧ g.κ q = some .po) ∨ (∃ p m r, x = .ref p ∧ SqT K g.B p [.str "some", m, .ref r] ∧ g.κ r = some .ro)
structure TH (K : Fg) (g : Gh) (H : Hp) : Prop where
  sub : Same g.B H
  off : ∀ a k, g.κ a = some k → g.B a = none
  po : ∀ a, g.κ a = some .po → ∃ xs, H a = some (.lst xs) ∧ xs.length + g.f ≤ sizeLine
  co : ∀ a, g.κ a = some .co → ∃ xs, H a = some (.lst xs) ∧ xs.length ≤ g.nc ∧ ∀ x ∈ xs, ∃ b, x = .ref b ∧ g.κ b = some .po
  ro : ∀ a, g.κ a = some .ro → ∃ xs, H a = some (.lst xs) ∧ xs.length ≤ 5 ∧ ∀ x ∈ xs, TRow K g x
  fu : g.f + 10 ≤ sizeLine
  nb : g.nc ≤ 1000
structure Le (g g' : Gh) : Prop where
  b : Same g.B g'.B
  k : ∀ a k, g.κ a = some k → g'.κ a = some k
theorem Le.refl (g : Gh) : Le g g := ⟨.refl _, fun _ _ h => h⟩
theorem Le.trans {a b c : Gh} (x : Le a b) (y : Le b c) : Le a c := ⟨x.b.trans y.b, fun i k h => y.k i k (x.k i k h)⟩
section
variable {K : Fg} {g g' : Gh} {H : Hp}
theorem TRow.mono {x : V} (l : Le g g') (h : TRow K g x) : TRow K g' x := by
  obtain ⟨p, c, q, s, e, h1, h2, h3⟩ := h
  exact ⟨p, c, q, s, e, SqT.mono l.b h1, l.k _ _ h2, l.k _ _ h3⟩
theorem TAt.mono {x : V} (l : Le g g') (h : TAt K g x) : TAt K g' x := by
  rcases h with ⟨p, q, s, e, h1, h2⟩ | ⟨p, m, r, e, h1, h2⟩
  · exact .inl ⟨p, q, s, e, SqT.mono l.b h1, l.k _ _ h2⟩
  · exact .inr ⟨p, m, r, e, SqT.mono l.b h1, l.k _ _ h2⟩
theorem TH.clear (t : TH K g H) {a : Addr} (h : g.κ a = some .ro) : ∃ xs, H a = some (.lst xs) ∧ TH K g (upd H a (.lst [])) := by
  obtain ⟨xs, e, _, _⟩ := t.ro a h
  have nb := t.off a _ h
  refine ⟨xs, e, fun b u q => ?_, t.off, fun c hc => ?_, fun c hc => ?_, fun c hc => ?_, t.fu, t.nb⟩
  · rw [upd_ne (ne_of_none q nb)]; exact t.sub b u q
  · have z : c ≠ a := fun z => by subst z; rw [hc] at h; cases h
    obtain ⟨ys, e2, r⟩ := t.po c hc
    exact ⟨ys, by rw [upd_ne z]; exact e2, r⟩
  · have z : c ≠ a := fun z => by subst z; rw [hc] at h; cases h
    obtain ⟨ys, e2, r⟩ := t.co c hc
    exact ⟨ys, by rw [upd_ne z]; exact e2, r⟩
  · by_cases z : c = a
    · subst z; exact ⟨[], upd_same, by simp, by simp⟩
    · obtain ⟨ys, e2, r1, r2⟩ := t.ro c hc
      exact ⟨ys, by rw [upd_ne z]; exact e2, r1, r2⟩
/-! ### def _law_spoil_atom -/
end
end VL

set_option Elab.async false
set_option linter.all false
set_option maxRecDepth 100000
set_option autoImplicit false
namespace VL
open PySem PySem.Spec PyProof.Rows L2

/-! ### kinds, from tagged data -/
def PolyN (d : D) : Prop := ∃ l, d = tg l ∧ l.length ≤ 100 ∧ ∀ x ∈ l, ∃ i : Int, x = .int i
def CoN (d : D) : Prop := ∃ l, d = tg l ∧ l ≠ [] ∧ l.length ≤ 2 ∧ ∀ x ∈ l, PolyN x
def RowN (d : D) : Prop := ∃ c q s, d = .tuple [c, q, .str s] ∧ CoN c ∧ PolyN q
def RowsN (d : D) : Prop := ∃ l, d = tg l ∧ l ≠ [] ∧ l.length ≤ 5 ∧ ∀ x ∈ l, RowN x
def AtN (d : D) : Prop := (∃ q s, d = .tuple [.str "sign", q, .str s] ∧ PolyN q) ∨ (∃ m r, d = .tuple [.str "some", .int m, r] ∧ RowsN r)
def hPo (Hs : Hp) (a : Addr) : Prop := ∃ xs : List V, Hs a = some (.lst xs) ∧ xs.length ≤ 100 ∧ ∀ x ∈ xs, ∃ i : Int, x = .int i
def hCo (Hs : Hp) (a : Addr) : Prop := ∃ xs : List V, Hs a = some (.lst xs) ∧ xs ≠ [] ∧ xs.length ≤ 2 ∧ ∀ x ∈ xs, ∃ b, x = .ref b ∧ hPo Hs b
def hRo (K : Fg) (Hs : Hp) (a : Addr) : Prop := ∃ xs : List V, Hs a = some (.lst xs) ∧ xs ≠ [] ∧ xs.length ≤ 5 ∧ ∀ x ∈ xs, ∃ p c q s, x = .ref p ∧ SqT K Hs p [.ref c, .ref q, s] ∧ hCo Hs c ∧ hPo Hs q
/-- what the written part and the heap say together -/
structure NoK (K : Fg) (H : Hp) : Prop where
  lt : ∀ p xs ys, H p = some (.lst ys) → ¬ SqT K H p xs
  ut : ∀ p xs ys, SqT K H p xs → SqT K H p ys → ∃ us, Vals xs us ∧ Vals ys us
theorem RpL.back {K : Fg} {H : Hp} : ∀ {l : List D} {xs : List V}, RpL K H l xs → ∀ x ∈ xs, ∃ d ∈ l, Rp K H d x
  | _, _, .nil, x, hx => by simp at hx
  | _, _, .cons h r, x, hx => by
    rcases List.mem_cons.mp hx with rfl | hx
    · exact ⟨_, by simp, h⟩
    · obtain ⟨d, hd, h'⟩ := RpL.back r x hx
      exact ⟨d, by simp [hd], h'⟩
section
variable {K : Fg} {Hs : Hp}
theorem RpL.ne {l : List D} {xs : List V} (r : RpL K Hs l xs) (h : l ≠ []) : xs ≠ [] := fun z => by
  subst z
  cases r
  exact h rfl
end
/-! ### the kinds of a heap -/
open Classical in
noncomputable def kOf (K : Fg) (Hs : Hp) : Addr → Option Kd := fun a => if hPo Hs a then some .po else if hCo Hs a then some .co else if hRo K Hs a then some .ro else none
section
variable {K : Fg} {Hs H : Hp}
theorem kOf_back {a : Addr} {q : Kd} (h : kOf K Hs a = some q) : (q = .po ∧ hPo Hs a) ∨ (q = .co ∧ hCo Hs a) ∨ (q = .ro ∧ hRo K Hs a) := by
  unfold kOf at h
  split at h
  · rename_i z; cases h; exact .inl ⟨rfl, z⟩
  · split at h
    · rename_i z; cases h; exact .inr (.inl ⟨rfl, z⟩)
    · split at h
      · rename_i z; cases h; exact .inr (.inr ⟨rfl, z⟩)
      · cases h
theorem kOf_lst {a : Addr} {q : Kd} (h : kOf K Hs a = some q) : ∃ xs, Hs a = some (.lst xs) := by
  rcases kOf_back h with ⟨_, xs, e, _⟩ | ⟨_, xs, e, _⟩ | ⟨_, xs, e, _⟩ <;> exact ⟨xs, e⟩
open Classical in
noncomputable def g0 (K : Fg) (Hs H : Hp) : Gh := ⟨fun a => if kOf K Hs a = none then H a else none, kOf K Hs, sizeLine - 1000, 2⟩
theorem g0_B {a : Addr} {u : HO} (h : kOf K Hs a = none) (e : H a = some u) : (g0 K Hs H).B a = some u := by
  show (if kOf K Hs a = none then H a else none) = some u
  rw [if_pos h]; exact e
end
end VL

set_option Elab.async false
set_option linter.all false
set_option maxRecDepth 100000
set_option autoImplicit false
namespace VL
open PySem PySem.Spec PyProof.Rows L2

/-! ### def _law_spoil_atom: its promise -/
def spY (K : Fg) : Sp := fun vs H Q E => vs.length = 1 ∧ ∃ g v, vs = [v] ∧ TH K g H ∧ TAt K g v ∧ 5000 ≤ g.f ∧ g.nc ≤ 305 ∧ ∀ g' H', Le g g' → TH K g' H' → g.f ≤ g'.f + 2000 → g'.nc ≤ g.nc + 5 → Q .non H'
structure ClY (P : Program) (w : World) (K : Fg) (mg : Str → Option Value) (base : Heap) (k : Nat) (x : Str) (ps : List Str) : Prop where
  ex : ∃ f fd, FnG P w K mg base k f fd ps (spY K) ∧ mg x = some (.ref f) ∧ PySem.W.keepIn K (.ref f) = true ∧ Binds K fd ps []
/-! ### for a in e: _law_spoil_atom(a) -/
def keepS : SD → SD
  | .sh d => if isOld d then .sh d else .no
  | .ow l => if isOldL l then .ow l else .no
  | _ => .no
def keepE (ρ : Ev) : Ev := ρ.map keepS
open Classical in
/-- the shared part without what may change -/
noncomputable def lowH (S Hs : Hp) : Hp := fun a => if S a = none then (match Hs a with
  | some (.lst _) => none
  | o => o) else S a
section
variable {K : Fg} {S Hs : Hp}
theorem lowH_keep {a : Addr} {u : HO} (e : Same S Hs) (h : Hs a = some u) (n : ∀ xs, u ≠ .lst xs) : lowH S Hs a = some u := by
  unfold lowH
  by_cases z : S a = none
  · rw [if_pos z, h]
    cases u <;> first | rfl | exact (n _ rfl).elim
  · rw [if_neg z]
    cases y : S a with
    | none => exact (z y).elim
    | some w => have := e _ _ y; rw [h] at this; cases this; rfl
theorem lowH_back {a : Addr} {u : HO} (nl : NoLst S) (e : Same S Hs) (h : lowH S Hs a = some u) : Hs a = some u ∧ ∀ xs, u ≠ .lst xs := by
  unfold lowH at h
  by_cases z : S a = none
  · rw [if_pos z] at h
    cases y : Hs a with
    | none => rw [y] at h; cases h
    | some w =>
      rw [y] at h
      cases w <;> first | (cases h; exact ⟨rfl, fun xs z => by cases z⟩) | cases h
  · rw [if_neg z] at h
    exact ⟨e _ _ h, fun xs w => by rw [w] at h; exact nl _ _ h⟩
mutual
theorem Rp.low (e : Same S Hs) : ∀ {d : D} {v : V}, Rp K Hs d v → isOld d = true → Rp K (lowH S Hs) d v
  | _, _, .non, _ => .non
  | _, _, .bl b, _ => .bl b
  | _, _, .int i, _ => .int i
  | _, _, .str x, _ => .str x
  | _, _, .lst _ _, n => by simp [isOld] at n
  | _, _, .tup q r, n => by
    refine .tup ?_ (RpL.low e r (by simpa [isOld] using n))
    rcases q with (q | ⟨o, q⟩) | q
    · exact .inl (.inl (lowH_keep e q (fun xs z => by cases z)))
    · exact .inl (.inr ⟨o, lowH_keep e q (fun xs z => by cases z)⟩)
    · exact .inr q
  | _, _, .nl q r, n => by rw [isOld_tg] at n; cases n
  | _, _, .fl q r, n => by
    rw [isOld_tf] at n
    refine .fl ?_ (RpL.low e r n)
    rcases q with ⟨o, q⟩ | q
    · exact .inl ⟨o, lowH_keep e q (fun xs z => by cases z)⟩
    · exact .inr q
  | _, _, .dk q l r, n => by simp [dkD, isOld] at n
theorem RpL.low (e : Same S Hs) : ∀ {d : List D} {v : List V}, RpL K Hs d v → isOldL d = true → RpL K (lowH S Hs) d v
  | _, _, .nil, _ => .nil
  | _, _, .cons q r, n => by
    simp only [isOldL, Bool.and_eq_true] at n
    exact .cons (Rp.low e q n.1) (RpL.low e r n.2)
end
/-- behind the changes -/
theorem RelE.low {H H' : Hp} {G : Gx} {σ σ' : Sg} {ρ : Ev} {i : Nat} {g : Gh} (nl : NoLst S) (r : RelE K S G Hs H σ ρ) (l : Le (g0 K Hs H) g) (t : TH K g H') (hl : σ'.length = σ.length) (hs : ∀ j, j ≠ i → σ'[j]? = σ[j]?) :
    RelE K S G (lowH S Hs) H' σ' (keepE (ρ.set i .no)) := by
  have stay : ∀ {a u}, H a = some u → kOf K Hs a = none → H' a = some u := fun {a u} e k => t.sub _ _ (l.b _ _ (g0_B k e))
  have kno : ∀ {a}, Hs a = none → kOf K Hs a = none := fun {a} e => by
    cases z : kOf K Hs a with
    | none => rfl
    | some q => obtain ⟨xs, y⟩ := kOf_lst z; rw [e] at y; cases y
  have get : ∀ (j : Nat) (s : SD), (keepE (ρ.set i .no))[j]? = some s → s = .no ∨ (j ≠ i ∧ ∃ s0, ρ[j]? = some s0 ∧ s = keepS s0) := fun j s h => by
    unfold keepE at h
    rw [List.getElem?_map] at h
    obtain ⟨s0, h1, rfl⟩ := Option.map_eq_some_iff.mp h
    rcases set_get h1 with ⟨_, _, rfl⟩ | ⟨hj, h1⟩
    · exact .inl rfl
    · exact .inr ⟨hj, s0, h1, rfl⟩
  have ownk : ∀ (s0 : SD) (m : List D), keepS s0 = .ow m → s0 = .ow m := fun s0 m h => by
    cases s0 with
    | ow l =>
      by_cases z : isOldL l = true
      · rw [show keepS (.ow l) = .ow l from if_pos z] at h; exact h
      · rw [show keepS (.ow l) = .no from if_neg z] at h; cases h
    | sh d =>
      by_cases z : isOld d = true
      · rw [show keepS (.sh d) = .sh d from if_pos z] at h; cases h
      · rw [show keepS (.sh d) = .no from if_neg z] at h; cases h
    | no => cases h
    | bo l => cases h
  refine ⟨fun b u e => ?_, fun b u e => ?_, ⟨fun b u e => ?_, r.ext.tab⟩, fun p o e n => ?_, ?_, fun j s h => ?_, fun j p hp => ?_, r.one, fun j k m n p a b c d => ?_⟩
  · obtain ⟨e1, e2⟩ := lowH_back nl r.ext.sub e
    refine stay (r.sub _ _ e1) ?_
    cases z : kOf K Hs b with
    | none => rfl
    | some q => obtain ⟨xs, y⟩ := kOf_lst z; rw [e1] at y; cases y; exact (e2 xs rfl).elim
  · refine stay (r.old _ _ e) ?_
    cases z : kOf K Hs b with
    | none => rfl
    | some q =>
      obtain ⟨xs, y⟩ := kOf_lst z
      have sn : S b = none := by
        cases w : S b with
        | none => rfl
        | some u' => have := r.ext.sub _ _ w; rw [y] at this; cases this; exact (nl _ _ w).elim
      have := r.new _ _ y sn
      rw [e] at this; cases this
  · exact lowH_keep r.ext.sub (r.ext.sub _ _ e) (fun xs z => by subst z; exact nl _ _ e)
  · exact r.new p o (lowH_back nl r.ext.sub e).1 n
  · unfold keepE; rw [List.length_map, List.length_set, r.len, hl]
  · rcases get j s h with rfl | ⟨hj, s0, h0, rfl⟩
    · trivial
    · have q := r.slot j s0 h0
      rw [hs j hj]
      cases s0 with
      | no => trivial
      | bo l => trivial
      | sh d =>
        by_cases z : isOld d = true
        · rw [show keepS (.sh d) = .sh d from if_pos z]
          obtain ⟨v, q1, q2⟩ := q
          exact ⟨v, q1, Rp.low r.ext.sub q2 z⟩
        · rw [show keepS (.sh d) = .no from if_neg z]; trivial
      | ow l =>
        by_cases z : isOldL l = true
        · rw [show keepS (.ow l) = .ow l from if_pos z]
          obtain ⟨p, xs, f1, f2, f3, f4, f5, f6⟩ := q
          refine ⟨p, xs, f1, f2, ?_, stay f4 (kno f3), RpL.low r.ext.sub f5 z, f6⟩
          cases y : lowH S Hs p with
          | none => rfl
          | some u => have := (lowH_back nl r.ext.sub y).1; rw [f3] at this; cases this
        · rw [show keepS (.ow l) = .no from if_neg z]; trivial
  · obtain ⟨h1, h2, h3⟩ := r.bor j p hp
    refine ⟨h1, ?_, ?_⟩
    · cases y : lowH S Hs p with
      | none => rfl
      | some u => have := (lowH_back nl r.ext.sub y).1; rw [h2] at this; cases this
    · cases y : H p with
      | none => exact (h3 y).elim
      | some u => rw [stay y (kno h2)]; simp
  · rcases get j _ a with z | ⟨hj, s0, h0, z⟩
    · cases z
    · rcases get k _ b with z' | ⟨hk, s1, h1, z'⟩
      · cases z'
      · have e0 := ownk s0 m z.symm
        have e1 := ownk s1 n z'.symm
        subst e0; subst e1
        rw [hs j hj] at c
        rw [hs k hk] at d
        exact r.dis j k m n p h0 h1 c d
end
section
variable {X : Cx} {W : WX} {iter : Expr} {rest : List Stmt} {f : Ev → R D} {F : Ev → Out} {i j k : Nat} {x y : Str} {px p1 p2 p3 p4 pos : Pos} {ps : List Str}
end
end VL

set_option Elab.async false
set_option linter.all false
set_option maxRecDepth 100000
set_option autoImplicit false
namespace VL
open PySem PySem.Spec PyProof.Rows L2

/-! ### a dict of text keys, held by a name -/
def keysOf : List (D × D) → Option (List Str × List D)
  | [] => some ([], [])
  | (.str k, d) :: r => (keysOf r).map fun p => (k :: p.1, d :: p.2)
  | _ => none
theorem keysOf_zip : ∀ {ks : List Str} {ds : List D}, ds.length = ks.length → keysOf ((ks.map fun k => PyData.str k).zip ds) = some (ks, ds)
  | [], [], _ => rfl
  | k :: ks, d :: ds, h => by
    rw [List.map_cons, List.zip_cons_cons]
    unfold keysOf
    rw [keysOf_zip (by simpa using h)]; rfl
def eDct (ks : List Str) (fs : Ev → R (List D)) : Ev → R D := fun ρ => (fs ρ).bind fun ds => if ds.length = ks.length then .ok (dkD ks ds) else .bad
section
variable {X : Cx} {W : WX} {e a i : Expr} {f g : Ev → R D} {pos : Pos}
end
@[simp] theorem r_eDct (ks : List Str) (fs : Ev → R (List D)) (ρ : Ev) : eDct ks fs ρ = (fs ρ).bind fun ds => if ds.length = ks.length then .ok (dkD ks ds) else .bad := id rfl
@[simp] theorem r_eUn (f : Ev → R D) (ρ : Ev) : eUn f ρ = (f ρ).bind fun d => .ok (un d) := id rfl
@[simp] theorem r_eLstN (f : Ev → R (List D)) (ρ : Ev) : eLstN f ρ = (f ρ).bind fun l => .ok (tg l) := id rfl
end VL

set_option Elab.async false
set_option linter.all false
set_option maxRecDepth 100000
set_option maxHeartbeats 1000000
set_option autoImplicit false
namespace VL
open PySem PySem.Spec PyProof.Rows L2 L2H

/-! ### any(..) while an exception is handled -/
section
variable {prog : Program} {w : World} {A : Around} {E : Value → Shared → Prop} {s : Shared}
end
/-! ### x in d, d a dict of one's own with text keys -/
def keyIs (x : Str) : D × D → Bool
  | (.str y, _) => decide (y = x)
  | _ => false
def dinD : D → D → Option D
  | .str x, .dict ((.str _, .none) :: l) => some (.bool (l.any (keyIs x)))
  | _, _ => none
def ndinD : D → D → Option D
  | .str x, .dict ((.str _, .none) :: l) => some (.bool (!l.any (keyIs x)))
  | _, _ => none
theorem din_dk {x : Str} : ∀ {ks : List Str} {ds : List D}, ds.length = ks.length → (((ks.map fun k => PyData.str k).zip ds).any (keyIs x)) = decide (x ∈ ks)
  | [], [], _ => rfl
  | k :: ks, d :: ds, h => by
    have ih := din_dk (x := x) (ks := ks) (ds := ds) (by simpa using h)
    simp only [List.map_cons, List.zip_cons_cons, List.any_cons, ih, List.mem_cons, Bool.decide_or]
    show (decide (k = x) || _) = _
    rw [show decide (k = x) = decide (x = k) from by simp [eq_comm]]
@[simp] theorem r_dinD (x : Str) (ks : List Str) (ds : List D) (h : ds.length = ks.length) : dinD (.str x) (dkD ks ds) = some (.bool (decide (x ∈ ks))) := by
  show some (PyData.bool _) = _
  rw [din_dk h]
@[simp] theorem r_ndinD (x : Str) (ks : List Str) (ds : List D) (h : ds.length = ks.length) : ndinD (.str x) (dkD ks ds) = some (.bool (!decide (x ∈ ks))) := by
  show some (PyData.bool _) = _
  rw [din_dk h]

/-! ### x in d, d a dict of the module's top -/
/-- ks its keys; zs the texts that may be asked -/
structure GI (K : Fg) (w : World) (mg : Str → Option Value) (x : Str) (ks zs : List Str) : Prop where
  ex : ∃ a es n, mg x = some (.ref a) ∧ KDict K w a es n ∧ ∀ z ∈ zs, ∃ r : Option Value, PySem.W.nsIn K a z = some r ∧ r.isSome = decide (z ∈ ks)
def gInD (ks zs : List Str) (neg : Bool) : D → Option D
  | .str z => if z ∈ zs then some (.bool (decide (z ∈ ks) != neg)) else none
  | _ => none
section
variable {X : Cx} {W : WX} {e : Expr} {f : Ev → R D} {ks zs : List Str} {x : Str} {px pos : Pos}
theorem sim_gin {K : Fg} {mg : Str → Option Value} {a : Addr} {neg : Bool} (h : ∀ z ∈ zs, ∃ r : Option Value, PySem.W.nsIn K a z = some r ∧ r.isSome = decide (z ∈ ks)) : ∀ σ H Q, tE K mg W (e1 (gInD ks zs neg) f) σ H Q →
    tOp (fun x y H Q => ∃ (z : Str) (r : Option Value), x = .str z ∧ y = .ref a ∧ PySem.W.nsIn K a z = some r ∧ Q (.bl (r.isSome != neg)) H) (tPk K mg W f) (tC (.ref a)) σ H Q := fun σ H Q ⟨S, G, Hs, ρ, r, p⟩ => by
  refine ⟨S, G, Hs, ρ, r, (Post.bind p).imp fun d Hs1 H1 e1 q u hu => ?_⟩
  cases z : gInD ks zs neg d with
  | none => rw [z] at q; exact q.elim
  | some d' =>
    rw [z] at q
    unfold gInD at z
    split at z
    · rename_i y
      split at z
      · rename_i hy
        cases z
        have hu := hu.str
        subst hu
        obtain ⟨r', h1, h2⟩ := h y hy
        exact ⟨y, r', rfl, rfl, h1, by rw [h2]; exact q.now e1.sub _ (.bl _)⟩
      · cases z
    · cases z
theorem t_ginN {neg : Bool} {op : CmpOp} {a : Addr} (ho : OpR X (compareOp op) (fun x y H Q => ∃ (z : Str) (r : Option Value), x = .str z ∧ y = .ref a ∧ PySem.W.nsIn X.K a z = some r ∧ Q (.bl (r.isSome != neg)) H)) (hm1 : X.mg x = some (.ref a))
    (h3 : ∀ z ∈ zs, ∃ r : Option Value, PySem.W.nsIn X.K a z = some r ∧ r.isSome = decide (z ∈ ks)) (ha : VP X W e f) (hg : Gl X x) (hdb : (x == ("__debug__" : Str)) = false) (hm : behindInMarks op (.Name x px) = false) :
    VT X W (.Compare e [op] [.Name x px] pos) (e1 bOf (e1 (gInD ks zs neg) f)) := by
  refine PT.imp (pt_cmpR ho ha (pe_glob (v := .ref a) hg hm1 rfl hdb) hm) fun σ H Q ⟨S, G, Hs, ρ, r, p⟩ => ?_
  refine sim_gin (neg := neg) h3 σ H _ ⟨S, G, Hs, ρ, r, (Post.bind p).imp fun x Hs1 H1 e q v hv => ?_⟩
  cases x with
  | bool k => cases hv; exact ⟨k, rfl, q.now e.sub⟩
  | _ => exact q.elim
theorem t_gnin (G : GI X.K X.w X.mg x ks zs) (ha : VP X W e f) (hg : Gl X x := by rfl) (hdb : (x == ("__debug__" : Str)) = false := by decide) (hm : behindInMarks .NotIn (.Name x px) = false := by first | exact nomark _ | rfl) :
    VT X W (.Compare e [.NotIn] [.Name x px] pos) (e1 bOf (e1 (gInD ks zs true) f)) := by
  obtain ⟨a, es, n, h1, h2, h3⟩ := G.ex
  exact t_ginN (neg := true) (by simpa using op_notIn_kd h2) h1 h3 ha hg hdb hm
end

/-! ### a def whose keyword-only parameters have defaults, called without keywords -/
section
variable {X : Cx} {n k j : Nat} {f : Addr} {fd : FuncData} {ps ks : List Str} {sp : Sp} {E : Sg → XK} {x : Str} {p pos : Pos} {e : Expr} {es : List Expr} {t : TA} {dvs : List V} {ds : List Value}
theorem run_fnGD {pins : List (Addr × Obj)} {σ : Sg} {H : Hp} {s : Shared} {Q : VK} {us : List Value} {vs : List V} (F : FnG X.prog X.w X.K X.mg X.base k f fd ps sp) (hr : Room k X.A) (hgd : X.A.guards = some []) (hb : Binds X.K fd ps ds) (rd : Vals dvs ds) (hx : PassesAt (L2N.CX X.prog X.w) X σ (E σ))
    (I : Inv X pins σ H s) (r : Vals vs us) (h : sp (vs ++ dvs) H Q (E σ)) : wpAny (model X.prog X.w) X.A (call (.ref f) us) (EP X pins σ Q) X.xe s := by
  have r2 := r.append rd
  have hl : (us ++ ds).length = ps.length := by rw [← r2.length]; exact F.len _ _ _ _ h
  refine wpAny_call (codeAny_mono (F.run X.A X.stack s H ⟨us, []⟩ (us ++ ds) (vs ++ dvs) Q (E σ) hr hgd I.env0 (hb s us I.kIn hl) r2 h) fun r s' hq => ?_)
  cases r with
  | error e => exact hx pins H s e s' I hq
  | ok fl =>
    cases fl with
    | ret u => exact I.after hq
    | next => exact hq.elim
    | brk => exact hq.elim
    | cont => exact hq.elim
def tCallSD (sp : Sp) (E : Sg → XK) (dvs : List V) (t : TA) : TE := fun σ H Q => t σ H fun vs H1 => sp (vs ++ dvs) H1 Q (E σ)
theorem pe_callGD (F : FnG X.prog X.w X.K X.mg X.base k f fd ps sp) (hr : Room k X.A) (hgd : X.A.guards = some []) (hg : Gl X x) (hm : X.mg x = some (.ref f)) (hk : PySem.W.keepIn X.K (.ref f) = true) (hb : Binds X.K fd ps ds) (rd : Vals dvs ds) (hx : ∀ σ, PassesAt (L2N.CX X.prog X.w) X σ (E σ))
    (ha : PA X (e :: es) t) (hdb : (x == ("__debug__" : Str)) = false := by decide) (he : starEach (e :: es) X.env = (false, eval e X.env) :: starEach es X.env := by rfl) (hpl : (backTo pos (starEach es X.env)).any (·.1) = false := by rfl) :
    PE X (.Call (.Name x p) (e :: es) [] pos) (tCallSD sp E dvs t) := by
  refine ⟨fun pins s σ H Q I h => ?_⟩
  refine wpAny_Call_Name_kw (ld_glob I hg hm ?_ hdb)
  refine PySem.W.callWith_K (h₀ := X.base) I.ok.mod.kin hk (thn (ha.run pos pins s σ H _ I h) fun us s1 ⟨vs, H1, I1, r, q⟩ => ⟨I1.kIn, ?_⟩) he hpl
  exact run_fnGD F hr hgd hb rd (hx σ) I1 r q
end
def eDfl (dd : List D) (fl : Ev → R (List D)) : Ev → R (List D) := fun ρ => (fl ρ).bind fun ds => .ok (ds ++ dd)
@[simp] theorem r_eDfl (dd : List D) (fl : Ev → R (List D)) (ρ : Ev) : eDfl dd fl ρ = (fl ρ).bind fun ds => .ok (ds ++ dd) := id rfl
structure ClKD (P : Program) (w : World) (K : Fg) (mg : Str → Option Value) (base : Heap) (k : Nat) (x : Str) (ps ks : List Str) (n : Nat) (dd : List D) (m : List D → R SD) : Prop where
  ex : ∃ f fd, DOk P w K mg base k f fd ps m ∧ mg x = some (.ref f) ∧ PySem.W.keepIn K (.ref f) = true ∧ KB K fd ps ks n ∧ ∃ dvs ds, Vals dvs ds ∧ Binds K fd ps ds ∧ ∀ H, RpL K H dd dvs
theorem ClKD.kk {P : Program} {w : World} {K : Fg} {mg : Str → Option Value} {base : Heap} {j n : Nat} {x : Str} {ps ks : List Str} {dd : List D} {m : List D → R SD} (C : ClKD P w K mg base j x ps ks n dd m) : ClK P w K mg base j x ps ks n m := by
  obtain ⟨f, fd, h1, h2, h3, h4, _⟩ := C.ex
  exact ⟨f, fd, h1, h2, h3, h4⟩
structure DfKD (K : Fg) (mg : Str → Option Value) (x : Str) (st : Stmt) (ps ks : List Str) (n : Nat) (dd : List D) : Prop where
  ex : ∃ f fd, Fun K x x st f fd ∧ mg x = some (.ref f) ∧ KB K fd ps ks n ∧ ∃ dvs ds, Vals dvs ds ∧ Binds K fd ps ds ∧ ∀ H, RpL K H dd dvs
theorem clKD_ok {P : Program} {w : World} {K : Fg} {mg : Str → Option Value} {base : Heap} {x : Str} {st : Stmt} {N ps ks : List Str} {n k : Nat} {dd : List D} {F : Ev → Out} (Fn : DfKD K mg x st ps ks n dd) (S : FnScope N ps (defScope st))
    (body : ∀ (f : Addr) (cdv : Value) (A : Around) (outer : List Env) (s : Shared) (H : Hp) (E : XK), Inn (cxOf (L2N.CX P w) P w K mg base N x (defScope st) f cdv A outer s H E) (fun cls d _ H => E cls d H) k →
      VSs (cxOf (L2N.CX P w) P w K mg base N x (defScope st) f cdv A outer s H E) (fun cls d _ H => E cls d H) (defBody st) F) :
    ClKD P w K mg base (k + 1) x ps ks n dd (runD ps.length N.length F) := by
  obtain ⟨f, fd, h1, h2, h3, h4⟩ := Fn.ex
  exact ⟨f, fd, def_ok h1 S fun cdv A outer s H E I => body f cdv A outer s H E I, h2, h1.kp, h3, h4⟩
section
variable {X : Cx} {W : WX} {e : Expr} {es : List Expr} {pos p : Pos} {x : Str} {fl fk : Ev → R (List D)} {k j n : Nat} {ps ks : List Str} {m : List D → R SD} {dd : List D}
theorem v_calKD (C : ClKD X.prog X.w X.K X.mg X.base k x ps ks n dd m) (hr : Room j X.A) (hgd : X.A.guards = some []) (tk : L2N.Takes X W) (ha : VA X W (e :: es) fl) (hg : Gl X x := by rfl) (hj : k ≤ j := by decide)
    (hdb : (x == ("__debug__" : Str)) = false := by decide) (he : starEach (e :: es) X.env = (false, eval e X.env) :: starEach es X.env := by rfl) (hpl : (backTo pos (starEach es X.env)).any (·.1) = false := by rfl) :
    VE X W (.Call (.Name x p) (e :: es) [] pos) (eCall m (eDfl dd fl)) := by
  obtain ⟨f, fd, h1, h2, h3, h4, dvs, ds, rd, hb, hd⟩ := C.ex
  refine PE.imp (pe_callGD h1.fn (hr.mono hj) hgd hg h2 h3 hb rd (L2N.passAt tk) ha hdb he hpl) fun σ H Q q => ?_
  obtain ⟨S, G, Hs, ρ, r, q⟩ := sim_call h1.ar σ H Q q
  exact ⟨S, G, Hs, ρ, r, (Post.bind q).imp fun xs Hs1 H1 e q us hus => q.now e.sub (us ++ dvs) (hus.append (hd _))⟩
end
/-- one keyword-only parameter, its default a truth -/
theorem dfl_bool {K : Fg} {x : Str} {params : Arguments} {body : List Stmt} {scope : Scope} {f Dk : Addr} {oc doc pm cdv ct : Value} {od an : Option Addr} {osl : Array (Option Value)} {ps : List Str} {y : Str} {b : Bool} {n : Nat}
    (lk : K.lookup f = some ⟨oc, od, .func (PySem.W.fnOf x x params body scope .none (.ref Dk) doc pm an cdv ct), osl⟩) (hcd : PySem.W.codeIn K cdv x = true) (kp : PySem.W.keepIn K (.ref f) = true) (hd : PySem.W.nsIn K Dk y = some (some (.bool b))) (hn : n + 1 = ps.length)
    (h : ∀ (D : Addr) (doc pm : Value) (an : Option Addr) (cdv ct : Value) (us ks : List Value), us.length = n → ks.length = 1 →
      KwChain D (([y] : List Str).zip ks) (bindArgs (PySem.W.fnOf x x params body scope .none (.ref D) doc pm an cdv ct) ⟨us, []⟩) (ps.zip (us ++ ks))) :
    ∃ dvs ds, Vals dvs ds ∧ Binds K (PySem.W.fnOf x x params body scope .none (.ref Dk) doc pm an cdv ct) ps ds ∧ ∀ H, RpL K H [.bool b] dvs := by
  have F : FunD K x x params body scope [] [(y, .bl b)] f (PySem.W.fnOf x x params body scope .none (.ref Dk) doc pm an cdv ct) :=
    ⟨⟨_, _, _, _, _, _, _, _, _, _, rfl, lk, hcd, .inl ⟨rfl, rfl⟩, .inr ⟨Dk, rfl, fun q hq => by
      rw [List.mem_singleton.mp hq]
      exact ⟨_, hd, rfl⟩⟩⟩, kp⟩
  obtain ⟨ds, rd, hb⟩ := F.binds0 n (by simp) hn h
  exact ⟨_, ds, rd, hb, fun H => .cons (.bl b) .nil⟩

/-! ### t + u, tuples too -/
def addA : D → D → Option D
  | .tuple a, .tuple b => if a.length + b.length ≤ sizeLine then some (.tuple (a ++ b)) else none
  | a, b => addD a b
@[simp] theorem r_addA_t (a b : List D) (h : a.length + b.length ≤ sizeLine) : addA (.tuple a) (.tuple b) = some (.tuple (a ++ b)) := if_pos h
@[simp] theorem r_addA_i (a b : Int) : addA (.int a) (.int b) = some (.int (a + b)) := id rfl
@[simp] theorem r_addA_l (a b : List D) : addA (.list a) (.list b) = (catD a b).map .list := id rfl
end VL

set_option Elab.async false
set_option linter.all false
set_option maxRecDepth 100000
set_option maxHeartbeats 1000000
set_option autoImplicit false
namespace VL
open PySem PySem.Spec PyProof.Rows L2
/-- a.removeprefix(b) -/
def rmpD (a : Str) : D → Option D
  | .str b => if a.length ≤ sizeLine then some (.str (Txt.removeprefix a b)) else none
  | _ => none
/-- int(a), a text -/
def intTD : List D → Option D
  | [.str a] => if a.length ≤ 640 then (PySem.intText? a).map .int else none
  | _ => none
section
variable {X : Cx} {W : WX} {o e : Expr} {apos pos : Pos} {f g : Ev → R D}
theorem v_rmp (ho : VP X W o f) (he : VP X W e g) (hs : starEach [e] X.env = [(false, eval e X.env)] := by rfl) (hbase : attributeBase o "removeprefix" X.env (eval o X.env) = eval o X.env := by rfl)
    (hfew : ((backTo pos (starEach [e] X.env)).all (fun x => !x.1) && (backToKw pos (keywordEach [] X.env)).all (fun x => x.1.isSome)
      && decide ([e].length + ([] : List Keyword).length + (if ([] : List Keyword).isEmpty then 0 else 1) < 30)) = true := by rfl)
    (hline : (apos.endLine == pos.line) = true := by rfl) :
    VE X W (.Call (.Attribute o "removeprefix" apos) [e] [] pos) (eStr rmpD f g) := PE.imp (pe_bm PySem.F.plainAttrs_str PySem.F.slot_str_removeprefix PySem.F.type_str_removeprefix L2.mt_removeprefix ho (pa_cons he pa_nil hs) hbase hfew hline hs rfl) fun σ H Q ⟨S, G, Hs, ρ, r, p⟩ => by
  refine ⟨S, G, Hs, ρ, r, (Post.bind p).imp fun x Hs1 H1 e q u hu => ?_⟩
  cases x with
  | str a =>
    refine ⟨by rw [hu.str]; first | exact .inl rfl | exact rfl | trivial, S, G, Hs1, ρ, r.step e, (Post.bind q).imp fun y Hs2 H2 e' q' v hv => ?_⟩
    cases y with
    | str b =>
      unfold rmpD at q'
      simp only at q'
      by_cases z : a.length ≤ sizeLine
      · rw [if_pos z] at q'
        exact ⟨a, b, hu.str, by rw [hv.str], z, q'.now e'.sub _ (.str _)⟩
      · rw [if_neg z] at q'; exact q'.elim
    | _ => exact q'.elim
  | _ => exact q.elim
theorem c_intT : CalD X (.type "int") intTD := ⟨_, call_int_str, fun Hs H ds vs Q d hs e hv k => by
  unfold intTD at e
  split at e
  · rename_i a
    split at e
    · rename_i ha
      obtain ⟨n, hn, rfl⟩ := Option.map_eq_some_iff.mp e
      obtain ⟨v, rfl, h⟩ := hv.one
      exact ⟨a, n, by rw [h.str], hn, ha, k _ _ _ (.refl hs) (.int _)⟩
    · cases e
  · cases e⟩
end
end VL

set_option Elab.async false
set_option linter.all false
set_option maxRecDepth 100000
set_option autoImplicit false
set_option maxHeartbeats 4000000
namespace W
open PySem PySem.Spec PyProof.Rows L2 VL
open TL (tl tl_append tl_join joinL join_eq split_join ext_tl split_spl spl kind_ok tl_strSub_end)
noncomputable def c_read_whole : Ev → Out := sSeq (sSet 1 (eStr rmpD (eOwn 0) (cst (.str "-")))) (sSeq (sIf (eOr (e1 bOf (e2 eqD (eOwn 1) (cst (.str "")))) (eOr (e1 bOf (e2 gtD (e1 lenD (eCons (eOwn 1) (cst []))) (cst (.int 3)))) (eNot (e1 truD (eAllG (inB "0123456789") 1))))) (sRet (cst .none)) (sNil)) (sSeq (sIf (eAnd (e1 bOf (e2 eqD (e2 ixD (eOwn 1) (cst (.int 0))) (cst (.str "0")))) (e1 bOf (e2 neD (eOwn 0) (cst (.str "0"))))) (sRet (cst .none)) (sNil)) (sRet (e1 intTD (eCons (eOwn 0) (cst []))))))
noncomputable def m_read_whole : List D → R SD := runD 1 3 c_read_whole
noncomputable def c_read_polynomial : Ev → Out := sSeq (sIf (e1 bOf (e2 eqD (eOwn 0) (cst (.str "0")))) (sRetO (e1 lim (cst []))) (sNil)) (sSeq (sSetO 1 (eComp [2] (e1 seqD (eLst (eStr splitD (eOwn 0) (cst (.str ","))))) (gSet 2) (cst true) (eCall m_read_whole (eCons (eVar 2) (cst []))))) (sFz 1 (sSeq (sIf (eOr (e1 bOf (e2 memD (cst .none) (eOwn 1))) (eOr (e1 bOf (e2 gtD (e1 lenD (eCons (eOwn 1) (cst []))) (cst (.int 12)))) (e1 bOf (e2 eqD (e2 ixD (eOwn 1) (e1 negD (cst (.int 1)))) (cst (.int 0)))))) (sRet (cst .none)) (sNil)) (sRet (eVar 1)))))
noncomputable def m_read_polynomial : List D → R SD := runD 1 3 c_read_polynomial
/-! ### texts as lists of signs -/
abbrev mk (l : List Nat) : Str := ⟨l.toArray⟩
theorem mk_len (l : List Nat) : (mk l).length = l.length := rfl
theorem mk_tl (s : Str) : mk (tl s) = s := ext_tl rfl
theorem mk_inj {a b : List Nat} (h : mk a = mk b) : a = b := congrArg (fun s : Str => s.cps.toList) h
theorem mk_eq {a b : List Nat} : mk a = mk b ↔ a = b := ⟨mk_inj, fun h => by rw [h]⟩
theorem mk_app (a b : List Nat) : mk a ++ mk b = mk (a ++ b) := ext_tl (by rw [tl_append])
/-! ### whole numbers -/
def isDg (c : Nat) : Bool := decide (c ∈ [48, 49, 50, 51, 52, 53, 54, 55, 56, 57])
def dgs : List Nat → List Nat
  | 45 :: t => t
  | l => l
def okW (l : List Nat) : Bool := decide (dgs l ≠ []) && decide ((dgs l).length ≤ 3) && (dgs l).all isDg && !(decide ((dgs l).head? = some 48) && decide (l ≠ [48]))
def natW (l : List Nat) : Nat := l.foldl (fun n c => 10 * n + (c - 48)) 0
def valW (l : List Nat) : Int := if l.head? = some 45 then -(natW (dgs l) : Int) else natW (dgs l)
def RW (l : List Nat) : Option Int := if okW l = true then some (valW l) else none
def oI : Option Int → D
  | some z => .int z
  | none => .none
theorem inB_dig (c : Nat) : inB "0123456789" c = isDg c := by
  unfold inB isDg
  rw [PySem.StrLaws.found_one]
  exact decide_eq_decide.mpr (by rw [show (("0123456789" : Str).cps.toList) = [48, 49, 50, 51, 52, 53, 54, 55, 56, 57] from by decide +kernel])
theorem dgs_ne {c : Nat} {l : List Nat} (h : c ≠ 45) : dgs (c :: l) = c :: l := by
  unfold dgs
  split
  · rename_i t e; injection e with e _; exact absurd e h
  · rfl
theorem rmp_eq (l : List Nat) : Txt.removeprefix (mk l) "-" = mk (dgs l) := by
  have h1 := PySem.StrLaws.subAt_one (mk l) 45 0
  have e45 : ("-" : Str) = ⟨#[45]⟩ := by decide +kernel
  unfold Txt.removeprefix
  rw [e45]
  cases l with
  | nil => rfl
  | cons c t =>
    have h1 : (0 + 1 ≤ t.length + 1 ∧ Builtin.Str.subAt (mk (c :: t)) ⟨#[45]⟩ 0 = true) ↔ (c :: t)[0]? = some 45 := h1
    by_cases hc : c = 45
    · subst hc
      rw [if_pos (h1.mpr rfl).2]
      show (if (t.length + 1 - 1 == t.length + 1) = true then _ else Builtin.Str.strSub (mk (45 :: t)) 1 (mk (45 :: t)).length) = _
      rw [if_neg (by simp)]
      refine ext_tl ?_
      rw [tl_strSub_end]; rfl
    · have hn : Builtin.Str.subAt (mk (c :: t)) ⟨#[45]⟩ 0 ≠ true := fun z => by
        have := h1.mp ⟨by omega, z⟩
        simp at this; exact hc this
      rw [if_neg hn, dgs_ne hc]; rfl
theorem dig_le {c : Nat} (h : isDg c = true) : ∃ a < 10, c = 48 + a := by
  unfold isDg at h
  simp at h
  exact ⟨c - 48, by omega, by omega⟩
theorem iT1 : ∀ a < 10, PySem.intText? (mk [48 + a]) = some (natW [48 + a] : Int) ∧ PySem.intText? (mk [45, 48 + a]) = some (-(natW [48 + a] : Int)) := by decide +kernel
theorem iT2 : ∀ a < 10, ∀ b < 10, PySem.intText? (mk [48 + a, 48 + b]) = some (natW [48 + a, 48 + b] : Int) ∧ PySem.intText? (mk [45, 48 + a, 48 + b]) = some (-(natW [48 + a, 48 + b] : Int)) := by decide +kernel
theorem iT3 : ∀ a < 10, ∀ b < 10, ∀ c < 10, PySem.intText? (mk [48 + a, 48 + b, 48 + c]) = some (natW [48 + a, 48 + b, 48 + c] : Int) ∧ PySem.intText? (mk [45, 48 + a, 48 + b, 48 + c]) = some (-(natW [48 + a, 48 + b, 48 + c] : Int)) := by decide +kernel
theorem int_dgs {d : List Nat} (h0 : d ≠ []) (h3 : d.length ≤ 3) (ha : d.all isDg = true) : PySem.intText? (mk d) = some (natW d : Int) ∧ PySem.intText? (mk (45 :: d)) = some (-(natW d : Int)) := by
  rw [List.all_eq_true] at ha
  match d, h0, h3, ha with
  | [x], _, _, ha =>
    obtain ⟨a, h1, rfl⟩ := dig_le (ha x (by simp))
    exact iT1 a h1
  | [x, y], _, _, ha =>
    obtain ⟨a, h1, rfl⟩ := dig_le (ha x (by simp))
    obtain ⟨b, h2, rfl⟩ := dig_le (ha y (by simp))
    exact iT2 a h1 b h2
  | [x, y, z], _, _, ha =>
    obtain ⟨a, h1, rfl⟩ := dig_le (ha x (by simp))
    obtain ⟨b, h2, rfl⟩ := dig_le (ha y (by simp))
    obtain ⟨c, h3, rfl⟩ := dig_le (ha z (by simp))
    exact iT3 a h1 b h2 c h3
theorem okW_c {l : List Nat} (h : okW l = true) : (dgs l ≠ [] ∧ (dgs l).length ≤ 3 ∧ (dgs l).all isDg = true) ∧ ¬ ((dgs l).head? = some 48 ∧ l ≠ [48]) := by
  unfold okW at h
  simp [and_assoc] at h
  obtain ⟨h1, h2, h3, h4⟩ := h
  exact ⟨⟨h1, h2, List.all_eq_true.mpr h3⟩, fun ⟨a, b⟩ => h4.elim (fun z => z a) fun z => b z⟩
theorem int_ok {l : List Nat} (h : okW l = true) : PySem.intText? (mk l) = some (valW l) := by
  obtain ⟨⟨h0, h3, ha⟩, _⟩ := okW_c h
  obtain ⟨i1, i2⟩ := int_dgs h0 h3 ha
  unfold valW
  cases l with
  | nil => exact absurd rfl h0
  | cons c t =>
    by_cases hc : c = 45
    · subst hc; exact i2
    · rw [if_neg (by simpa using hc)]
      rw [dgs_ne hc] at i1 ⊢
      exact i1
theorem okW_len {l : List Nat} (h : okW l = true) : l.length ≤ 4 := by
  obtain ⟨⟨h0, h3, ha⟩, _⟩ := okW_c h
  cases l with
  | nil => simp
  | cons c t =>
    by_cases hc : c = 45
    · subst hc
      have : t.length ≤ 3 := h3
      simp; omega
    · rw [dgs_ne hc] at h3; omega
/-- read_whole -/
theorem read_whole_ok {l : List Nat} (hl : l.length ≤ 100000) : m_read_whole [.str (mk l)] = .ok (.sh (oI (RW l))) := by
  have e1 : rmpD (mk l) (.str "-") = some (.str (mk (dgs l))) := by
    show (if (mk l).length ≤ sizeLine then some (PyData.str (Txt.removeprefix (mk l) "-")) else none) = _
    rw [if_pos (by rw [mk_len]; exact slB (by omega)), rmp_eq]
  have e2 : ("0" : Str) = mk [48] := by decide +kernel
  have e3 : ("" : Str) = mk [] := by decide +kernel
  have dl : (dgs l).length ≤ 100000 := by
    cases l with
    | nil => simp [dgs]
    | cons c t =>
      by_cases hc : c = 45
      · subst hc; simp [dgs] at hl ⊢; omega
      · rw [dgs_ne hc]; exact hl
  have l1 : lenD [.str (mk (dgs l))] = some (.int (dgs l).length) := if_pos (slB (by rw [mk_len]; omega))
  have ds : (mk (dgs l)).length ≤ sizeLine := slB (by rw [mk_len]; omega)
  have ga : eAllG (inB "0123456789") 1 [.sh (.str (mk l)), .sh (.str (mk (dgs l))), .no] = .ok (.bool ((dgs l).all isDg)) := by
    show R.ok (PyData.bool ((mk (dgs l)).cps.toList.all (inB "0123456789"))) = _
    rw [show (inB "0123456789") = isDg from funext inB_dig]
  unfold RW
  by_cases h0 : dgs l = []
  · have : okW l = false := by simp [okW, h0]
    simp [m_read_whole, c_read_whole, e1, e3, mk_eq, h0, this, oI]
  · by_cases h3 : 3 < (dgs l).length
    · have h3i : (3 : Int) < ((dgs l).length : Int) := by omega
      have : okW l = false := by simp [okW]; intro _ z; omega
      simp [m_read_whole, c_read_whole, e1, e3, mk_eq, h0, this, oI, l1, h3i]
    · have h3i : ¬ (3 : Int) < ((dgs l).length : Int) := by omega
      cases ha : (dgs l).all isDg with
      | false =>
        have : okW l = false := by unfold okW; rw [ha]; simp
        simp [m_read_whole, c_read_whole, e1, e3, mk_eq, h0, this, oI, l1, h3i, ga, ha, -List.all_eq_true]
      | true =>
        obtain ⟨c, t, hd⟩ : ∃ c t, dgs l = c :: t := by
          cases z : dgs l with
          | nil => exact absurd z h0
          | cons c t => exact ⟨c, t, rfl⟩
        have ix0 : ixD (.str (mk (dgs l))) (.int 0) = some (.str ⟨#[c]⟩) := by
          show (if (mk (dgs l)).length ≤ sizeLine then _ else _) = _
          rw [if_pos ds, hd]
          show Option.map _ (atI (c :: t) 0) = _
          unfold atI ixN
          simp
        have e4 : ((⟨#[c]⟩ : Str) = "0") = (c = 48) := by rw [e2, show (⟨#[c]⟩ : Str) = mk [c] from rfl]; simp only [mk_eq, List.cons.injEq, and_true]
        by_cases hz : c = 48 ∧ l ≠ [48]
        · have : okW l = false := by simp [okW, hd, hz.1, hz.2]
          simp [m_read_whole, c_read_whole, e1, e3, mk_eq, h0, this, oI, l1, h3i, ga, ha, ix0, e4, hz.1, e2, hz.2, -List.all_eq_true]
        · have ok : okW l = true := by
            have h3' : (dgs l).length ≤ 3 := by omega
            unfold okW
            rw [ha]
            simp [h0, h3']
            by_cases q : l = [48]
            · exact .inr q
            · refine .inl fun z => hz ⟨?_, q⟩
              rw [hd] at z; simpa using z
          have ii : intTD [.str (mk l)] = some (.int (valW l)) := by
            show (if (mk l).length ≤ 640 then _ else _) = _
            rw [if_pos (by rw [mk_len]; have := okW_len ok; omega), int_ok ok]; rfl
          by_cases q : c = 48
          · have q2 : l = [48] := Classical.byContradiction fun z => hz ⟨q, z⟩
            subst q2
            have f : okW [48] = true := by decide
            simp [m_read_whole, c_read_whole, e1, e3, mk_eq, h0, oI, l1, h3i, ga, ha, ix0, e4, q, e2, ii, f, -List.all_eq_true]
          · simp [m_read_whole, c_read_whole, e1, e3, mk_eq, h0, ok, oI, l1, h3i, ga, ha, ix0, e4, q, e2, ii, -List.all_eq_true]
/-! ### polynomials -/
def parts (l : List Nat) : List (List Nat) := spl [44] 0 [] l
theorem spl_c (s c : Nat) (acc r : List Nat) : spl [s] 0 acc (c :: r) = if c = s then acc :: spl [s] 0 [] r else spl [s] 0 (acc ++ [c]) r := by
  by_cases h : c = s
  · rw [if_pos h, TL.spl_hit (by rw [h]; exact TL.pre_self [s] r)]; rfl
  · rw [if_neg h, TL.spl_miss (TL.pre_of_head [] r h)]
theorem spl_ne (s : Nat) : ∀ (l acc : List Nat), spl [s] 0 acc l ≠ []
  | [], acc => by rw [TL.spl_nil]; simp
  | c :: l, acc => by
    rw [spl_c]
    split
    · simp
    · exact spl_ne s l _
theorem spl_len (s : Nat) : ∀ (l acc : List Nat), (spl [s] 0 acc l).length ≤ l.length + 1 ∧ ∀ p ∈ spl [s] 0 acc l, p.length ≤ acc.length + l.length
  | [], acc => by rw [TL.spl_nil]; simp
  | c :: l, acc => by
    rw [spl_c]
    split
    · obtain ⟨h1, h2⟩ := spl_len s l []
      refine ⟨by simp; omega, fun p hp => ?_⟩
      rcases List.mem_cons.mp hp with rfl | hp
      · omega
      · have := h2 p hp; simp at this ⊢; omega
    · obtain ⟨h1, h2⟩ := spl_len s l (acc ++ [c])
      refine ⟨by simp; omega, fun p hp => ?_⟩
      have := h2 p hp; simp at this ⊢; omega
theorem split_mk (s : Nat) (sep : Str) (hs : sep = mk [s]) (h256 : s < 256) (l : List Nat) (hl : l.length ≤ 90000) : splitD (mk l) (.str sep) = some ((spl [s] 0 [] l).map fun p => .str (mk p)) := by
  subst hs
  show (if _ then some ((Txt.split (mk l) (mk [s])).map fun a => (PyData.str a : D)) else none) = _
  rw [if_pos ⟨rfl, by rw [mk_len]; exact slB (by omega)⟩]
  have h := split_spl (mk l) (mk [s]) (by simp) (kind_ok (by simp [h256]))
  have h2 : (Txt.split (mk l) (mk [s])) = (spl [s] 0 [] l).map mk := by
    refine TL.map_tl_inj ?_
    rw [h, List.map_map, show (tl ∘ mk) = id from rfl, List.map_id]
  rw [h2, List.map_map]; rfl
def RPf (l : List Nat) : List (Option Int) := (parts l).map RW
def RP (l : List Nat) : Option (List Int) := if l = [48] then some [] else if (RPf l).any Option.isNone = true ∨ 12 < (RPf l).length ∨ (RPf l).getLast? = some (some 0) then none else some ((RPf l).filterMap id)
def oP : Option (List Int) → D
  | some z => .list (z.map .int)
  | none => .none
def rpS (l : List Nat) : SD := if l = [48] then .ow [] else .sh (oP (RP l))
theorem toD_rpS (l : List Nat) : toD (rpS l) = some (oP (RP l)) := by
  unfold rpS
  by_cases h : l = [48]
  · rw [if_pos h]; unfold RP; rw [if_pos h]; rfl
  · rw [if_neg h]; rfl
theorem mem_none (f : List (Option Int)) : memD .none (.list (f.map oI)) = some (.bool (f.any Option.isNone)) := by
  have hf : ((f.map oI).all flatD) = true := by
    rw [List.all_eq_true]
    intro d hd
    obtain ⟨x, _, rfl⟩ := List.mem_map.mp hd
    cases x <;> rfl
  have ha : ((f.map oI).any fun z => PyData.eqv z .none) = f.any Option.isNone := by
    rw [List.any_map]
    congr 1
    funext x
    cases x <;> rfl
  show (inD .none (.list (f.map oI))).map PyData.bool = _
  unfold inD
  simp only [ha, hf]
  split
  · rfl
  · rw [if_pos (by rfl)]; rfl
theorem all_some {f : List (Option Int)} (h : f.any Option.isNone = false) : f = (f.filterMap id).map some := by
  induction f with
  | nil => rfl
  | cons x f ih =>
    rw [List.any_cons, Bool.or_eq_false_iff] at h
    cases x with
    | none => simp at h
    | some z => rw [List.filterMap_cons_some (show id (some z) = some z from rfl), List.map_cons, ← ih h.2]
theorem read_tail {f : List (Option Int)} (h0 : f ≠ []) (hl : f.length ≤ 100000) (x : SD) :
    (f.any Option.isNone = false → ixD (.list (f.map oI)) (.int (-1)) = some (oI ((f.getLast?).getD none))) ∧ lenD [.list (f.map oI)] = some (.int f.length) ∧ eqD (oI ((f.getLast?).getD none)) (.int 0) = some (.bool (decide (f.getLast? = some (some 0)))) := by
  obtain ⟨g, y, rfl⟩ : ∃ g y, f = g ++ [y] := by
    rcases List.eq_nil_or_concat f with z | ⟨g, y, z⟩
    · exact absurd z h0
    · exact ⟨g, y, by rw [z, List.concat_eq_append]⟩
  refine ⟨fun _ => ?_, ?_, ?_⟩
  · rw [List.map_append, List.map_cons, List.map_nil, r_ix_l]
    rw [show (g ++ [y]).getLast?.getD none = y from by simp]
    exact r_at_last
  · have : ((g ++ [y]).map oI).length ≤ sizeLine := slB (by simp at hl ⊢; omega)
    simp at this
    simp [this]
  · rw [show (g ++ [y]).getLast?.getD none = y from by simp, show (g ++ [y]).getLast? = some y from by simp]
    cases y with
    | none => rfl
    | some z => show eqD (.int z) (.int 0) = _; rw [r_eq_i]; congr 2; exact decide_eq_decide.mpr (by simp)
theorem read_polynomial_ok {l : List Nat} (hl : l.length ≤ 10000) : m_read_polynomial [.str (mk l)] = .ok (rpS l) := by
  have e2 : ("0" : Str) = mk [48] := by decide +kernel
  have ec : ("," : Str) = mk [44] := by decide +kernel
  unfold rpS
  by_cases h : l = [48]
  · subst h
    simp [m_read_polynomial, c_read_polynomial, e2]
  · rw [if_neg h]
    have sp := split_mk 44 "," ec (by decide) l (by omega)
    obtain ⟨n1, n2⟩ := spl_len 44 l []
    have n0 : RPf l ≠ [] := by unfold RPf parts; simp [spl_ne]
    have nl : (RPf l).length ≤ l.length + 1 := by unfold RPf parts; rw [List.length_map]; exact n1
    have hc := compR_map' (F := fun p : List Nat => PyData.str (mk p)) (step := compS [2] (gSet 2) (cst true) (eCall m_read_whole (eCons (eVar 2) (cst []))) [.sh (.str (mk l)), .no, .no]) (l := spl [44] 0 [] l) (φ := fun p => oI (RW p)) fun p hp => by
      have := n2 p hp
      have rw1 := read_whole_ok (l := p) (by simp at this; omega)
      simp [compS, rw1, eCall, toD]
    have hm : ((spl [44] 0 [] l).map fun p => oI (RW p)) = (RPf l).map oI := by unfold RPf parts; rw [List.map_map]; rfl
    rw [hm] at hc
    have ls : (spl [44] 0 [] l).length ≤ sizeLine := slB (by omega)
    obtain ⟨t1, t2, t3⟩ := read_tail n0 (by omega) .no
    have hmem := mem_none (RPf l)
    unfold RP
    rw [if_neg h]
    cases ha : (RPf l).any Option.isNone with
    | true => 
      rw [ha] at hmem
      simp [m_read_polynomial, c_read_polynomial, e2, mk_eq, h, sp, ls, hc, hmem, oP]
    | false =>
      rw [ha] at hmem
      by_cases h12 : 12 < (RPf l).length
      · have h12i : (12 : Int) < ((RPf l).length : Int) := by omega
        simp [m_read_polynomial, c_read_polynomial, e2, mk_eq, h, sp, ls, hc, hmem, oP, t2, h12, h12i]
      · have h12i : ¬ (12 : Int) < ((RPf l).length : Int) := by omega
        have t1' := t1 ha
        by_cases hz : (RPf l).getLast? = some (some 0)
        · rw [hz] at t1' t3
          have t4 : eqD (oI (some 0)) (.int 0) = some (.bool true) := by simpa using t3
          simp at t1'
          simp [m_read_polynomial, c_read_polynomial, e2, mk_eq, h, sp, ls, hc, hmem, oP, t2, h12, h12i, t1', t4, hz]
        · have t4 : eqD (oI ((RPf l).getLast?.getD none)) (.int 0) = some (.bool false) := by rw [t3]; simp [hz]
          have hv : (RPf l).map oI = ((RPf l).filterMap id).map .int := by
            conv => lhs; rw [all_some ha]
            rw [List.map_map]; rfl
          simp [m_read_polynomial, c_read_polynomial, e2, mk_eq, h, sp, ls, hc, hmem, oP, t2, h12, h12i, t1', t4, hz]
          exact congrArg PyData.list hv
end W

set_option Elab.async false
set_option linter.all false
set_option maxRecDepth 100000
set_option autoImplicit false
set_option maxHeartbeats 4000000
namespace W
open PySem PySem.Spec PyProof.Rows L2 VL
open TL (tl tl_append tl_join joinL join_eq split_join ext_tl numL tl_num tl_ofString spl_join)
/-! ### words of whole numbers -/
def tx (c : Int) : Str := Str.ofString (toString c)
def txl (c : Int) : List Nat := tl (tx c)
theorem tx_mk (c : Int) : tx c = mk (txl c) := (mk_tl _).symm
theorem txl_nat (n : Nat) : txl (n : Int) = numL n := tl_num n
theorem txl_neg (n : Nat) (h : 0 < n) : txl (-(n : Int)) = 45 :: numL n := by
  obtain ⟨m, rfl⟩ : ∃ m, n = m + 1 := ⟨n - 1, by omega⟩
  have e : toString (-((m + 1 : Nat) : Int)) = "-" ++ toString ((m + 1 : Nat) : Int) := by
    show toString (Int.negSucc m) = _
    rfl
  unfold txl tx
  rw [e, tl_ofString, String.toList_append, List.map_append, ← tl_ofString, ← tl_ofString, tl_num]
  rfl
theorem num_read : ∀ n < 1000, RW (numL n) = some (n : Int) ∧ (0 < n → RW (45 :: numL n) = some (-(n : Int))) ∧ (numL n).all isDg = true ∧ numL n ≠ [] ∧ (numL n).length ≤ 3 := by decide +kernel
structure IsTx (c : Int) (w : List Nat) : Prop where
  rd : RW w = some c
  ok : ∀ x ∈ w, x = 45 ∨ isDg x = true
  ne : w ≠ []
  len : w.length ≤ 4
theorem txl_ok {c : Int} (h1 : -1000 < c) (h2 : c < 1000) : IsTx c (txl c) := by
  by_cases h : 0 ≤ c
  · obtain ⟨n, rfl⟩ := Int.eq_ofNat_of_zero_le h
    obtain ⟨a, b, d, e, f⟩ := num_read n (by omega)
    rw [txl_nat n]
    exact ⟨a, fun x hx => .inr (List.all_eq_true.mp d x hx), e, by omega⟩
  · obtain ⟨n, rfl⟩ : ∃ n : Nat, c = -(n : Int) := ⟨c.natAbs, by omega⟩
    obtain ⟨a, b, d, e, f⟩ := num_read n (by omega)
    rw [txl_neg n (by omega)]
    refine ⟨b (by omega), fun x hx => ?_, by simp, by simp; omega⟩
    rcases List.mem_cons.mp hx with rfl | hx
    · exact .inl rfl
    · exact .inr (List.all_eq_true.mp d x hx)
theorem dg_ne {x s : Nat} (h : x = 45 ∨ isDg x = true) (hs : s < 45 ∨ 57 < s ∨ s = 46 ∨ s = 47) : x ≠ s := by
  rcases h with rfl | h
  · omega
  · obtain ⟨a, ha, rfl⟩ := dig_le h; omega
/-! ### writing -/
theorem tx_fm {c : Int} (h1 : -1000 < c) (h2 : c < 1000) : fmtD (.int c) = some (.str (tx c)) ∧ strD [.int c] = some (.str (tx c)) ∧ (tx c).length ≤ 12 := by
  have hs : Sz 10 c := .of 1000 (by omega) (by omega) (by decide)
  have hl : c.natAbs.log2 < 1920 := by
    by_cases h0 : c.natAbs = 0
    · rw [h0]; decide
    · have : c.natAbs < 2 ^ 10 := by omega
      have := (Nat.log2_lt h0).mpr this
      omega
  refine ⟨if_pos hl, if_pos hl, ?_⟩
  rw [tx_mk, mk_len]
  have := (txl_ok h1 h2).len
  omega
theorem strsOf_s (l : List Str) : strsOf (l.map fun w => (.str w : D)) = some l := by
  induction l with
  | nil => rfl
  | cons a l ih => show (strsOf (l.map _)).map _ = _; rw [ih]; rfl
theorem sum_le' {B : Nat} (l : List Str) (h : ∀ w ∈ l, w.length ≤ B) : (l.map (·.length)).sum ≤ l.length * B := by
  induction l with
  | nil => simp
  | cons a l ih =>
    have h1 := ih fun w hw => h w (by simp [hw])
    have h2 := h a (by simp)
    rw [List.map_cons, List.sum_cons, List.length_cons, Nat.succ_mul]; omega
theorem join_ok' {B : Nat} (sep : Str) (l : List Str) (hsep : sep.length ≤ 1) (h : ∀ w ∈ l, w.length ≤ B) (hb : l.length * (B + 1) ≤ 16000000) : joinD sep (.list (l.map fun w => (.str w : D))) = some (.str (Txt.join sep l)) ∧ (Txt.join sep l).length ≤ l.length * (B + 1) := by
  have h1 := sum_le' l h
  have h2 : l.length * sep.length ≤ l.length * 1 := Nat.mul_le_mul_left _ hsep
  have h3 : (l.map (·.length)).sum + l.length * sep.length ≤ l.length * (B + 1) := by rw [Nat.mul_succ]; omega
  constructor
  · unfold joinD
    simp only [strsOf_s]
    rw [if_pos (by omega)]
  · rw [TL.join_eq]
    exact Nat.le_trans (StrLaws.join_length_le sep l) h3
def pw (p : List Int) : Str := if p = [] then "0" else Txt.join "," (p.map tx)
def pwl (p : List Int) : List Nat := if p = [] then [48] else joinL [44] (p.map txl)
theorem pw_mk (p : List Int) : pw p = mk (pwl p) := by
  unfold pw pwl
  by_cases h : p = []
  · rw [if_pos h, if_pos h]; decide +kernel
  · rw [if_neg h, if_neg h]
    refine ext_tl ?_
    rw [join_eq, tl_join, show tl ("," : Str) = [44] from by decide +kernel, List.map_map]
    rfl
theorem comma_len : ("," : Str).length ≤ 1 := by decide +kernel
theorem sp_len : (" " : Str).length ≤ 1 := by decide +kernel
/-- a polynomial that has a written form, as far as sizes go -/
structure PW (p : List Int) : Prop where
  len : p.length ≤ 12
  sz : ∀ c ∈ p, -1000 < c ∧ c < 1000
theorem pw_len {p : List Int} (h : PW p) : (pw p).length ≤ 200 := by
  unfold pw
  by_cases hp : p = []
  · rw [if_pos hp]; decide +kernel
  · rw [if_neg hp]
    have tl : ∀ w ∈ p.map tx, w.length ≤ 12 := fun w hw => by
      obtain ⟨c, hc, rfl⟩ := List.mem_map.mp hw
      exact (tx_fm (h.sz c hc).1 (h.sz c hc).2).2.2
    have hl := h.len
    obtain ⟨j1, j2⟩ := join_ok' (B := 12) "," (p.map tx) comma_len tl (by rw [List.length_map]; omega)
    rw [List.length_map] at j2
    omega
theorem join_tx {p : List Int} (h : PW p) (hp : p ≠ []) {f : Ev → R D} (hf : ∀ c ∈ p, ∀ (ρ : Ev) (n : Nat), ρ[n]? = some (.sh (.int c)) → True) : joinD "," (.list ((p.map tx).map fun w => (.str w : D))) = some (.str (pw p)) := by
  have hl := h.len
  have tl : ∀ w ∈ p.map tx, w.length ≤ 12 := fun w hw => by
    obtain ⟨c, hc, rfl⟩ := List.mem_map.mp hw
    exact (tx_fm (h.sz c hc).1 (h.sz c hc).2).2.2
  obtain ⟨j1, j2⟩ := join_ok' (B := 12) "," (p.map tx) comma_len tl (by rw [List.length_map]; omega)
  rw [j1]
  unfold pw
  rw [if_neg hp]
/-! ### what is written is read back -/
theorem parts_pwl {p : List Int} (h : PW p) (hp : p ≠ []) : parts (pwl p) = p.map txl := by
  unfold parts pwl
  rw [if_neg hp]
  refine spl_join (by simpa using hp) fun w hw => ?_
  obtain ⟨c, hc, rfl⟩ := List.mem_map.mp hw
  intro hm
  exact dg_ne ((txl_ok (h.sz c hc).1 (h.sz c hc).2).ok 44 hm) (by omega) rfl
theorem RPf_pwl {p : List Int} (h : PW p) (hp : p ≠ []) : RPf (pwl p) = p.map some := by
  unfold RPf
  rw [parts_pwl h hp, List.map_map]
  exact List.map_congr_left fun c hc => (txl_ok (h.sz c hc).1 (h.sz c hc).2).rd
theorem RP_pwl {p : List Int} (h : PW p) (hz : p.getLast? ≠ some 0) : RP (pwl p) = some p := by
  by_cases hp : p = []
  · subst hp; rfl
  · have f := RPf_pwl h hp
    have n48 : pwl p ≠ [48] := fun z => by
      have f2 := f
      rw [z] at f2
      have : RPf [48] = [some 0] := by decide
      rw [this] at f2
      cases p with
      | nil => exact hp rfl
      | cons a q =>
        cases q with
        | nil => simp at f2; simp [← f2] at hz
        | cons b q => simp at f2
    unfold RP
    rw [if_neg n48, f]
    have hl := h.len
    rw [if_neg]
    · simp
    · rintro (z | z | z)
      · simp at z
      · rw [List.length_map] at z; omega
      · rw [List.getLast?_map] at z
        cases q : p.getLast? with
        | none => rw [q] at z; cases z
        | some y => rw [q] at z hz; simp at z; exact hz (by rw [z])
end W

set_option Elab.async false
set_option linter.all false
set_option maxRecDepth 100000
set_option maxHeartbeats 1000000
set_option autoImplicit false
namespace VL
open PySem PySem.Spec PyProof.Rows L2

/-! ### a, *b = l -/
theorem walks_from {prog : Program} {w : World} {A : Around} {I : Addr} {fp wr : List Addr} {n i : Nat} {P : Nat → Value → Prop} {St : Nat → Heap → Prop} (W : Walks prog w A I fp wr n P St) (hi : i ≤ n) :
    Walks prog w A I fp wr (n - i) (fun j => P (i + j)) (fun j => St (i + j)) where
  sub := W.sub
  frame := fun j h h' st k => W.frame _ h h' st k
  item := fun j s Q E hj st hQ => W.item (i + j) s Q E (by omega) st fun v h' tk p st' k => hQ v h' tk p st' k
  done := fun s Q E st hQ => W.done s Q E (by rw [show i + (n - i) = n by omega] at st; exact st) hQ
  self := fun j s Q E st q => W.self (i + j) s Q E st q
/-- the items of l, those from i on but the last ones in one list -/
def starL {α : Type} (i n : Nat) (mid : List α → α) (l : List α) : List α := l.take i ++ [mid ((l.drop i).take (l.length - (n - 1)))] ++ (l.drop i).drop (l.length - (n - 1))
section
variable {prog : Program} {w : World} {A : Around} {E : Value → Shared → Prop} {s : Shared}
theorem unpack_star {l : Addr} {items : Array Value} {n i : Nat} {Q : List Value → Shared → Prop} (hh : A.handled = none) (hl : s.heap.IsList l items) (hi : i < n) (hn : n ≤ items.size + 1) (hz : items.size ≤ sizeLine)
    (hQ : ∀ s' : Shared, (∀ b o, s.heap.get? b = some o → s'.heap.get? b = some o) → s'.gens = s.gens → s'.os = s.os → s'.drawn = s.drawn →
      Q (starL i n (fun _ => .ref s'.heap.objs.size) items.toList) { s' with heap := s'.heap.push { cls := .type "list", data := .seq ((items.toList.drop i).take (items.size - (n - 1))).toArray } }) :
    wpAny (model prog w) A (unpackItems (.ref l) n (some i)) Q E s := by
  have hlt : l ≠ s.heap.objs.size := by obtain ⟨o, ho, _⟩ := hl; exact Nat.ne_of_lt (Heap.lt_size ho)
  unfold unpackItems
  refine wpAny_bind ?_
  unfold notIterableAtAll
  refine wpAny_bind (wpAny_specialOf hl.typeIs slot_list_iter.lookup ?_)
  refine wpAny_pure ?_
  simp only [Bool.false_eq_true, if_false]
  refine wpAny_bind (wpAny_holding (wpAny_pyIter_list hl ?_))
  refine wpAny_bind (wpAny_holding (PySem.W.kun_draw hlt i 0 _ _ ⟨_, Heap.get?_push_size _ rfl, rfl, rfl⟩ (hl.push _) (by omega) fun h1 hit hs1 => ?_))
  have el : (List.take i (List.drop 0 items.toList)).length = i := by simp; omega
  rw [if_neg (by rw [el]; omega)]
  have hl1 : h1.IsList l items := (hl.push _).extBut hs1.extBut hlt
  have k1 : ∀ b o, s.heap.get? b = some o → h1.get? b = some o := fun b o e => hs1.extBut b o (Nat.ne_of_lt (Heap.lt_size e)) (Heap.get?_push_of_some _ e)
  have W0 := walks_from (Walks.list (prog := prog) (w := w) (A := A.in1) hh s.heap.objs.size l hlt items) (i := i) (by omega)
  have szI : s.heap.objs.size < h1.objs.size := by
    obtain ⟨o, ho, _⟩ := hit
    exact Heap.lt_size ho
  have szl : l < h1.objs.size := by
    obtain ⟨o, ho, _⟩ := hl1
    exact Heap.lt_size ho
  refine wpAny_bind (wpAny_holding (wpAny_collect_iter (T := "list_iterator") (.inr (.inr (.inl rfl))) W0.toS (fun j s st => ?_) ⟨by simpa using hit, hl1⟩ (fun b hb => ?_) (by simp) (fun s2 acc mv ha => ?_) (by omega)))
  · obtain ⟨o, ho, hc, _⟩ := st.1
    exact ⟨o, ho, hc⟩
  · rcases List.mem_cons.mp hb with rfl | hb
    · exact szI
    · rw [List.mem_singleton.mp hb]; exact szl
  · have eacc : acc.toList = items.toList.drop i := by
      apply List.ext_getElem?
      intro j
      by_cases hj : j < acc.size
      · have h1 : acc[j]? = some acc[j] := by simp [hj]
        have h2 := ha.2 j _ h1
        rw [Array.getElem?_toList, h1, List.getElem?_drop, Array.getElem?_toList]
        exact h2.symm
      · have hs := ha.1
        rw [List.getElem?_eq_none (by simpa using hj), List.getElem?_eq_none (by simp; omega)]
    have ela : acc.toList.length = items.size - i := by rw [eacc]; simp
    rw [if_neg (by rw [ela]; omega)]
    have em : acc.toList.length - (n - 1 - i) = items.size - (n - 1) := by rw [ela]; omega
    have k2 : ∀ b o, s.heap.get? b = some o → s2.heap.get? b = some o := fun b o e => mv.heap b o (fun z => Nat.ne_of_lt (Heap.lt_size e) (List.mem_singleton.mp z)) (k1 b o e)
    refine wpAny_bind (wpAny_newList (wpAny_pure ?_) (by rw [List.length_take]; omega))
    have := hQ s2 k2 mv.gens mv.os mv.drawn
    rw [em]
    rw [eacc]
    unfold starL at this
    simpa using this
end
def gStarL (K : Fg) (i n : Nat) (t : TGs) : TG := fun v σ H Q => ∃ a xs, v = .ref a ∧ SqL K H a xs ∧ n ≤ xs.length + 1 ∧ ∀ p, H p = none → t (starL i n (fun _ => .ref p) xs) σ (upd H p (.lst ((xs.drop i).take (xs.length - (n - 1))))) Q
theorem vals_take {xs : List V} {us : List Value} (r : Vals xs us) (k : Nat) : Vals (xs.take k) (us.take k) := by
  induction r generalizing k with
  | nil => simp; exact .nil
  | cons h r ih =>
    cases k with
    | zero => simp; exact .nil
    | succ k => simp only [List.take_succ_cons]; exact .cons h (ih k)
theorem vals_drop {xs : List V} {us : List Value} (r : Vals xs us) (k : Nat) : Vals (xs.drop k) (us.drop k) := by
  induction r generalizing k with
  | nil => simp; exact .nil
  | cons h r ih =>
    cases k with
    | zero => exact .cons h r
    | succ k => simp only [List.drop_succ_cons]; exact ih k
theorem vals_app {xs ys : List V} {us ws : List Value} (r : Vals xs us) (q : Vals ys ws) : Vals (xs ++ ys) (us ++ ws) := by
  induction r with
  | nil => exact q
  | cons h r ih => exact .cons h ih
section
variable {X : Cx} {pos : Pos}
theorem pg_star {es es' : List Expr} {k n i : Nat} {t : TGs} (hc : X.calm = true) (h : PGs X es' t) (hes : (assignEach es X.env).map (·.2) = (assignEach es' X.env).map (·.2)) (hn : (assignEach es X.env).length = n) (hst : (assignEach es X.env).findIdx? (·.1) = some i) (hi : i < n) :
    PG X (.Tuple es k pos) (gStarL X.K i n t) := by
  refine ⟨fun pins s σ H v u Q I r hw => ?_⟩
  obtain ⟨a, xs, e1, hq, hl, hw⟩ := hw
  subst e1
  cases r
  obtain ⟨its, rv, pl, hz⟩ := I.list hq
  have le := rv.length
  rw [PyProof.Rows.assign_Tuple]
  refine wpAny_bind (wpAny_standAt ?_)
  unfold unpack
  rw [hn, hst]
  refine wpAny_bind (wpAny_holding (unpack_star (I.ok.hd hc) pl.isList hi (by simp; omega) (by simp; omega) fun s2 k2 g2 o2 d2 => ?_))
  have I2 : Inv X pins σ H s2 := by
    have J := I.kept (h' := s2.heap) (t' := s2.toks) k2
    have e : ({ s with heap := s2.heap, toks := s2.toks } : Shared) = s2 := by
      cases s2; cases s
      simp only at g2 o2 d2
      subst g2 o2 d2
      rfl
    rwa [e] at J
  have mid : Vals ((xs.drop i).take (xs.length - (n - 1))) ((its.drop i).take (its.length - (n - 1))) := by rw [← le]; exact vals_take (vals_drop rv i) _
  have hp := I2.hok.fresh (a := s2.heap.objs.size) (Nat.le_refl _)
  have J := I2.laid (t' := s2.toks) (a := s2.heap.objs.size) (o := .lst ((xs.drop i).take (xs.length - (n - 1)))) (h' := s2.heap.push { cls := .type "list", data := .seq ((its.drop i).take (its.length - (n - 1))).toArray }) (fun b o e => Heap.get?_push_of_some _ e) (Nat.le_refl _)
    (show ObjOk X.prog X.w _ _ _ (.lst _) from ⟨by rw [List.length_take, List.length_drop]; omega, _, _, mid, Heap.get?_push_size _ rfl⟩)
  have all : Vals (starL i n (fun _ => V.ref s2.heap.objs.size) xs) (starL i n (fun _ => Value.ref s2.heap.objs.size) its) := by
    unfold starL
    rw [← le]
    exact vals_app (vals_app (vals_take rv i) (.cons rfl .nil)) (vals_drop (vals_drop rv i) _)
  rw [hes]
  have := h.run pins _ σ _ _ _ Q J all (hw _ hp)
  simpa using this
end
/-- the targets take the items of the list l, the star's in one list -/
def sStarA (i n : Nat) (f : Ev → R D) (g : List D → Ev → Option Ev) : Ev → Out := fun ρ => liftE (f ρ) ρ fun d => match d with
  | .list l => if n ≤ l.length + 1 then (match g (starL i n .list l) ρ with
    | some ρ' => .nx ρ'
    | none => .bad) else .bad
  | _ => .bad
theorem starL_rp {K : Fg} {Hs : Hp} {l : List D} {xs : List V} {i n : Nat} {p : Addr} (r : RpL K Hs l xs) (hn : Hs p = none) : RpL K (upd Hs p (.lst ((xs.drop i).take (xs.length - (n - 1))))) (starL i n .list l) (starL i n (fun _ => .ref p) xs) := by
  have le := r.length
  have g : Same Hs (upd Hs p (.lst ((xs.drop i).take (xs.length - (n - 1))))) := fun b u q => by rw [upd_ne (ne_of_none q hn)]; exact q
  have r' := r.mono g
  unfold starL
  rw [le]
  exact ((r'.take i).append (.cons (.lst (.inl (.inl upd_same)) ((r'.drop i).take _)) .nil)).append ((r'.drop i).drop _)
section
variable {X : Cx} {W : WX} {e : Expr} {f : Ev → R D} {pos tpos : Pos}
/-- the targets without their star -/
def unstar : List Expr → List Expr
  | [] => []
  | .Starred t _ :: es => t :: unstar es
  | e :: es => e :: unstar es
theorem vs_starA {es : List Expr} {k n i : Nat} {ts : List Nat} {g : List D → Ev → Option Ev} (he : VE X W e f) (h : VGs X (unstar es) ts g) (hi : i < n) (hc : X.calm = true := by rfl)
    (hes : (assignEach es X.env).map (·.2) = (assignEach (unstar es) X.env).map (·.2) := by rfl) (hn : (assignEach es X.env).length = n := by rfl) (hst : (assignEach es X.env).findIdx? (·.1) = some i := by rfl)
    (hs : swapsWithSole [.Tuple es k tpos] e pos.line X.env = pure false := by rfl) (hw : swappedStores [.Tuple es k tpos] e X.env = pure none := by rfl)
    (h1 : (assignEach [.Tuple es k tpos] X.env).map (·.2) = [assign (.Tuple es k tpos) X.env] := by rfl) : VS X W (.Assign [.Tuple es k tpos] e pos) (sStarA i n f g) :=
  PS.imp (ps_asg he (pg_star hc h hes hn hst hi) hs hw h1) fun D σ H ⟨S, G, Hs, ρ, r, h⟩ => by
    refine ⟨S, G, Hs, ρ, r, (lift_post r h).imp fun d Hs' H' e1 q v hv => ?_⟩
    split at q
    case h_2 => exact q.elim
    case h_1 l =>
      split at q
      case isFalse => exact q.elim
      case isTrue hle =>
        cases z : g (starL i n .list l) ρ with
        | none => rw [z] at q; exact q.elim
        | some ρ' =>
          rw [z] at q
          cases hv with
          | @lst a xs _ h2 h3 =>
            have le := h3.length
            refine ⟨_, _, rfl, Same.seq e1.sub h2, by rw [← le]; exact hle, fun p hp => ?_⟩
            have hs0 : Hs' p = none := e1.sub.free hp
            have e2 := Ext.new (Hs := Hs') (H := H') (p := p) (o := .lst ((xs.drop i).take (xs.length - (n - 1)))) e1.sub hp
            exact ⟨S, G, _, ρ, _, ρ', r.step (e1.trans e2), starL_rp h3 hs0, z, fun σ' _ _ r' => q _ _ σ' e2.grow r'⟩
end
/-! ### f'k{x}' -/
def fmtC (k : Str) (d : D) : Option D := match fmtD d with
  | some (.str y) => if k.length + y.length ≤ sizeLine then some (.str (Str.empty ++ k ++ y)) else none
  | _ => none
theorem len_app (a b : Str) : (a ++ b).length = a.length + b.length := by
  rw [TL.len_tl, TL.tl_append, List.length_append, ← TL.len_tl, ← TL.len_tl]
section
variable {X : Cx} {W : WX} {e : Expr} {p0 p1 p2 : Pos} {f : Ev → R D} {k : Str} {k0 : Nat}
theorem v_fmtC (he : VP X W e f) (hk : k.length ≤ sizeLine := by decide) : VE X W (.JoinedStr [.Constant (.str k) k0 p0, .FormattedValue e (-1) none p1] p2) (e1 (fmtC k) f) :=
  PE.imp (pe_joined (.cons pe_str (.cons (pe_fmt he) .nil))) fun σ H Q ⟨S, G, Hs, ρ, r, p⟩ => by
    have l0 : (Str.empty ++ k).length = k.length := by rw [len_app]; show 0 + _ = _; omega
    refine ⟨k, rfl, by rw [l0]; exact hk, S, G, Hs, ρ, r, (Post.bind p).imp fun x Hs1 H1 e1 q u hu => ?_⟩
    have key : ∀ y : Str, Post X.K X.mg W Hs1 H1 σ (ofO (if k.length + y.length ≤ sizeLine then some (PyData.str (Str.empty ++ k ++ y) : D) else none)) (fun d Hs' H' => ∀ v, Rp X.K Hs' d v → Q v H') →
        y.length ≤ sizeLine ∧ ((Str.empty ++ k ++ y).length ≤ sizeLine ∧ Q (.str (Str.empty ++ k ++ y)) H1) := fun y q => by
      split at q
      · rename_i hc
        exact ⟨by omega, by rw [len_app, l0]; exact hc, q.now e1.sub _ (.str _)⟩
      · exact q.elim
    cases x with
    | int i =>
      by_cases hi : i.natAbs.log2 < 1920
      · have q2 := key (toString i) (by unfold fmtC fmtD at q; simpa only [if_pos hi] using q)
        exact .inr ⟨i, hu.int, hi, _, rfl, q2.2⟩
      · unfold fmtC fmtD at q
        simp only [if_neg hi] at q
        exact q.elim
    | str y =>
      by_cases hy : y.length ≤ sizeLine
      · have q2 := key y (by unfold fmtC fmtD at q; simpa only [if_pos hy] using q)
        exact .inl ⟨y, hu.str, hy, _, rfl, q2.2⟩
      · unfold fmtC fmtD at q
        simp only [if_neg hy] at q
        exact q.elim
    | _ => exact q.elim
end
end VL

set_option Elab.async false
set_option linter.all false
set_option maxRecDepth 100000
set_option maxHeartbeats 1000000
set_option autoImplicit false
namespace VL
open PySem PySem.Spec PyProof.Rows L2

/-! ### a dict of the module's top with text keys, asked with any text; the list of its keys -/
def KeysAre : List DictEntry → List Str → Prop
  | [], [] => True
  | e :: es, k :: ks => (∃ t, e.key = .str k t) ∧ KeysAre es ks
  | _, _ => False
structure GK (K : Fg) (w : World) (mg : Str → Option Value) (x : Str) (ks : List Str) : Prop where
  ex : ∃ a es n, mg x = some (.ref a) ∧ KDict K w a es n ∧ KeysAre es.toList ks
  nd : ks.Nodup
theorem keys_find {z : Str} : ∀ {es : List DictEntry} {ks : List Str}, KeysAre es ks → ((es.find? (·.key.isStr z)).isSome = decide (z ∈ ks)) ∧ (es.any (·.refKey)) = false
  | [], [], _ => ⟨by simp, rfl⟩
  | [], _ :: _, h => h.elim
  | _ :: _, [], h => h.elim
  | e :: es, k :: ks, ⟨⟨t, h⟩, hr⟩ => by
    obtain ⟨i1, i2⟩ := keys_find (z := z) hr
    constructor
    · have hk : e.key.isStr z = decide (z = k) := by
        rw [h, PySem.W.isStr_of]
        show (k == z) = _
        by_cases q : z = k
        · subst q; simp
        · have : ¬ k = z := fun w => q w.symm
          simp [q, this]
      rw [List.find?_cons, hk]
      by_cases q : z = k
      · simp [q]
      · simp only [q, decide_false]
        rw [i1]
        simp [q]
    · rw [List.any_cons, i2]
      simp [DictEntry.refKey, h]
theorem GK.gi {K : Fg} {w : World} {mg : Str → Option Value} {x : Str} {ks : List Str} (G : GK K w mg x ks) (zs : List Str) : GI K w mg x ks zs := by
  obtain ⟨a, es, n, h1, h2, h3⟩ := G.ex
  refine ⟨a, es, n, h1, h2, fun z _ => ?_⟩
  obtain ⟨i1, i2⟩ := keys_find (z := z) h3
  unfold PySem.W.nsIn
  rw [h2.at_]
  dsimp only
  cases q : es.toList.find? (·.key.isStr z) with
  | some e => exact ⟨_, rfl, by rw [q] at i1; simpa using i1⟩
  | none => exact ⟨none, by simp [i2], by rw [q] at i1; simpa using i1⟩
def gInA (ks : List Str) (neg : Bool) : D → Option D
  | .str z => some (.bool (decide (z ∈ ks) != neg))
  | _ => none
section
variable {X : Cx} {W : WX} {e : Expr} {f : Ev → R D} {ks : List Str} {x : Str} {px pos : Pos}
theorem gInA_at {ks : List Str} {neg : Bool} {ρ : Ev} {f : Ev → R D} {σ : Sg} {H : Hp} {Q : VK} (h : tE X.K X.mg W (e1 (gInA ks neg) f) σ H Q) : ∃ zs, tE X.K X.mg W (e1 (gInD ks zs neg) f) σ H Q := by
  obtain ⟨S, G, Hs, ρ, r, p⟩ := h
  cases z : f ρ with
  | bad => unfold e1 at p; rw [z] at p; exact p.elim
  | ex x => exact ⟨[], S, G, Hs, ρ, r, by unfold e1 at p ⊢; rw [z] at p ⊢; exact p⟩
  | ok d =>
    cases d with
    | str y =>
      refine ⟨[y], S, G, Hs, ρ, r, ?_⟩
      unfold e1 at p ⊢
      rw [z] at p ⊢
      simpa [gInA, gInD, R.bind] using p
    | _ => unfold e1 at p; rw [z] at p; exact p.elim
theorem t_ginA (G : GK X.K X.w X.mg x ks) (ha : VP X W e f) (hg : Gl X x := by rfl) (hdb : (x == ("__debug__" : Str)) = false := by decide) (hm : behindInMarks .In (.Name x px) = false := by first | exact nomark _ | rfl) :
    VT X W (.Compare e [.In] [.Name x px] pos) (e1 bOf (e1 (gInA ks false) f)) := by
  obtain ⟨a, es, n, h1, h2, h3⟩ := G.ex
  have ho : OpR X (compareOp .In) (fun x y H Q => ∃ (z : Str) (r : Option Value), x = .str z ∧ y = .ref a ∧ PySem.W.nsIn X.K a z = some r ∧ Q (.bl (r.isSome != false)) H) := by simpa using op_in_kd h2
  refine PT.imp (pt_cmpR ho ha (pe_glob (v := .ref a) hg h1 rfl hdb) hm) fun σ H Q ⟨S, G', Hs, ρ, r, p⟩ => ?_
  have q : tE X.K X.mg W (e1 (gInA ks false) f) σ H (fun v H1 => ∃ b, v = .bl b ∧ Q b H1) := ⟨S, G', Hs, ρ, r, (Post.bind p).imp fun d Hs1 H1 e1' q v hv => by
    cases d with
    | bool k => cases hv; exact ⟨k, rfl, q.now e1'.sub⟩
    | _ => exact q.elim⟩
  obtain ⟨zs, q⟩ := gInA_at (ρ := []) q
  obtain ⟨a', es', n', g1, g2, g3⟩ := (G.gi zs).ex
  rw [h1] at g1; cases g1
  exact sim_gin (neg := false) g3 σ H _ q
end
theorem keys_pairs {prog : Program} {w : World} : ∀ {es : List DictEntry} {ks : List Str}, KeysAre es ks → Pairs (strKind prog w) es (ks.zip (es.map (·.val))) ∧ (ks.zip (es.map (·.val))).map (·.1) = ks ∧ ks.length = es.length
  | [], [], _ => ⟨.nil, rfl, rfl⟩
  | [], _ :: _, h => h.elim
  | _ :: _, [], h => h.elim
  | e :: es, k :: ks, ⟨⟨t, h⟩, hr⟩ => by
    obtain ⟨i1, i2, i3⟩ := keys_pairs (prog := prog) (w := w) hr
    refine ⟨.cons ?_ rfl i1, by simp [i2], by simp [i3]⟩
    rw [h]
    exact strKind_is prog w k t
theorem keys_vals : ∀ {ks : List Str} {us : List Value}, us.length = ks.length → (∀ (j : Nat) (v : Value), us[j]? = some v → ∃ (k : Str) (t : Tok), ks[j]? = some k ∧ v = Value.str k t) → Vals (ks.map V.str) us
  | [], [], _, _ => .nil
  | [], _ :: _, h, _ => by simp at h
  | _ :: _, [], h, _ => by simp at h
  | k :: ks, u :: us, h, f => by
    obtain ⟨k', t, e, rfl⟩ := f 0 u rfl
    cases e
    exact .cons ⟨t, rfl⟩ (keys_vals (by simpa using h) fun j v e => f (j + 1) v e)
/-- list(d), d a dict of the module's top -/
theorem call_listK {X : Cx} {a : Addr} {es : Array DictEntry} {n : Nat} {ks : List Str} (D : KDict X.K X.w a es n) (hk : KeysAre es.toList ks) (nd : ks.Nodup) (hc : X.calm = true) (hz : ks.length ≤ sizeLine) :
    CallR X (.type "list") (fun xs H Q => xs = [.ref a] ∧ ∀ p, H p = none → Q (.ref p) (upd H p (.lst (ks.map V.str)))) := by
  intro pins s σ H xs us Q I r q
  obtain ⟨rfl, q⟩ := q
  obtain ⟨u, rfl, rx⟩ := vals1 r
  cases rx
  obtain ⟨p1, p2, p3⟩ := keys_pairs (prog := X.prog) (w := X.w) hk
  have hat : s.heap.DictAt (strKind X.prog X.w) a (ks.zip (es.toList.map (·.val))) n :=
    ⟨_, es, I.kIn _ _ D.at_, ⟨rfl, rfl, rfl⟩, rfl, fun e he => by
      obtain ⟨x, t, e1, e2⟩ := D.lit.all e (Array.mem_toList_iff.mpr he)
      exact ⟨x, by rw [e1]; exact strKind_is X.prog X.w x t, e2⟩, p1, by rw [p2]; exact nd⟩
  have lz : (ks.zip (es.toList.map (·.val))).length = ks.length := by rw [List.length_zip, List.length_map, p3]; simp
  refine PySem.W.kdl_call (PySem.W.kdl_dict (knd := strKind X.prog X.w) (kvs := ks.zip (es.toList.map (·.val))) (ep := n) D.low) (I.ok.hd hc) hat (by rw [lz]; exact hz) fun h' tk acc c' k hD hacc => ?_
  have hv : Vals (ks.map V.str) acc.toList := keys_vals (by rw [Array.length_toList, hacc.1, lz]) fun j v e => by
    obtain ⟨k1, x, e1, e2⟩ := hacc.2 j v (by rw [← Array.getElem?_toList]; exact e)
    obtain ⟨t, rfl⟩ := Value.isStrOf_shape e2
    refine ⟨k1, t, ?_, rfl⟩
    have := congrArg (Option.map Prod.fst) e1
    rw [← List.getElem?_map, p2] at this
    simpa using this
  exact ⟨.ref s.heap.objs.size, upd H s.heap.objs.size (.lst (ks.map V.str)), I.laid (t' := tk) k (Nat.le_refl _)
    (show ObjOk X.prog X.w _ _ _ (.lst _) from ⟨by rw [List.length_map]; exact hz, acc.toList, c', hv, by rw [Array.toArray_toList]; exact hD⟩), rfl, q _ (I.hok.fresh (Nat.le_refl _))⟩
def ksO (ks : List Str) : Ev → R (List D) := fun _ => .ok (ks.map .str)
theorem v_listK {X : Cx} {W : WX} {x : Str} {ks : List Str} {p px pos : Pos} (G : GK X.K X.w X.mg x ks) (hl : Gl X "list") (hm : X.mg "list" = none) (hb : bootBuiltins "list" = some (.type "list")) (hz : ks.length ≤ sizeLine := by decide) (hc : X.calm = true := by rfl) (hg : Gl X x := by rfl) (hdb : (x == ("__debug__" : Str)) = false := by decide)
    (he : starEach [.Name x px] X.env = (false, eval (.Name x px) X.env) :: starEach [] X.env := by rfl) (hpl : (backTo pos (starEach [] X.env)).any (·.1) = false := by rfl) :
    VO X W (.Call (.Name "list" p) [.Name x px] [] pos) (ksO ks) := by
  obtain ⟨a, es, n, h1, h2, h3⟩ := G.ex
  refine PE.imp (pe_callTy (call_listK h2 h3 G.nd hc hz) hl hm hb (pa_cons (pe_glob (v := .ref a) hg h1 rfl hdb) pa_nil he) (by decide) (by decide) he hpl) fun σ H Q ⟨S, G', Hs, ρ, r, p⟩ => ?_
  refine ⟨rfl, fun q hq => ?_⟩
  obtain ⟨x1, x2, x3, x4⟩ := new_own r.sub hq (rp_strs (K := X.K) (Hs := Hs) ks)
  exact p _ _ x1 q _ hq x2 x3 x4
/-! ### values that are tuples -/
def GAllT (K : Fg) (a : Addr) : List Str → List D → Prop
  | k :: ks, d :: ds => (∃ b o, PySem.W.nsIn K a k = some (some (.ref b)) ∧ K.lookup b = some o ∧ TupO o d) ∧ GAllT K a ks ds
  | _, _ => True
theorem gallT_mem {K : Fg} {a : Addr} {k : Str} {d : D} : ∀ {ks : List Str} {ds : List D}, GAllT K a ks ds → (k, d) ∈ ks.zip ds → ∃ b o, PySem.W.nsIn K a k = some (some (.ref b)) ∧ K.lookup b = some o ∧ TupO o d
  | [], _, _, h => by simp at h
  | _ :: _, [], _, h => by simp at h
  | k' :: ks, d' :: ds, g, h => by
    rw [List.zip_cons_cons, List.mem_cons] at h
    rcases h with h | h
    · cases h; exact g.1
    · exact gallT_mem g.2 h
theorem gd_mkT {K : Fg} {w : World} {mg : Str → Option Value} {x : Str} {a : Addr} {es : Array DictEntry} {n : Nat} {ks : List Str} {ds : List D} (h : mg x = some (.ref a)) (hk : K.lookup a = some ⟨.type "dict", none, .dict es n, #[]⟩) (hl : PySem.W.KeysLit w.params es.toList) (g : GAllT K a ks ds) :
    GD K w mg x ks ds := ⟨a, h, fun k d e => by
  rcases sel_mem (show (ks.zip ds).foldl (fun acc p => if k = p.1 then some p.2 else acc) none = some d from e) with z | z
  · cases z
  · obtain ⟨b, o, h1, h2, h3⟩ := gallT_mem g z
    obtain ⟨t1, ds, its, m, ps, rfl, t2, t3, t4, rfl⟩ := h3
    obtain ⟨v, r⟩ := absL_ok (K := K) t4
    exact ⟨.ref b, ⟨es, n, _, hk, hl, h1, rfl⟩, fun H => .tup (.inr ⟨o, its, m, h2, t1, t2, t3, v⟩) (r H)⟩⟩
@[simp] theorem r_gInA (ks : List Str) (neg : Bool) (z : Str) : gInA ks neg (.str z) = some (.bool (decide (z ∈ ks) != neg)) := rfl
end VL

set_option Elab.async false
set_option linter.all false
set_option maxRecDepth 100000
set_option maxHeartbeats 1000000
set_option autoImplicit false
namespace VL
open PySem PySem.Spec PySem.Calls PyProof.Rows L2

/-! ### an own exception over ValueError as an object: C(e, ..), where __init__ says super().__init__(text) and then self.f = p, .. -/
abbrev StQ := Str × Str × Pos × Pos × Pos × Pos
abbrev storeS (q : StQ) : Stmt := .Assign [.Attribute (.Name "self" q.2.2.1) q.1 q.2.2.2.1] (.Name q.2.1 q.2.2.2.2.1) q.2.2.2.2.2
abbrev supBodyF (txt : Str) (p0 p1 p2 p3 p4 pos : Pos) (k0 : Nat) (ss : List StQ) : List Stmt := .Expr (.Call (.Attribute (.Call (.Name "super" p0) [] [] p1) "__init__" p2) [.Constant (.str txt) k0 p3] [] p4) pos :: ss.map storeS
/-- names and what is stored there, the last one first -/
def zipR {α : Type} : List Str → List α → List (Str × α) → List (Str × α)
  | k :: ks, a :: as, acc => zipR ks as ((k, a) :: acc)
  | _, _, acc => acc
section
open PySem.W PySem.HandSPX
variable {prog : Program} {w : World} {A : Around} {E : Value → Shared → Prop} {g : Array GenState} {d : Drawn} {os : OsState}
theorem within_lk : ∀ (l : List (Str × Value)), Within (fun y => l.lookup y) (l.map (·.1))
  | [], y, h => absurd rfl h
  | (k, a) :: l, y, h => by
    by_cases e : y = k
    · subst e; exact List.mem_cons_self
    · refine List.mem_cons_of_mem _ (within_lk l y fun z => h ?_)
      show List.lookup y ((k, a) :: l) = none
      rw [List.lookup_cons, show (y == k) = false by simpa using e]
      exact z
theorem put_lk (k : Str) (a : Value) (l : List (Str × Value)) : (fun y => if y = k then some a else l.lookup y) = fun y => ((k, a) :: l).lookup y := by
  funext y
  show _ = List.lookup y ((k, a) :: l)
  rw [List.lookup_cons]
  by_cases e : y = k
  · rw [if_pos e, show (y == k) = true by simpa using e]
  · rw [if_neg e, show (y == k) = false by simpa using e]
/-- the fields of an exception at e: no dict as yet, or one at dx -/
def FlD (h : Heap) (e L : Addr) (dd : Option Addr) (done : List (Str × Value)) : Prop := (dd = none ∧ done = []) ∨ ∃ dx, dd = some dx ∧ L < dx ∧ dx ≠ e ∧ h.Ns1 dx (fun y => done.lookup y)
theorem stores_run {K : Frag} {C e L : Addr} {m : Str → Option Value} {fv : Array Value} {cd : ClassData} {env : Env} {h0 : Heap} {Q : Flow → Shared → Prop}
    (hcd : clsIn K C = some cd)
    (X0 : K.In h0) (hKe : K.lookup e = none) (eL : e ≠ L) (hL : h0.objs.size ≤ L)
    (kf : env.scope.kind = .function) (hfr : env.locals = L) (hself : env.kindOf "self" = some .local) (hs : m "self" = some (.ref e)) :
    ∀ (ss : List StQ) (us : List Value) (done : List (Str × Value)) (dd : Option Addr) (h : Heap) (t : Nat), (ss ≠ [] → refsVE cd.mro = true ∧ cd.hasDict = true ∧ findIn K (.ref C) "__setattr__" = some (some (.builtin "object.__setattr__"))) → ss.length = us.length →
      (∀ q ∈ ss.zip us, findIn K (.ref C) q.1.1 = some none ∧ env.kindOf q.1.2.1 = some .local ∧ m q.1.2.1 = some q.2 ∧ (q.1.2.1 == ("__debug__" : Str)) = false) →
      (∀ b o, b ≠ e → h0.get? b = some o → h.get? b = some o) → h.Ns L m → h.get? e = some { cls := .ref C, dict := dd, data := .fields fv } → FlD h e L dd done → done.length + ss.length ≤ 900 →
      (∀ h' t' dd', (∀ b o, b ≠ e → h0.get? b = some o → h'.get? b = some o) → h'.get? e = some { cls := .ref C, dict := dd', data := .fields fv } → FlD h' e L dd' (zipR (ss.map (·.1)) us done) → Q .next ⟨h', g, d, t', os⟩) →
      wpAny (model prog w) A (execs (ss.map storeS) env) Q E ⟨h, g, d, t, os⟩
  | [], [], done, dd, h, t, _, _, _, k, hn, he, hf, _, hq => wpAny_execs_nil (hq h t dd k he hf)
  | [], _ :: _, _, _, _, _, _, hl, _, _, _, _, _, _, _ => by cases hl
  | _ :: _, [], _, _, _, _, _, hl, _, _, _, _, _, _, _ => by cases hl
  | q :: ss, u :: us, done, dd, h, t, hst, hl, hqs, k, hn, he, hf, hz, hq => by
    obtain ⟨hm, hh, sa⟩ := hst (by simp)
    obtain ⟨n1, n2, n3, n4⟩ := hqs (q, u) (by simp)
    have X : K.In h := fun a o z => k a o (fun y => by rw [y, hKe] at z; cases z) (X0 a o z)
    refine wpAny_execs_cons (plainObj_wpAny_Assign_Attribute ?_)
    refine wpAny_Name (wpAny_loadName_local kf n2 (by rw [hfr]; exact hn) n3 ?_) n4
    refine wpAny_Name (wpAny_loadName_local kf hself (by rw [hfr]; exact hn) hs ?_) (by decide)
    have hs' : ss.length = us.length := by simpa using hl
    have hz' : done.length + 1 + ss.length ≤ 900 := by simp only [List.length_cons] at hz; omega
    rcases hf with ⟨rfl, rfl⟩ | ⟨dx, rfl, f1, f2, f3⟩
    · refine set_plain X (ox := { cls := .ref C, dict := none, data := .fields fv }) (od := none) ⟨he, rfl, rfl, trivial⟩ sa ?_
      refine exc_osa X he hcd hm hh n1 (fun h' tk' dx k' dn dne hx hns => ?_)
      refine stores_run hcd X0 hKe eL hL kf hfr hself hs ss us [(q.1, u)] (some dx) h' _ (fun _ => ⟨hm, hh, sa⟩) hs' (fun p hp => hqs p (by simp [hp])) (fun b o hb z => k' b o hb (k b o hb z)) (hn.at fun o z => k' L o (Ne.symm eL) z) hx (.inr ⟨dx, rfl, Nat.lt_of_lt_of_le hn.lt dn, dne, ?_⟩) (by simpa using hz') hq
      rw [← put_lk]
      exact hns
    · obtain ⟨oD, _, _, hoD, _, _⟩ := f3.count (within_lk done)
      refine set_plain X (ox := { cls := .ref C, dict := some dx, data := .fields fv }) (od := some oD) ⟨he, rfl, rfl, hoD⟩ sa ?_
      refine PySem.OEX.osa_old X he f3 (within_lk done) (by rw [List.length_map]; omega) hcd hm hh n1 (fun h' tk' k' hns => ?_)
      refine stores_run hcd X0 hKe eL hL kf hfr hself hs ss us ((q.1, u) :: done) (some dx) h' _ (fun _ => ⟨hm, hh, sa⟩) hs' (fun p hp => hqs p (by simp [hp])) (fun b o hb z => k' b o ?_ (k b o hb z)) (hn.at fun o z => k' L o (Nat.ne_of_lt f1) z) (k' e _ (Ne.symm f2) he) (.inr ⟨dx, rfl, f1, f2, ?_⟩) (by simpa using hz') hq
      · have hb' : b < h0.objs.size := Heap.lt_size z
        exact Nat.ne_of_lt (Nat.lt_of_lt_of_le hb' (Nat.le_trans hL (Nat.le_of_lt f1)))
      · rw [← put_lk]
        exact hns
variable {h : Heap} {t : Nat}
/-- the own __init__ with its stores, run -/
theorem init_run {K : Frag} {mg : Str → Option Value} {C fI cc cda e t0 : Addr} {name qual : Str} {ar : Arg} {ss : List StQ} {us : List Value} {bs : List (Str × Value)} {params : Arguments} {scope : Scope} {dV kV doc pm ct oc ccl cl : Value} {an od cdd cld : Option Addr} {osl ccs csl : Array (Option Value)} {txt : Str} {p0 p1 p2 p3 p4 pos : Pos} {k0 : Nat}
    {vs : Array Value} {file : Str} {tf : Tok} {cd : ClassData} {R : Result → Shared → Prop} (X : K.In h) (glob : h.Ns mainGlobals mg) (hsup : mg "super" = none) (blt : ∃ mb, h.Ns builtinsNs mb ∧ ∀ x : Str, x ≠ "__name__" → mb x = bootBuiltins x) (lim : h.NoLimit) (hroom : A.depth < recursionLimit)
    (q : excInitIn K C PySem.HandSPX.veTail "ValueError.__new__" = true) (lk : K.lookup fI = some ⟨oc, od, .func (ksFn name qual params (supBodyF txt p0 p1 p2 p3 p4 pos k0 ss) scope dV kV doc pm an (.ref cda) ct cc), osl⟩) (hcd : codeIn K (.ref cda) qual = true)
    (hp : (params.posonlyargs ++ params.args).head? = some ar) (hb : ∀ s : Shared, BindsTo s (ksFn name qual params (supBodyF txt p0 p1 p2 p3 p4 pos k0 ss) scope dV kV doc pm an (.ref cda) ct cc) ⟨.ref e :: us, []⟩ bs)
    (hcode : K.lookup cda = some ⟨ccl, cdd, .fields vs, ccs⟩) (hvs : vs[2]? = some (.str file tf)) (hfile : ((prog.main.file : Str) == file) = true)
    (hcell : K.lookup cc = some ⟨cl, cld, .cell (some (.ref C)), csl⟩) (hC : clsIn K C = some cd) (hsub : mroIn K C (.ref C) = some true) (hm : ks_superIn K C C "__init__" = some (some (.builtin "ValueError.__init__"))) (hB : subIn K (.ref C) (.type "ValueError") = some true)
    (hop : nsIn K cStatics "thirdparty.any" = some none) (hks : scope.names.lookup ("super" : Str) = some .globalImplicit) (hkc : scope.names.lookup ("__class__" : Str) = some .free) (hka : scope.names.lookup ar.arg = some .local) (hk : scope.kind = .function)
    (hco : scope.isCoroutine = false) (hgen : scope.isGenerator = false) (hnc : ∀ x ∈ scope.names, x.2 ≠ .cell) (htop : (prog.main.scope.names.lookup ("super" : Str)).isSome = false)
    (he : h.get? e = some (PySem.HandSPX.excO C t0)) (eC : e ≠ C) (hev : SupCall txt p0 p1 p2 p3 p4 k0)
    (hKe : K.lookup e = none) (har : ar.arg = "self") (hloc : ∀ x ∈ bs, scope.names.lookup x.1 = some .local) (hse : bs.reverse.lookup ("self" : Str) = some (.ref e))
    (hst : ss ≠ [] → PySem.HandSPX.refsVE cd.mro = true ∧ cd.hasDict = true ∧ findIn K (.ref C) "__setattr__" = some (some (.builtin "object.__setattr__"))) (hlen : ss.length = us.length) (hl9 : ss.length ≤ 900)
    (hqs : ∀ q ∈ ss.zip us, findIn K (.ref C) q.1.1 = some none ∧ scope.names.lookup q.1.2.1 = some .local ∧ bs.reverse.lookup q.1.2.1 = some q.2 ∧ (q.1.2.1 == ("__debug__" : Str)) = false)
    (hR : ∀ h' t1 tk dd', (∀ b o, b ≠ e → h.get? b = some o → h'.get? b = some o) → h'.get? e = some { cls := .ref C, dict := dd', data := .fields #[.ref t1, .none, .none, .none, .bool false, .none] } → FlD h' e h.objs.size dd' (zipR (ss.map (·.1)) us []) → R (.ok (.ret .none)) ⟨h', g, d, tk, os⟩) :
    codeAny (model prog w) A (.call (.ref fI) ⟨.ref e :: us, []⟩) R ⟨h, g, d, t, os⟩ := by
  refine ks_codeAny_call_defAt hroom (X _ _ lk) rfl lim (codeRec_of X hcd) rfl (hb _) hnc (fun x hx => ?_) (fun h₀ hns k => ?_) hco hgen hk
  · exact hloc x hx
  · have X₀ : K.In h₀ := X.keeps k
    show PySem.wpAt (model prog w) (A.deeper (ksEnv qual scope h.objs.size fI (.ref cda) cc)) (.func (supBodyF txt p0 p1 p2 p3 p4 pos k0 ss) (ksEnv qual scope h.objs.size fI (.ref cda) cc)) (execs (supBodyF txt p0 p1 p2 p3 p4 pos k0 ss) (ksEnv qual scope h.objs.size fI (.ref cda) cc)) _ _ _
    obtain ⟨pl, hev⟩ := hev (ksEnv qual scope h.objs.size fI (.ref cda) cc)
    have hi : interactive (ksEnv qual scope h.objs.size fI (.ref cda) cc) = false := by
      show (scope.kind == .module && _) = false
      rw [hk]; rfl
    obtain ⟨mb, b1, b2⟩ := blt
    obtain ⟨oC, hC1, hC2⟩ : ∃ oC, h₀.get? C = some oC ∧ oC.data = .cls cd := by
      have hC := hC
      unfold clsIn at hC
      split at hC
      · rename_i c d cd' sl ho
        cases hC
        exact ⟨_, X₀ _ _ ho, rfl⟩
      · cases hC
    have he0 := k _ _ he
    refine ks_wpAt_execs_cons (ks_wpAt_Expr_any (ks_wpAt_MethodCall ?_ hev) hi)
    refine ks_wpAt_super_base (env := ksEnv qual scope h.objs.size fI (.ref cda) cc) hks hkc (by decide) rfl (X₀ _ _ lk) rfl hp rfl (X₀ _ _ hcode) rfl hvs hfile htop ?_
    refine ks_loadName_global hk hks (loadGlobal_builtin (env := ksEnv qual scope h.objs.size fI (.ref cda) cc) (glob.keeps k) hsup (b1.keeps k) ((b2 _ (by decide +kernel)).trans boot_super) ⟨rfl, ?_⟩)
    refine wpAny_loadName_free hk hkc rfl ⟨_, X₀ _ _ hcell, rfl⟩ ?_
    have hv : (fun x => bs.reverse.lookup x) ar.arg = some (.ref e) := by rw [har]; exact hse
    refine wpAny_loadName_local hk hka hns hv ?_
    refine ks_wpAny_isType_cls hC1 hC2 ⟨rfl, ?_⟩
    refine ks_wpAny_call_super hC1 hC2 he0 rfl (fun c z => by cases z) (looks_mroIn X₀ hsub) (fun h1 e1' k1 => ?_)
    have X1 : K.In h1 := X₀.keeps k1
    have KC : ∃ cd', clsIn K C = some cd' := ⟨_, hC⟩
    have hm' : alongIn K "__init__" ((cd.mro.dropWhile (· != .ref C)).drop 1) = some (some (.builtin "ValueError.__init__")) := by
      unfold ks_superIn at hm
      rw [hC] at hm
      exact hm
    have TI : ∀ hh : Heap, hh.get? e = some (PySem.HandSPX.excO C t0) → K.In hh → Looks (model prog w) hh (isInstance (.ref e) (.type "ValueError")) true := fun hh z zX =>
      (InstAt.type (⟨z, rfl, rfl, trivial⟩ : InstAt hh e (PySem.HandSPX.excO C t0) C none)).andThen (looks_subIn zX hB)
    refine kxs_getMethod kxs_ValueError e1' (looks_opaque X1 hop) (l₀ := cd.mro) ?_ rfl X1 hm' (TI h1 (k1 _ _ he0) X1) eC (by decide) ?_
    · exact fun A Q E s k q => wpAny_bind ((looks_clsIn X1 hC) A _ E s k (wpAny_pure q))
    · have k2 : ∀ b o, h1.get? b = some o → (h1.push (kxs_mw "ValueError.__init__" e)).get? b = some o := fun b o z => Heap.get?_push_of_some _ z
      have hu : (h1.push (kxs_mw "ValueError.__init__" e)).get? h1.objs.size = some (kxs_mw "ValueError.__init__" e) := Heap.get?_push_at rfl rfl
      have X2 : K.In (h1.push (kxs_mw "ValueError.__init__" e)) := X1.keeps k2
      have he2 := k2 _ _ (k1 _ _ he0)
      show wpAny (model prog w) _ (callWith p4 (.ref h1.objs.size) [] (backTo p4 (starEach [.Constant (.str txt) k0 p3] _)) []) _ _ _
      refine kxs_callWith (i := "ValueError.__init__") (x := e) rfl (evalArgs_plain (spliced_more (Constant_str (spliced_none ⟨hu, ?_⟩))))
      refine call_mw X2 q hu he2 (by show 1 ≤ sizeLine; decide) fun h' t1 kk ee => ?_
      have eL : e ≠ h.objs.size := Nat.ne_of_lt (Heap.lt_size he)
      refine wpAt_of_wpAny (stores_run (fv := #[.ref t1, .none, .none, .none, .bool false, .none]) (env := ksEnv qual scope h.objs.size fI (.ref cda) cc) (L := h.objs.size) (m := fun x => bs.reverse.lookup x) hC X hKe eL (Nat.le_refl _) hk rfl (by rw [← har]; exact hka) hse ss us [] none h' _ hst hlen hqs (fun b o hb z => kk b o hb (k2 _ _ (k1 _ _ (k _ _ z)))) (hns.at fun o z => kk _ o (Ne.symm eL) (k2 _ _ (k1 _ _ z))) ee (.inl ⟨rfl, rfl⟩) (by simpa using hl9) fun h2 t2 dd2 z1 z2 z3 => ?_)
      exact hR h2 t1 _ dd2 z1 z2 z3
end

/-- what the written part says of such a class -/
structure SupF (P : Program) (K : Fg) (C fI cc cda : Addr) (name qual : Str) (params : Arguments) (scope : Scope) (txt : Str) (p0 p1 p2 p3 p4 pos : Pos) (k0 : Nat) (ss : List StQ) : Prop where
  ini : PySem.W.excInitIn K C PySem.HandSPX.veTail "ValueError.__new__" = true
  fun_ : ∃ (oc kV doc pm ct : Value) (od an : Option Addr) (osl : Array (Option Value)), K.lookup fI = some ⟨oc, od, .func (PySem.W.ksFn name qual params (supBodyF txt p0 p1 p2 p3 p4 pos k0 ss) scope .none kV doc pm an (.ref cda) ct cc), osl⟩
  code : PySem.W.codeIn K (.ref cda) qual = true
  par : (params.posonlyargs ++ params.args).head?.map (·.arg) = some "self"
  binds : ∀ (kV doc pm ct : Value) (an : Option Addr) (a : Value) (us : List Value) (s : Shared), us.length = ss.length → BindsTo s (PySem.W.ksFn name qual params (supBodyF txt p0 p1 p2 p3 p4 pos k0 ss) scope .none kV doc pm an (.ref cda) ct cc) ⟨a :: us, []⟩ ((("self" : Str), a) :: (ss.map (·.2.1)).zip us)
  bself : ∀ (a : Value) (us : List Value), us.length = ss.length → ((("self" : Str), a) :: (ss.map (·.2.1)).zip us).reverse.lookup ("self" : Str) = some a
  bpar : ∀ (a : Value) (us : List Value), us.length = ss.length → ∀ q ∈ ss.zip us, ((("self" : Str), a) :: (ss.map (·.2.1)).zip us).reverse.lookup q.1.2.1 = some q.2
  bloc : ∀ p ∈ ("self" : Str) :: ss.map (·.2.1), scope.names.lookup p = some .local
  bdb : ∀ q ∈ ss, (q.2.1 == ("__debug__" : Str)) = false
  nof : ∀ q ∈ ss, PySem.W.findIn K (.ref C) q.1 = some none
  few : ss.length ≤ 900
  file : ∃ (ccl : Value) (cdd : Option Addr) (vs : Array Value) (ccs : Array (Option Value)) (file : Str) (tf : Tok), K.lookup cda = some ⟨ccl, cdd, .fields vs, ccs⟩ ∧ vs[2]? = some (.str file tf) ∧ ((P.main.file : Str) == file) = true
  cell : ∃ (cl : Value) (cld : Option Addr) (csl : Array (Option Value)), K.lookup cc = some ⟨cl, cld, .cell (some (.ref C)), csl⟩
  cls : ∃ cd, PySem.W.clsIn K C = some cd ∧ (ss ≠ [] → PySem.HandSPX.refsVE cd.mro = true ∧ cd.hasDict = true ∧ PySem.W.findIn K (.ref C) "__setattr__" = some (some (.builtin "object.__setattr__")))
  sub : PySem.W.mroIn K C (.ref C) = some true
  sup : PySem.W.ks_superIn K C C "__init__" = some (some (.builtin "ValueError.__init__"))
  subB : PySem.W.subIn K (.ref C) (.type "ValueError") = some true
  iC : PySem.W.findIn K (.ref C) "__init__" = some (some (.ref fI))
  tI : PySem.W.typeIn K (.ref fI) = some (.type "function")
  kC : PySem.W.keepIn K (.ref C) = true
  op : PySem.W.nsIn K cStatics "thirdparty.any" = some none
  ks : scope.names.lookup ("super" : Str) = some .globalImplicit
  kc : scope.names.lookup ("__class__" : Str) = some .free
  kind : scope.kind = .function
  co : scope.isCoroutine = false
  gen : scope.isGenerator = false
  nc : ∀ x ∈ scope.names, x.2 ≠ .cell
  top : (P.main.scope.names.lookup ("super" : Str)).isSome = false
  ev : SupCall txt p0 p1 p2 p3 p4 k0
/-- an own class as one makes its objects -/
structure ExF (P : Program) (K : Fg) (n : Str) (fs : List Str) (C : Addr) : Prop where
  nm : PySem.W.nsIn K mainGlobals n = some (some (.ref C))
  sup : ∃ (fI cc cda : Addr) (name qual : Str) (params : Arguments) (scope : Scope) (txt : Str) (p0 p1 p2 p3 p4 pos : Pos) (k0 : Nat) (ss : List StQ), SupF P K C fI cc cda name qual params scope txt p0 p1 p2 p3 p4 pos k0 ss ∧ ss.map (·.1) = fs
theorem zipR_keys {α β : Type} : ∀ (fs : List Str) (as : List α) (bs : List β) (x : List (Str × α)) (y : List (Str × β)), as.length = bs.length → x.map (·.1) = y.map (·.1) → (zipR fs as x).map (·.1) = (zipR fs bs y).map (·.1)
  | [], _, _, _, _, _, h => by simpa [zipR] using h
  | _ :: _, [], [], _, _, _, h => by simpa [zipR] using h
  | _ :: _, [], _ :: _, _, _, e, _ => by cases e
  | _ :: _, _ :: _, [], _, _, e, _ => by cases e
  | k :: ks, a :: as, b :: bs, x, y, e, h => by
    simp only [zipR]
    exact zipR_keys ks as bs _ _ (by simpa using e) (by simp [h])
theorem zipR_rp {K : Fg} {H : Hp} : ∀ (fs : List Str) (ds : List D) (vs : List V) (x : List (Str × D)) (y : List (Str × V)), RpL K H ds vs → RpL K H (x.map (·.2)) (y.map (·.2)) → RpL K H ((zipR fs ds x).map (·.2)) ((zipR fs vs y).map (·.2))
  | [], _, _, _, _, _, h => by simpa [zipR] using h
  | _ :: _, _, _, _, _, .nil, h => by simpa [zipR] using h
  | k :: ks, _, _, x, y, .cons r rs, h => by
    simp only [zipR]
    exact zipR_rp ks _ _ _ _ rs (.cons r h)
theorem zipR_rel : ∀ (fs : List Str) (vs : List V) (us : List Value) (x : List (Str × V)) (y : List (Str × Value)), Vals vs us → (∀ f, RelO (x.lookup f) (y.lookup f)) → ∀ f, RelO ((zipR fs vs x).lookup f) ((zipR fs us y).lookup f)
  | [], _, _, _, _, _, h => by simpa [zipR] using h
  | _ :: _, _, _, _, _, .nil, h => by simpa [zipR] using h
  | k :: ks, _, _, x, y, .cons r rs, h => by
    simp only [zipR]
    refine zipR_rel ks _ _ _ _ rs fun f => ?_
    have q := relO_put (f := k) r h f
    exact Eq.mp (congrArg (RelO _) (congrFun (put_lk k _ y) f)) q
section
variable {X : Cx} {pins : List (Addr × Obj)} {σ : Sg} {H : Hp} {s : Shared} {n : Str} {fs : List Str} {C : Addr}
end
end VL

set_option Elab.async false
set_option linter.all false
set_option maxRecDepth 100000
set_option maxHeartbeats 1000000
set_option autoImplicit false
namespace VL
open PySem PySem.Spec PySem.Calls PyProof.Rows L2

/-! ### C(), C(e, ..) -/
def newD (n : Str) (fs : List Str) (ds : List D) : D := xoD n ((zipR fs ds []).map (·.1)) ((zipR fs ds []).map (·.2))
def eNew (n : Str) (fs : List Str) (g : Ev → R (List D)) : Ev → R D := fun ρ => (g ρ).bind fun ds => if ds.length = fs.length then .ok (newD n fs ds) else .bad
section
variable {X : Cx} {W : WX} {x n : Str} {fs : List Str} {C : Addr} {p pos : Pos} {e : Expr} {es : List Expr} {g : Ev → R (List D)}
end

/-! ### isinstance(x, C), x such an object -/
def xoN : D → Option Str
  | .dict [(.int 4, .str n), (.int 5, .dict _)] => some n
  | _ => none
/-! ### x.f -/
def selF : List Str → List D → Str → Option D
  | k :: ks, d :: ds, f => if f = k then some d else selF ks ds f
  | _, _, _ => none
theorem selF_rp {K : Fg} {H : Hp} : ∀ {ks : List Str} {ds : List D} {vs : List V} {f : Str} {d : D}, RpL K H ds vs → selF ks ds f = some d → ∃ v, (ks.zip vs).lookup f = some v ∧ Rp K H d v
  | [], _, _, _, _, _, h => by simp [selF] at h
  | _ :: _, _, _, _, _, .nil, h => by simp [selF] at h
  | k :: ks, _, _, f, d, .cons r rs, h => by
    simp only [selF] at h
    simp only [List.zip_cons_cons]
    by_cases e : f = k
    · rw [if_pos e] at h
      cases h
      exact ⟨_, by rw [lookup_put, if_pos e], r⟩
    · rw [if_neg e] at h
      obtain ⟨v, h1, h2⟩ := selF_rp rs h
      exact ⟨v, by rw [lookup_put, if_neg e]; exact h1, h2⟩
/-! ### rows -/
@[simp] theorem r_eNew (n : Str) (fs : List Str) (g : Ev → R (List D)) (ρ : Ev) : eNew n fs g ρ = (g ρ).bind fun ds => if ds.length = fs.length then .ok (newD n fs ds) else .bad := rfl
@[simp] theorem r_xoN (n : Str) (fs : List Str) (ds : List D) : xoN (newD n fs ds) = some n := rfl
end VL

set_option Elab.async false
set_option linter.all false
set_option maxRecDepth 100000
set_option maxHeartbeats 1000000
set_option autoImplicit false
namespace VL
open PySem PySem.Spec PyProof.Rows L2
/-- an own class as one makes its objects, and asks of what class they are -/
structure ExO (P : Program) (K : Fg) (n : Str) (fs : List Str) (C : Addr) : Prop where
  f : ExF P K n fs C
  exc : ExcC K C
theorem ExO.kC {P : Program} {K : Fg} {n : Str} {fs : List Str} {C : Addr} (S : ExO P K n fs C) : PySem.W.keepIn K (.ref C) = true := by
  obtain ⟨_, _, _, _, _, _, _, _, _, _, _, _, _, _, _, _, s, _⟩ := S.f.sup
  exact s.kC
theorem ExO.nof {P : Program} {K : Fg} {n : Str} {fs : List Str} {C : Addr} (S : ExO P K n fs C) {f : Str} (hf : f ∈ fs) : PySem.W.findIn K (.ref C) f = some none := by
  obtain ⟨_, _, _, _, _, _, _, _, _, _, _, _, _, _, _, ss, s, rfl⟩ := S.f.sup
  obtain ⟨q, hq, rfl⟩ := List.mem_map.mp hf
  exact s.nof q hq
section
variable {P : Program} {K : Fg} {n : Str} {C fI cc cda : Addr} {name qual : Str} {params : Arguments} {scope : Scope} {txt : Str} {p0 p1 p2 p3 p4 pos : Pos} {k0 : Nat} {ss : List StQ}
  {oc kV doc pm ct ccl ccv : Value} {od an cdd cld : Option Addr} {osl ccs csl : Array (Option Value)} {vs : Array Value} {file : Str} {tf : Tok} {cd : ClassData}
theorem exO_mk (nm : PySem.W.nsIn K mainGlobals n = some (some (.ref C))) (iC : PySem.W.findIn K (.ref C) "__init__" = some (some (.ref fI))) (tI : PySem.W.typeIn K (.ref fI) = some (.type "function"))
    (lk : K.lookup fI = some ⟨oc, od, .func (PySem.W.ksFn name qual params (supBodyF txt p0 p1 p2 p3 p4 pos k0 ss) scope .none kV doc pm an (.ref cda) ct cc), osl⟩) (code : PySem.W.codeIn K (.ref cda) qual = true)
    (lc : K.lookup cda = some ⟨ccl, cdd, .fields vs, ccs⟩) (fil : vs[2]? = some (.str file tf)) (fe : ((P.main.file : Str) == file) = true) (lcell : K.lookup cc = some ⟨ccv, cld, .cell (some (.ref C)), csl⟩)
    (ini : PySem.W.excInitIn K C PySem.HandSPX.veTail "ValueError.__new__" = true) (cl : PySem.W.clsIn K C = some cd) (rv : PySem.HandSPX.refsVE cd.mro = true) (hdc : cd.hasDict = true) (sa : PySem.W.findIn K (.ref C) "__setattr__" = some (some (.builtin "object.__setattr__")))
    (sub : PySem.W.mroIn K C (.ref C) = some true) (sup : PySem.W.ks_superIn K C C "__init__" = some (some (.builtin "ValueError.__init__")))
    (subB : PySem.W.subIn K (.ref C) (.type "ValueError") = some true) (exC : PySem.W.subIn K (.ref C) (.type "BaseException") = some true) (kC : PySem.W.keepIn K (.ref C) = true)
    (op : PySem.W.nsIn K cStatics "thirdparty.any" = some none)
    (hg : PySem.W.findIn K (.ref C) "__getattribute__" = some (some (.builtin "BaseException.__getattribute__"))) (hk : PySem.W.findIn K (.ref C) "__getattr__" = some none) (hd : PySem.W.hasDictIn K C = true)
    (ha : PySem.W.findIn K (.ref C) "__class__" = some (some (.builtin "object.__class__"))) (hn : PySem.W.specialIn K (.builtin "object.__class__") "__get__" = some (some (.builtin "getset_descriptor.__get__")))
    (ht : PySem.W.takesIn K (.builtin "object.__class__") = some true) (hm : PySem.W.mroIn K C (.type "object") = some true)
    (nof : ∀ q ∈ ss, PySem.W.findIn K (.ref C) q.1 = some none)
    (par : (params.posonlyargs ++ params.args).head?.map (·.arg) = some "self")
    (binds : ∀ (kV doc pm ct : Value) (an : Option Addr) (a : Value) (us : List Value) (s : Shared), us.length = ss.length → BindsTo s (PySem.W.ksFn name qual params (supBodyF txt p0 p1 p2 p3 p4 pos k0 ss) scope .none kV doc pm an (.ref cda) ct cc) ⟨a :: us, []⟩ ((("self" : Str), a) :: (ss.map (·.2.1)).zip us))
    (bself : ∀ (a : Value) (us : List Value), us.length = ss.length → ((("self" : Str), a) :: (ss.map (·.2.1)).zip us).reverse.lookup ("self" : Str) = some a)
    (bpar : ∀ (a : Value) (us : List Value), us.length = ss.length → ∀ q ∈ ss.zip us, ((("self" : Str), a) :: (ss.map (·.2.1)).zip us).reverse.lookup q.1.2.1 = some q.2)
    (bloc : ∀ p ∈ ("self" : Str) :: ss.map (·.2.1), scope.names.lookup p = some .local)
    (bdb : ∀ q ∈ ss, (q.2.1 == ("__debug__" : Str)) = false) (few : ss.length ≤ 900)
    (ks : scope.names.lookup ("super" : Str) = some .globalImplicit) (kc : scope.names.lookup ("__class__" : Str) = some .free) (kind : scope.kind = .function) (co : scope.isCoroutine = false) (gen : scope.isGenerator = false)
    (nc : ∀ x ∈ scope.names, x.2 ≠ .cell) (top : (P.main.scope.names.lookup ("super" : Str)).isSome = false) (ev : SupCall txt p0 p1 p2 p3 p4 k0) : ExO P K n (ss.map (·.1)) C :=
  ⟨⟨nm, _, _, _, _, _, _, _, _, _, _, _, _, _, _, _, _, ⟨ini, ⟨_, _, _, _, _, _, _, _, lk⟩, code, par, binds, bself, bpar, bloc, bdb, nof, few, ⟨_, _, _, _, _, _, lc, fil, fe⟩, ⟨_, _, _, lcell⟩, ⟨_, cl, fun _ => ⟨rv, hdc, sa⟩⟩, sub, sup, subB, iC, tI, kC, op, ks, kc, kind, co, gen, nc, top, ev⟩, rfl⟩, ⟨hg, hk, exC, hd, ha, hn, ht, hm⟩⟩
theorem exO_mk2 {f0 q0 : Str} {x0 y0 z0 w0 : Pos} {f1 q1 : Str} {x1 y1 z1 w1 : Pos} (nm : PySem.W.nsIn K mainGlobals n = some (some (.ref C))) (iC : PySem.W.findIn K (.ref C) "__init__" = some (some (.ref fI))) (tI : PySem.W.typeIn K (.ref fI) = some (.type "function"))
    (lk : K.lookup fI = some ⟨oc, od, .func (PySem.W.ksFn name qual params (supBodyF txt p0 p1 p2 p3 p4 pos k0 ([(f0, q0, x0, y0, z0, w0), (f1, q1, x1, y1, z1, w1)] : List StQ)) scope .none kV doc pm an (.ref cda) ct cc), osl⟩) (code : PySem.W.codeIn K (.ref cda) qual = true)
    (lc : K.lookup cda = some ⟨ccl, cdd, .fields vs, ccs⟩) (fil : vs[2]? = some (.str file tf)) (fe : ((P.main.file : Str) == file) = true) (lcell : K.lookup cc = some ⟨ccv, cld, .cell (some (.ref C)), csl⟩)
    (ini : PySem.W.excInitIn K C PySem.HandSPX.veTail "ValueError.__new__" = true) (cl : PySem.W.clsIn K C = some cd) (rv : PySem.HandSPX.refsVE cd.mro = true) (hdc : cd.hasDict = true) (sa : PySem.W.findIn K (.ref C) "__setattr__" = some (some (.builtin "object.__setattr__")))
    (sub : PySem.W.mroIn K C (.ref C) = some true) (sup : PySem.W.ks_superIn K C C "__init__" = some (some (.builtin "ValueError.__init__")))
    (subB : PySem.W.subIn K (.ref C) (.type "ValueError") = some true) (exC : PySem.W.subIn K (.ref C) (.type "BaseException") = some true) (kC : PySem.W.keepIn K (.ref C) = true)
    (op : PySem.W.nsIn K cStatics "thirdparty.any" = some none)
    (hg : PySem.W.findIn K (.ref C) "__getattribute__" = some (some (.builtin "BaseException.__getattribute__"))) (hk : PySem.W.findIn K (.ref C) "__getattr__" = some none) (hd : PySem.W.hasDictIn K C = true)
    (ha : PySem.W.findIn K (.ref C) "__class__" = some (some (.builtin "object.__class__"))) (hn : PySem.W.specialIn K (.builtin "object.__class__") "__get__" = some (some (.builtin "getset_descriptor.__get__")))
    (ht : PySem.W.takesIn K (.builtin "object.__class__") = some true) (hm : PySem.W.mroIn K C (.type "object") = some true)
    (nof : ∀ q ∈ ([(f0, q0, x0, y0, z0, w0), (f1, q1, x1, y1, z1, w1)] : List StQ), PySem.W.findIn K (.ref C) q.1 = some none)
    (par : (params.posonlyargs ++ params.args).head?.map (·.arg) = some "self")
    (binds : ∀ (kV doc pm ct : Value) (an : Option Addr) (a : Value) (us : List Value) (s : Shared), us.length = ([(f0, q0, x0, y0, z0, w0), (f1, q1, x1, y1, z1, w1)] : List StQ).length → BindsTo s (PySem.W.ksFn name qual params (supBodyF txt p0 p1 p2 p3 p4 pos k0 ([(f0, q0, x0, y0, z0, w0), (f1, q1, x1, y1, z1, w1)] : List StQ)) scope .none kV doc pm an (.ref cda) ct cc) ⟨a :: us, []⟩ ((("self" : Str), a) :: (([(f0, q0, x0, y0, z0, w0), (f1, q1, x1, y1, z1, w1)] : List StQ).map (·.2.1)).zip us))
    (bself : ∀ (a : Value) (us : List Value), us.length = ([(f0, q0, x0, y0, z0, w0), (f1, q1, x1, y1, z1, w1)] : List StQ).length → ((("self" : Str), a) :: (([(f0, q0, x0, y0, z0, w0), (f1, q1, x1, y1, z1, w1)] : List StQ).map (·.2.1)).zip us).reverse.lookup ("self" : Str) = some a)
    (bpar : ∀ (a : Value) (us : List Value), us.length = ([(f0, q0, x0, y0, z0, w0), (f1, q1, x1, y1, z1, w1)] : List StQ).length → ∀ q ∈ ([(f0, q0, x0, y0, z0, w0), (f1, q1, x1, y1, z1, w1)] : List StQ).zip us, ((("self" : Str), a) :: (([(f0, q0, x0, y0, z0, w0), (f1, q1, x1, y1, z1, w1)] : List StQ).map (·.2.1)).zip us).reverse.lookup q.1.2.1 = some q.2)
    (bloc : ∀ p ∈ ("self" : Str) :: ([(f0, q0, x0, y0, z0, w0), (f1, q1, x1, y1, z1, w1)] : List StQ).map (·.2.1), scope.names.lookup p = some .local)
    (bdb : ∀ q ∈ ([(f0, q0, x0, y0, z0, w0), (f1, q1, x1, y1, z1, w1)] : List StQ), (q.2.1 == ("__debug__" : Str)) = false) (few : ([(f0, q0, x0, y0, z0, w0), (f1, q1, x1, y1, z1, w1)] : List StQ).length ≤ 900)
    (ks : scope.names.lookup ("super" : Str) = some .globalImplicit) (kc : scope.names.lookup ("__class__" : Str) = some .free) (kind : scope.kind = .function) (co : scope.isCoroutine = false) (gen : scope.isGenerator = false)
    (nc : ∀ x ∈ scope.names, x.2 ≠ .cell) (top : (P.main.scope.names.lookup ("super" : Str)).isSome = false) (ev : SupCall txt p0 p1 p2 p3 p4 k0) : ExO P K n [f0, f1] C :=
  exO_mk (ss := [(f0, q0, x0, y0, z0, w0), (f1, q1, x1, y1, z1, w1)]) nm iC tI lk code lc fil fe lcell ini cl rv hdc sa sub sup subB exC kC op hg hk hd ha hn ht hm nof par binds bself bpar bloc bdb few ks kc kind co gen nc top ev
end
section
variable {X : Cx} {W : WX} {x n : Str} {fs : List Str} {C : Addr} {p pos : Pos} {e : Expr} {es : List Expr} {g : Ev → R (List D)}
end
end VL

set_option Elab.async false
set_option linter.all false
set_option maxRecDepth 100000
set_option maxHeartbeats 1000000
set_option autoImplicit false
namespace VL
open PySem PySem.Spec PySem.Calls PyProof.Rows L2

/-! ### raise C(e, ..) with fields -/
def sRaiseF (n : Str) (fs : List Str) (g : Ev → R (List D)) : Ev → Out := fun ρ => match g ρ with
  | .ok ds => if ds.length = fs.length then .ex ⟨n, zipR fs ds []⟩ ρ else .bad
  | _ => .bad
section
variable {X : Cx} {pins : List (Addr × Obj)} {σ : Sg} {H : Hp} {s : Shared} {n : Str} {fs : List Str} {C : Addr}
theorem zipR_len {α : Type} : ∀ (fs : List Str) (as : List α) (x : List (Str × α)), fs.length = as.length → (zipR fs as x).length = x.length + fs.length
  | [], _, x, _ => by simp [zipR]
  | _ :: _, [], _, h => by cases h
  | k :: ks, a :: as, x, h => by
    simp only [zipR]
    rw [zipR_len ks as _ (by simpa using h)]
    simp; omega
theorem mk_new (S0 : ExF X.prog X.K n fs C) (E : ExcC X.K C) (tyC : PySem.W.typeIn X.K (.ref C) = some (.type "type")) (h0 : fs ≠ []) (I : Inv X pins σ H s) (hr : Room 1 X.A) (hsup : X.mg "super" = none) {us : List Value} {vs : List V} (r : Vals vs us) (hl : us.length = fs.length) {Q : XK}
    (hq : ∀ dx, H dx = none → Q (.ref C) (some dx) (upd H dx (.xd (zipR fs vs [])))) :
    wpAny (model X.prog X.w) X.A (call (.ref C) us) (L2N.MkP X pins σ Q) X.xe s := by
  obtain ⟨fI, cc, cda, name, qual, params, scope, txt, p0, p1, p2, p3, p4, pos, k0, ss, S, rfl⟩ := S0.sup
  have hlu : us.length = ss.length := by simpa using hl
  have few : us.length ≤ sizeLine := by rw [hlu, sizeLine_eq]; have := S.few; omega
  obtain ⟨hp, g, dr, tk, os⟩ := s
  obtain ⟨nm, N', qn, bs, bm, hdct, sn, sub, ab, col, dd0, k0', k1, k2, k3, k5, hC, hT⟩ := PySem.W.excInit_of I.kIn S.ini
  refine wpAny_call (PySem.HandSPX.call_own F.excBase_ValueError hT hC (PySem.W.looks_findIn I.kIn S.iC) (fun self => PySem.W.bind_fn I.kIn self S.tI) few ?_)
  obtain ⟨oc, kV, doc, pm, ct, od, an, osl, lk⟩ := S.fun_
  obtain ⟨ccl, cdd, cvs, ccs, file, tf, f1, f2, f3⟩ := S.file
  obtain ⟨cl, cld, csl, c1⟩ := S.cell
  obtain ⟨cd, hcd, hst⟩ := S.cls
  obtain ⟨ar, ha, har⟩ := Option.map_eq_some_iff.mp S.par
  have kk0 : ∀ b o, hp.get? b = some o → ((hp.push (PySem.W.kdv_tup us)).push (PySem.HandSPX.excO C hp.objs.size)).get? b = some o := fun b o e => Heap.get?_push_of_some _ (Heap.get?_push_of_some _ e)
  have hget : ((hp.push (PySem.W.kdv_tup us)).push (PySem.HandSPX.excO C hp.objs.size)).get? (hp.objs.size + 1) = some (PySem.HandSPX.excO C hp.objs.size) := by heap_get
  have lt : ∀ b o, hp.get? b = some o → b ≠ hp.objs.size + 1 := fun b o e z => by
    have h1 : b < hp.objs.size := Heap.lt_size e
    rw [z] at h1
    exact absurd h1 (Nat.not_lt.mpr (Nat.le_succ _))
  have hKe : X.K.lookup (hp.objs.size + 1) = none := by
    cases z : X.K.lookup (hp.objs.size + 1) with
    | none => rfl
    | some o => exact absurd rfl (lt _ _ (I.kIn _ _ z))
  obtain ⟨mb, b1, b2⟩ := I.mod.blt
  refine init_run (K := X.K) (mg := X.mg) (C := C) (ar := ar) (us := us) (bs := (("self" : Str), .ref (hp.objs.size + 1)) :: (ss.map (·.2.1)).zip us) (I.kIn.keeps kk0) ((I.mod.glob.keeps I.bk).keeps kk0) hsup ⟨mb, (b1.keeps I.bk).keeps kk0, b2⟩ ((I.nolimit).keeps kk0) (hr.make C us []).depth S.ini lk S.code ha (fun s => S.binds _ _ _ _ _ _ _ s hlu) f1 f2 f3 c1 hcd S.sub S.sup S.subB S.op S.ks S.kc (by rw [har]; exact S.bloc _ (by simp)) S.kind S.co S.gen S.nc S.top hget (fun z => lt C _ hC z.symm) S.ev hKe har ?_ (S.bself _ _ hlu) hst hlu.symm S.few ?_ fun h' t1 tk' dd' kk ee fl => ?_
  · intro x hx
    rcases List.mem_cons.mp hx with rfl | hx
    · exact S.bloc _ (by simp)
    · exact S.bloc _ (List.mem_cons_of_mem _ (List.of_mem_zip (show (x.1, x.2) ∈ _ from hx)).1)
  · intro q hq'
    have hm : q.1 ∈ ss := (List.of_mem_zip (show (q.1, q.2) ∈ _ from hq')).1
    exact ⟨S.nof _ hm, S.bloc _ (List.mem_cons_of_mem _ (List.mem_map.mpr ⟨q.1, hm, rfl⟩)), S.bpar _ _ hlu _ hq', S.bdb _ hm⟩
  · refine ⟨rfl, ?_⟩
    have keep : ∀ b o, hp.get? b = some o → h'.get? b = some o := fun b o e => kk b o (lt b o e) (kk0 b o e)
    have hH : H (hp.objs.size + 1) = none := I.hok.fresh (Nat.le_succ _)
    rcases fl with ⟨rfl, fe⟩ | ⟨dx, rfl, d1, d2, d3⟩
    · exfalso
      have q := congrArg List.length fe
      rw [zipR_len _ _ _ (by simpa using hlu.symm)] at q
      simp at q
      exact h0 (by simp [q])
    · have hdb : hp.objs.size ≤ dx := by
        have z := d1
        rw [Heap.size_push, Heap.size_push] at z
        exact Nat.le_trans (Nat.le_trans (Nat.le_succ _) (Nat.le_succ _)) (Nat.le_of_lt z)
      have hd : H dx = none := I.hok.fresh hdb
      obtain ⟨G', g1, g2⟩ := restrict h' fun b => decide (b ≠ hp.objs.size + 1)
      have gk : ∀ b, b ≠ hp.objs.size + 1 → G'.get? b = h'.get? b := fun b hb => g1 b (decide_eq_true hb)
      have ge : G'.get? (hp.objs.size + 1) = none := g2 _ (by simp)
      have ob : ObjOk X.prog X.w (upd H dx (.xd (zipR (ss.map (·.1)) vs []))) G' dx (.xd (zipR (ss.map (·.1)) vs [])) :=
        ⟨_, d3.at (fun o q => (gk dx d2).trans q), zipR_rel _ _ _ _ _ r fun f => True.intro⟩
      have J1 := I.laid (t' := tk') (h' := G') (a := dx) (o := .xd (zipR (ss.map (·.1)) vs [])) (fun b o q => (gk b (lt b o q)).trans (keep b o q)) hdb ob
      have hH2 : upd H dx (.xd (zipR (ss.map (·.1)) vs [])) (hp.objs.size + 1) = none := by rw [upd_ne (Ne.symm d2)]; exact hH
      refine ⟨hp.objs.size + 1, _, _, ⟨G', g, dr, tk', os⟩, upd H dx (.xd (zipR (ss.map (·.1)) vs [])), .ref C, some dx, rfl, J1, fun b o q => ?_, ge, ee, ⟨rfl, rfl, fun vs e => by cases e; rfl⟩, rfl, rfl, hH2, rfl, I.bare, raises_own E.hs tyC, hq dx hd⟩
      have q' : G'.get? b = some o := q
      by_cases hb : b = hp.objs.size + 1
      · rw [hb, ge] at q'; cases q'
      · exact (gk b hb).symm.trans q'
end
section
variable {X : Cx} {W : WX} {n : Str} {fs : List Str} {C : Addr} {p cpos pos : Pos} {e : Expr} {es : List Expr} {g : Ev → R (List D)}
theorem pmk_new (S : ExO X.prog X.K n fs C) (tyC : PySem.W.typeIn X.K (.ref C) = some (.type "type")) (h0 : fs ≠ []) (hm : X.mg n = some (.ref C)) (hsup : X.mg "super" = none) (hr : Room 1 X.A) {ta : TA} (ha : PA X (e :: es) ta) (hg : Gl X n) (hdb : (n == ("__debug__" : Str)) = false)
    (he : starEach (e :: es) X.env = (false, eval e X.env) :: starEach es X.env) (hpl : (backTo cpos (starEach es X.env)).any (·.1) = false) :
    L2N.PMk X (.Call (.Name n p) (e :: es) [] cpos) (fun σ H Q => ta σ H fun vs H1 => vs.length = fs.length ∧ ∀ dx, H1 dx = none → Q (.ref C) (some dx) (upd H1 dx (.xd (zipR fs vs [])))) := by
  intro pins s σ H Q I h
  refine wpAny_Call_Name_kw (ld_glob I hg hm ?_ hdb)
  refine PySem.W.callWith_K (h₀ := X.base) I.ok.mod.kin S.kC (thn (ha.run cpos pins s σ H _ I h) fun us s1 hh => ?_) he hpl
  obtain ⟨vs, H1, I1, r1, hl, hq⟩ := hh
  exact ⟨I1.kIn, mk_new S.f S.exc tyC h0 I1 hr hsup r1 (r1.length.symm.trans hl) hq⟩
theorem vs_raiseF (S : ExO X.prog X.K n fs C) (tyC : PySem.W.typeIn X.K (.ref C) = some (.type "type")) (hm : X.mg n = some (.ref C)) (hsup : X.mg "super" = none) (tk : L2N.Takes X W) {k : Nat} (hr : Room k X.A) (ha : VA X WF (e :: es) g) (h0 : fs ≠ [] := by decide) (hc : X.calm = true := by rfl) (hg : Gl X n := by rfl) (hk : 1 ≤ k := by decide) (hdb : (n == ("__debug__" : Str)) = false := by decide)
    (he : starEach (e :: es) X.env = (false, eval e X.env) :: starEach es X.env := by rfl) (hpl : (backTo cpos (starEach es X.env)).any (·.1) = false := by rfl) :
    VS X W (.Raise (some (.Call (.Name n p) (e :: es) [] cpos)) none pos) (sRaiseF n fs g) :=
  PS.imp (L2N.ps_raise hc tk (pmk_new S tyC h0 hm hsup (hr.mono hk) ha hg hdb he hpl)) fun D σ H ⟨S', G, Hs, ρ, r, h⟩ => by
    refine ⟨S', G, Hs, ρ, r, ?_⟩
    unfold sRaiseF at h
    cases z : g ρ with
    | bad => rw [z] at h; exact h.elim
    | ex x => rw [z] at h; exact h.elim
    | ok ds =>
      rw [z] at h
      intro Hs1 H1 e1 vs hv
      by_cases hl : ds.length = fs.length
      · replace h : OutOk X.K X.mg W S' G Hs D (.ex ⟨n, zipR fs ds []⟩ ρ) := by simpa [hl] using h
        have hl2 : vs.length = fs.length := hv.length.symm.trans hl
        refine ⟨hl2, fun dx hd => ?_⟩
        have e2 := Ext.new (Hs := Hs1) (H := H1) (p := dx) (o := .xd (zipR fs vs [])) e1.sub hd
        have e12 := e1.trans e2
        have nz : zipR fs ds [] ≠ [] := fun q => by
          have q := congrArg List.length q
          rw [zipR_len _ _ _ hl.symm] at q
          simp at q
          exact h0 q
        refine h _ _ σ (.ref C) (some dx) e12.grow (r.step e12) ⟨hm, .inr ⟨nz, dx, zipR fs vs [], rfl, upd_same, zipR_keys fs vs ds [] [] hv.length.symm rfl, zipR_rp fs ds vs [] [] (hv.mono e2.grow) .nil⟩⟩
      · have q : OutOk X.K X.mg W S' G Hs D .bad := by simpa [hl] using h
        exact q.elim
end

/-! ### try: .. except C as e: .., where C's errors have fields -/
open Classical in
noncomputable def anyB (g : Addr → Addr → Out) : Out := if (∀ a b, g a b = g 0 0) then g 0 0 else .bad
theorem anyB_eq {g : Addr → Addr → Out} {o : Out} (h : ∀ a b, g a b = o) : anyB g = o := by
  have e : g = fun _ _ => o := funext fun a => funext fun b => h a b
  rw [e]; exact if_pos fun _ _ => rfl
noncomputable def sTryF (n : Str) (i : Nat) (F : Ev → Out) (Sx : Addr → Addr → Ev → Out) : Ev → Out := fun ρ => match F ρ with
  | .ex ⟨m, fl⟩ ρ' => if m = n ∧ fl ≠ [] then anyB (fun a dd => offO i (Sx a dd (ρ'.set i (.sh (exfD n a dd (fl.map (·.1)) (fl.map (·.2))))))) else .bad
  | q => q
theorem zip_mm {α β : Type} : ∀ l : List (α × β), (l.map (·.1)).zip (l.map (·.2)) = l
  | [] => rfl
  | p :: l => by simp [zip_mm l]
theorem vs_tryF {X : Cx} {W : WX} {x nm en : Str} {c : Value} {C : Addr} {i : Nat} {body suite : List Stmt} {b0 : Stmt} {np pos pos' : Pos} {F : Ev → Out} {Sx : Addr → Addr → Ev → Out}
    (hs : X.stack = X.env :: X.outer) (hf : X.env.frame = some X.env.locals) (hN : X.N.Nodup) (hi : X.N[i]? = some nm) (hln : X.env.kindOf nm = some .local) (hc : Names X x c) (tk : L2N.Takes X W)
    (hE : X.mg en = some (.ref C) ∧ PySem.W.exmOne X.K (.ref C) c = some true)
    (hb : ∀ (W : WX) (pn : List (Addr × Obj)) (xe : Value → Shared → Prop), L2N.Takes (X.tr pn xe) W → PassesOwn (model X.prog X.w) X.A X.env xe → VSs (X.tr pn xe) W body F)
    (hsu : ∀ (a dd : Addr) (oe : Obj) (pn : List (Addr × Obj)), L2N.Zn (.ref C) (some dd) oe → (∃ vs, oe.data = .fields vs) → VSs (X.suite a ((a, oe) :: pn)) WF (b0 :: suite) (Sx a dd)) :
    VS X W (.Try body [.ExceptHandler (some (.Name x np)) (some nm) (b0 :: suite) pos'] [] [] pos) (sTryF en i F Sx) := by
  refine PS.imp (L2N.ps_try_as (tb := fun W' => tS X.K X.mg W' F) (ts := fun a cls d => fun D σ H => ∃ dd, cls = .ref C ∧ d = some dd ∧ tS X.K X.mg WF (Sx a dd) D σ H) hs hf hN hi hln hc tk (fun W' pn xe t p => hb W' pn xe t p)
    (fun a oe cls d pn hz hv => ⟨fun pins s σ H D I q => ?_⟩)) fun D σ H ⟨S, G, Hs, ρ, r, h⟩ => ?_
  · obtain ⟨dd, rfl, rfl, q⟩ := q
    exact (hsu a dd oe pn hz hv).run pins s σ H D I q
  · refine ⟨S, G, Hs, ρ, r, ?_⟩
    unfold sTryF at h
    cases z : F ρ with
    | nx ρ' => rw [z] at h; exact h
    | bk ρ' => rw [z] at h; exact h
    | ct ρ' => rw [z] at h; exact h
    | rt r' => rw [z] at h; exact h
    | rtB r' ρ' => rw [z] at h; exact h
    | bad => rw [z] at h; exact h
    | ex x ρ' =>
      rw [z] at h
      obtain ⟨m, fl⟩ := x
      replace h : OutOk X.K X.mg W S G Hs D (if m = en ∧ fl ≠ [] then anyB (fun a dd => offO i (Sx a dd (ρ'.set i (.sh (exfD en a dd (fl.map (·.1)) (fl.map (·.2))))))) else .bad) := h
      by_cases hn : m = en ∧ fl ≠ []
      · rw [if_pos hn] at h
        obtain ⟨rfl, h0⟩ := hn
        obtain ⟨m1, m2⟩ := hE
        have ha : ∀ a dd, OutOk X.K X.mg W S G Hs D (offO i (Sx a dd (ρ'.set i (.sh (exfD m a dd (fl.map (·.1)) (fl.map (·.2))))))) := fun a dd => by
          unfold anyB at h
          split at h
          · rename_i hh
            have q := hh a dd
            dsimp only at q
            rw [q]; exact h
          · exact h.elim
        intro Hs' H' σ' cls dd g r' hx
        obtain ⟨x1, x2⟩ := hx
        have x1 : X.mg m = some cls := x1
        rw [m1] at x1
        cases x1
        rcases x2 with ⟨q0, _⟩ | ⟨_, dx, vs, rfl, y1, y2, y3⟩
        · exact (h0 q0).elim
        · refine ⟨true, m2, fun _ a hna => ⟨dx, rfl, rfl, S, G, Hs', ρ'.set i (.sh (exfD m a dx (fl.map (·.1)) (fl.map (·.2)))), r'.set (.exf (vs := vs.map (·.2)) ?_ ?_ y3), ?_⟩, fun w => by cases w⟩
          · rw [← y2, zip_mm]; exact y1
          · have := congrArg List.length y2; simp at this ⊢; omega
          · exact offO_ok ((ha a dx).up g)
      · rw [if_neg hn] at h
        exact h.elim
/-! ### e.f, isinstance(e, C) in the suite -/
def exfSel (n f : Str) (a dd : Addr) : D → Option D
  | .dict [(.int 6, .str m), (.int 7, .int c), (.int 8, .int c'), (.int 9, .dict l)] => if m = n ∧ c = (a : Int) ∧ c' = (dd : Int) then (keysOf l).bind fun p => selF p.1 p.2 f else none
  | _ => none
def eXf (n f : Str) (a dd : Addr) (g : Ev → R D) : Ev → R D := fun ρ => (g ρ).bind fun d => match exfSel n f a dd d with
  | some x => .ok x
  | none => .bad
theorem exf_inv {K : Fg} {H : Hp} {d : D} {v : V} {n : Str} {a dd : Addr} {l : List (D × D)} (h : Rp K H d v) (e : d = .dict [(.int 6, .str n), (.int 7, .int a), (.int 8, .int dd), (.int 9, .dict l)]) :
    v = .ref a ∧ ∃ (ks : List Str) (vs : List V) (ds : List D), l = (ks.map fun k => PyData.str k).zip ds ∧ H dd = some (.xd (ks.zip vs)) ∧ vs.length = ks.length ∧ RpL K H ds vs := by
  cases h with
  | exf h1 h2 h3 =>
    unfold exfD at e
    injection e with e
    injection e with e1 e
    injection e with e2 e
    injection e with e3 e
    injection e with e4 e
    injection e2 with _ e2
    injection e3 with _ e3
    injection e4 with _ e4
    injection e2 with e2
    injection e3 with e3
    injection e4 with e4
    have e2 := Int.ofNat.inj e2
    have e3 := Int.ofNat.inj e3
    subst e2 e3
    exact ⟨rfl, _, _, _, e4.symm, h1, h2, h3⟩
  | _ => first | cases e | (unfold tg at e; cases e) | (unfold tf at e; cases e) | (unfold exD at e; cases e) | (unfold dkD at e; cases e) | (unfold xoD at e; cases e)
theorem v_xf {X : Cx} {W : WX} {a dd C : Addr} {n f : Str} {fs : List Str} {oe : Obj} {pn : List (Addr × Obj)} {e : Expr} {pos : Pos} {g : Ev → R D} (S : ExO X.prog X.K n fs C) (hz : L2N.Zn (.ref C) (some dd) oe) (hv : ∃ vs, oe.data = .fields vs)
    (he : VP (X.suite a ((a, oe) :: pn)) W e g) (hf : f ∈ fs := by decide) (hb : attributeBase e f X.env (eval e X.env) = eval e X.env := by rfl) :
    VE (X.suite a ((a, oe) :: pn)) W (.Attribute e f pos) (eXf n f a dd g) := by
  refine PE.imp (pe_xf ⟨S.exc.hg, S.exc.hk, S.exc.hs, S.exc.hd⟩ (S.nof hf) hz.zc hv he hb) fun σ H Q ⟨S', G, Hs, ρ, r, p⟩ => ?_
  refine ⟨S', G, Hs, ρ, r, (Post.bind p).imp fun d Hs1 H1 e1 q u hu => ?_⟩
  cases z : exfSel n f a dd d with
  | none => simp only [z] at q; exact q.elim
  | some x =>
    simp only [z] at q
    unfold exfSel at z
    split at z
    case h_2 => cases z
    case h_1 m c c' l =>
      split at z
      case isFalse => cases z
      case isTrue hc =>
        obtain ⟨rfl, rfl, rfl⟩ := hc
        have hr : Rp X.K Hs1 (.dict [(.int 6, .str m), (.int 7, .int (a : Int)), (.int 8, .int (dd : Int)), (.int 9, .dict l)]) u := by
          rcases hu with hu | ⟨l, _, _, w, _⟩
          · exact hu
          · cases w
        obtain ⟨rfl, ks, vs, ds, rfl, h1, h2, h3⟩ := exf_inv hr rfl
        rw [keysOf_zip (h3.length.trans h2)] at z
        obtain ⟨w, w1, w2⟩ := selF_rp h3 z
        exact ⟨rfl, rfl, dd, _, w, rfl, e1.sub _ _ h1, w1, q.now e1.sub _ w2⟩
/-- isinstance(e, c) in the suite, the error one with fields -/
theorem call_isEF {X : Cx} {a dd C : Addr} {oe : Obj} {pn : List (Addr × Obj)} (E : ExcC X.K C) (hz : L2N.Zn (.ref C) (some dd) oe) (hv : ∃ vs, oe.data = .fields vs) :
    CallR (X.suite a ((a, oe) :: pn)) (.builtin "isinstance") (fun xs H Q => ∃ (fl : List (Str × V)) (c : V) (cv : Value) (b : Bool), xs = [.ref a, c] ∧ H dd = some (.xd fl) ∧ (∀ u, RelV c u → u = cv) ∧ PySem.W.kitOne X.K (.ref C) cv = some b ∧ Q (.bl b) H) := by
  intro pins s σ H xs us Q I r h
  obtain ⟨fl, c, cv, b, rfl, hd, hcv, e, q⟩ := h
  cases r with
  | cons rx rr =>
    cases rr with
    | cons rt rr =>
      cases rr
      cases rx
      have ec := hcv _ rt
      subst ec
      obtain ⟨ha, _⟩ := I.pin (a, oe) (List.mem_append_left _ List.mem_cons_self)
      have hx : ObjOk X.prog X.w H s.heap dd (.xd fl) := I.hok dd _ hd
      obtain ⟨mA, hns, _⟩ := hx
      obtain ⟨od, ho, _⟩ := lookIn_ns hns
      have J : PySem.W.InstAt s.heap a oe C (some od) := by
        obtain ⟨vs, hv⟩ := hv
        obtain ⟨z1, z2, _⟩ := hz
        obtain ⟨oc, odc, od', osl⟩ := oe
        simp only at z1 z2 hv
        subst z1 z2 hv
        exact ⟨ha, rfl, rfl, ho⟩
      have hcl : (PySem.W.clsIn X.K C).isSome = true := by
        obtain ⟨cd, hc, _⟩ := PySem.W.any_some E.hd
        rw [hc]; rfl
      exact PySem.W.kia_one (PySem.W.kitx_exc hcl E.hg E.hk E.hs E.ha E.hn E.ht E.hm) I.kIn J e (fun z => nomatch z) fun tk => ⟨.bl b, H, I.kept (t' := tk) fun _ _ z => z, rfl, q⟩
def isExf (n : Str) (a dd : Addr) : D → Bool
  | .dict [(.int 6, .str m), (.int 7, .int c), (.int 8, .int c'), (.int 9, .dict _)] => decide (m = n ∧ c = (a : Int) ∧ c' = (dd : Int))
  | _ => false
def eIsF (n : Str) (a dd : Addr) (b : Bool) (g : Ev → R D) : Ev → R D := fun ρ => (g ρ).bind fun d => if isExf n a dd d = true then .ok (.bool b) else .bad
theorem isExf_at (n : Str) (a dd : Addr) (ks : List Str) (ds : List D) : isExf n a dd (exfD n a dd ks ds) = true := by simp [isExf, exfD]
theorem v_isEF {X : Cx} {W : WX} {a dd C : Addr} {n xi : Str} {oe : Obj} {pn : List (Addr × Obj)} {e c : Expr} {p1 pos : Pos} {f : Ev → R D} {cV : V} {cv : Value} {b : Bool} (E : ExcC X.K C) (hz : L2N.Zn (.ref C) (some dd) oe) (hv : ∃ vs, oe.data = .fields vs)
    (hg : Gl X xi) (hm : X.mg xi = none) (hvv : bootBuiltins xi = some (.builtin "isinstance")) (ha : VP (X.suite a ((a, oe) :: pn)) W e f) (hc : PE (X.suite a ((a, oe) :: pn)) c (tC cV)) (hcv : ∀ u, RelV cV u → u = cv) (hk : PySem.W.kitOne X.K (.ref C) cv = some b)
    (hn : xi ≠ "__name__" := by decide) (hdb : (xi == ("__debug__" : Str)) = false := by decide)
    (he : starEach [e, c] X.env = (false, eval e X.env) :: starEach [c] X.env := by rfl) (hpl : (backTo pos (starEach [c] X.env)).any (·.1) = false := by rfl) (he2 : starEach [c] X.env = (false, eval c X.env) :: starEach [] X.env := by rfl) :
    VE (X.suite a ((a, oe) :: pn)) W (.Call (.Name xi p1) [e, c] [] pos) (eIsF n a dd b f) := by
  refine PE.imp (pe_callB (call_isEF E hz hv) hg hm hvv (pa_cons ha (pa_cons hc pa_nil he2) he) hn hdb he hpl) fun σ H Q ⟨S, G, Hs, ρ, r, p⟩ => ?_
  refine ⟨S, G, Hs, ρ, r, (Post.bind p).imp fun d Hs1 H1 e1 q u hu => ?_⟩
  by_cases z : isExf n a dd d = true
  · rw [if_pos z] at q
    unfold isExf at z
    split at z
    case h_2 => cases z
    case h_1 m c1 c2 l =>
      obtain ⟨rfl, rfl, rfl⟩ := of_decide_eq_true z
      have hr : Rp X.K Hs1 (.dict [(.int 6, .str m), (.int 7, .int (a : Int)), (.int 8, .int (dd : Int)), (.int 9, .dict l)]) u := by
        rcases hu with hu | ⟨l, _, _, w, _⟩
        · exact hu
        · cases w
      obtain ⟨rfl, ks, vs, ds, rfl, h1, h2, h3⟩ := exf_inv hr rfl
      exact ⟨_, cV, cv, b, rfl, e1.sub _ _ h1, hcv, hk, q.now e1.sub _ (.bl b)⟩
  · rw [if_neg z] at q
    exact q.elim
/-! ### rows -/
theorem r_raiseF {n : Str} {fs : List Str} {g : Ev → R (List D)} {ρ : Ev} {ds : List D} (h : g ρ = .ok ds) (hl : ds.length = fs.length) : sRaiseF n fs g ρ = .ex ⟨n, zipR fs ds []⟩ ρ := by
  unfold sRaiseF; rw [h]; exact if_pos hl
theorem tryF_ex {n : Str} {i : Nat} {F : Ev → Out} {Sx : Addr → Addr → Ev → Out} {ρ ρ' : Ev} {fl : List (Str × D)} {o : Out} (h : F ρ = .ex ⟨n, fl⟩ ρ') (hf : fl ≠ []) (hs : ∀ a dd, offO i (Sx a dd (ρ'.set i (.sh (exfD n a dd (fl.map (·.1)) (fl.map (·.2)))))) = o) : sTryF n i F Sx ρ = o := by
  unfold sTryF
  rw [h]
  show (if n = n ∧ fl ≠ [] then _ else _) = _
  rw [if_pos ⟨rfl, hf⟩]
  exact anyB_eq hs
@[simp] theorem r_eIsF (n : Str) (a dd : Addr) (b : Bool) (f : Ev → R D) (ρ : Ev) : eIsF n a dd b f ρ = (f ρ).bind fun d => if isExf n a dd d = true then .ok (.bool b) else .bad := rfl
@[simp] theorem r_isExf (n : Str) (a dd : Addr) (ks : List Str) (ds : List D) : isExf n a dd (exfD n a dd ks ds) = true := isExf_at n a dd ks ds
@[simp] theorem r_eXf (n f : Str) (a dd : Addr) (g : Ev → R D) (ρ : Ev) : eXf n f a dd g ρ = (g ρ).bind fun d => match exfSel n f a dd d with | some x => .ok x | none => .bad := rfl
end VL

set_option Elab.async false
set_option linter.all false
set_option maxRecDepth 100000
set_option autoImplicit false
namespace W
open PySem PySem.Spec PyProof.Rows L2 VL
noncomputable def b__law_lowest_1 : Ev → Out := sSeq (sIf (e1 bOf (e2 eqD (eOwn 3) (cst (.int 0)))) (.bk) (sNil)) (sPar 2 3 (eCons (eVar 3) (eCons (e2 modD (e1 intD (eCons (eOwn 2) (cst []))) (eOwn 3)) (cst []))))
noncomputable def c__law_lowest : Ev → Out := sSeq (sIf (e1 bOf (e2 ltD (eOwn 1) (cst (.int 0)))) (sPar 0 1 (eCons (e1 negD (eOwn 0)) (eCons (e1 negD (eOwn 1)) (cst [])))) (sNil)) (sSeq (sPar 2 3 (eCons (e1 absD (eCons (eOwn 0) (cst []))) (eCons (eVar 1) (cst [])))) (sSeq (sFor (e1 range1D (eCons (cst (.int 5000)) (cst []))) (gSet 4) b__law_lowest_1) (sRet (e1 tupD (eCons (e2 fdivD (eOwn 0) (eOwn 2)) (eCons (e2 fdivD (eOwn 1) (eOwn 2)) (cst [])))))))
noncomputable def m__law_lowest : List D → R SD := runD 2 5 c__law_lowest
noncomputable def c__law_add_k40 : Ev → Out := sRet (eCall m__law_lowest (eCons (e2 addD (e2 mulD (e2 ixD (eOwn 0) (cst (.int 0))) (e2 ixD (eOwn 1) (cst (.int 1)))) (e2 mulD (e2 ixD (eOwn 1) (cst (.int 0))) (e2 ixD (eOwn 0) (cst (.int 1))))) (eCons (e2 mulD (e2 ixD (eOwn 0) (cst (.int 1))) (e2 ixD (eOwn 1) (cst (.int 1)))) (cst []))))
noncomputable def m__law_add_k40 : List D → R SD := runD 2 2 c__law_add_k40
noncomputable def c__law_mul : Ev → Out := sRet (eCall m__law_lowest (eCons (e2 mulD (e2 ixD (eOwn 0) (cst (.int 0))) (e2 ixD (eOwn 1) (cst (.int 0)))) (eCons (e2 mulD (e2 ixD (eOwn 0) (cst (.int 1))) (e2 ixD (eOwn 1) (cst (.int 1)))) (cst []))))
noncomputable def m__law_mul : List D → R SD := runD 2 2 c__law_mul
noncomputable def b__law_value_1 : Ev → Out := sSet 2 (eCall m__law_add_k40 (eCons (eCall m__law_mul (eCons (eVar 2) (eCons (eVar 1) (cst [])))) (eCons (e1 tupD (eCons (e2 ixD (eOwn 0) (e2 subD (e2 subD (e1 lenD (eCons (eOwn 0) (cst []))) (cst (.int 1))) (eOwn 3))) (eCons (cst (.int 1)) (cst [])))) (cst []))))
noncomputable def c__law_value : Ev → Out := sSeq (sSet 2 (e1 tupD (eCons (cst (.int 0)) (eCons (cst (.int 1)) (cst []))))) (sSeq (sFor (e1 range1D (eCons (e1 lenD (eCons (eOwn 0) (cst []))) (cst []))) (gSet 3) b__law_value_1) (sRet (eVar 2)))
noncomputable def m__law_value : List D → R SD := runD 2 4 c__law_value
/-! ### the pool of small numbers -/
structure IsPool (l : List Int) : Prop where
  two : 2 ≤ l.length
  len : l.length ≤ 10000
  lo : ∀ x ∈ l, 0 ≤ x
  hi : ∀ x ∈ l, x < 1000000
theorem list_of {α : Type} {F : α → D} {Q : α → Prop} : ∀ {ys : List D}, (∀ y ∈ ys, ∃ a, y = F a ∧ Q a) → ∃ as : List α, ys = as.map F ∧ ∀ a ∈ as, Q a
  | [], _ => ⟨[], rfl, by simp⟩
  | y :: ys, h => by
    obtain ⟨a, rfl, ha⟩ := h y (by simp)
    obtain ⟨as, rfl, has⟩ := list_of (ys := ys) fun y hy => h y (by simp [hy])
    exact ⟨a :: as, rfl, by simpa using ⟨ha, has⟩⟩
structure SmallP (n : Nat) (a : List Int) : Prop where
  tr : Tr a
  sz : SzP 6 a
  len : a.length ≤ n
/-! ### rows -/
structure Row where
  ps : List (List Int)
  q : List Int
  s : Str
def rowD (r : Row) : D := .tuple [.list (r.ps.map pD), pD r.q, .str r.s]
structure RowOk (m : Nat) (r : Row) : Prop where
  len : r.ps.length = m
  ps : ∀ p ∈ r.ps, SmallP 3 p
  q : SmallP 3 r.q
  s : r.s = "<=" ∨ r.s = "<" ∨ r.s = "="
theorem SmallP.mono {n m : Nat} {a : List Int} (h : SmallP n a) (e : n ≤ m) : SmallP m a := ⟨h.tr, h.sz, Nat.le_trans h.len e⟩
/-! ### numbers in lowest terms, another way -/
theorem low_step {n d : SD} {a b : Nat} {x : D} {j : SD} (hb : b ≠ 0) : gTo (gSet 4) b__law_lowest_1 x [n, d, .sh (.int (a : Nat)), .sh (.int (b : Nat)), j] = .nx [n, d, .sh (.int (b : Nat)), .sh (.int ((a % b : Nat) : Int)), .sh x] := by
  have hm : modD (.int (a : Nat)) (.int (b : Nat)) = some (.int ((a % b : Nat) : Int)) := by
    rw [r_mod (by omega)]; simp [Int.fmod_eq_emod_of_nonneg]
  simp [b__law_lowest_1, hm, hb]
theorem low_loop {n d : SD} {a b : Nat} (ha : a < 2 ^ 1990) (hb : b < 2 ^ 1990) : ∃ y j, forO (gTo (gSet 4) b__law_lowest_1) (rngL 0 1 5000) [n, d, .sh (.int (a : Nat)), .sh (.int (b : Nat)), .no] = .nx [n, d, .sh (.int (Nat.gcd a b : Nat)), y, j] := by
  refine forO_gen (F := gTo (gSet 4) b__law_lowest_1) (l := rngL 0 1 5000) (fun o => ∃ y j, o = .nx [n, d, .sh (.int (Nat.gcd a b : Nat)), y, j])
    (fun i ρ => ∃ (x y : Nat) (j : SD), ρ = [n, d, .sh (.int (x : Nat)), .sh (.int (y : Nat)), j] ∧ Nat.gcd x y = Nat.gcd a b ∧ ((i = 0 ∧ x * y * 2 < 2 ^ 5000) ∨ (x * y * 2 ^ i < 2 ^ 5000 ∧ y ≤ x)))
    ⟨_, _, _, rfl, rfl, .inl ⟨rfl, by
      have h1 := Nat.mul_lt_mul'' ha hb
      rw [← Nat.pow_add] at h1
      have h2 : (2 : Nat) ^ 5000 = 2 ^ (1990 + 1990) * 2 ^ 1020 := by rw [← Nat.pow_add]
      have h3 : (2 : Nat) ≤ 2 ^ 1020 := by
        have : (2 : Nat) ^ 1 ≤ 2 ^ 1020 := Nat.pow_le_pow_right (by decide) (by decide)
        simpa using this
      rw [h2]
      generalize (2 : Nat) ^ (1990 + 1990) = q at *
      exact Nat.lt_of_lt_of_le (Nat.mul_lt_mul_of_pos_right h1 (by decide)) (Nat.mul_le_mul_left q h3)⟩⟩
    (fun i z ρ hd hi => ?_) (fun ρ h => ?_)
  · obtain ⟨x, y, j, rfl, hg, hp⟩ := hi
    by_cases hy : y = 0
    · subst hy
      right; left
      exact ⟨_, by simp [b__law_lowest_1, -Out.bk.injEq] <;> rfl, .sh (.int 0), .sh z, by rw [← hg]; simp⟩
    · left
      refine ⟨_, .inl (low_step hy), y, x % y, _, rfl, by rw [← hg, Nat.gcd_comm x y, Nat.gcd_comm y (x % y), ← Nat.gcd_rec], .inr ?_⟩
      rcases hp with ⟨rfl, hp⟩ | ⟨hp, hl⟩
      · have : x % y < y := Nat.mod_lt _ (by omega)
        have h2 : x % y ≤ x := Nat.mod_le _ _
        refine ⟨Nat.lt_of_le_of_lt ?_ hp, by omega⟩
        calc y * (x % y) * 2 ^ (0 + 1) = y * (x % y) * 2 := by simp
          _ ≤ y * x * 2 := Nat.mul_le_mul_right 2 (Nat.mul_le_mul_left y h2)
          _ = x * y * 2 := by rw [Nat.mul_comm y x]
      · obtain ⟨h1, h2⟩ := gcd_halves hl hy
        refine ⟨Nat.lt_of_le_of_lt ?_ hp, h2⟩
        calc y * (x % y) * 2 ^ (i + 1) = 2 * (y * (x % y)) * 2 ^ i := by rw [Nat.pow_succ]; grind
          _ ≤ x * y * 2 ^ i := Nat.mul_le_mul_right _ h1
  · obtain ⟨x, y, j, rfl, hg, hp⟩ := h
    rw [rngL_length] at hp
    rcases hp with ⟨h, _⟩ | ⟨hp, hl⟩
    · cases h
    · have h0 : x * y = 0 := by
        rcases Nat.eq_zero_or_pos (x * y) with h | h
        · exact h
        · have : 1 * 2 ^ 5000 ≤ x * y * 2 ^ 5000 := Nat.mul_le_mul_right _ h
          rw [Nat.one_mul] at this
          exact absurd hp (Nat.not_lt.mpr this)
      have hy : y = 0 := by
        rcases Nat.mul_eq_zero.mp h0 with h | h
        · omega
        · exact h
      subst hy
      exact ⟨.sh (.int 0), j, by rw [← hg]; simp⟩
theorem lowest_ok {n d : Int} (h1 : Sz 1990 n) (h2 : Sz 1990 d) (hd : d ≠ 0) : m__law_lowest [.int n, .int d] = .ok (.sh (rD ((n : Rat) / (d : Rat)))) := by
  show _ = VL.R.ok (SD.sh (qD (tQ _)))
  rw [← mkQ_rat hd]
  have o := okDiv_gcd (n := n) (h2.mono (show 1990 ≤ 9000 by decide)) hd
  have hr := range1_ok (x := 5000) (by decide) (by decide)
  have ea : ∀ a : Int, (if a < 0 then -a else a) = (a.natAbs : Int) := fun a => by split <;> omega
  by_cases h : d < 0
  · obtain ⟨y, j, e⟩ := low_loop (n := .sh (.int (-n))) (d := .sh (.int (-d))) h1.lt h2.lt
    have ed : -d = (d.natAbs : Int) := by omega
    have ea' : (if 0 < n then n else -n) = (n.natAbs : Int) := by split <;> omega
    have e' := e
    rw [← ed] at e'
    simp [m__law_lowest, c__law_lowest, h, hr, mkQ, qD, ea', e', o]
  · obtain ⟨y, j, e⟩ := low_loop (n := .sh (.int n)) (d := .sh (.int d)) h1.lt h2.lt
    have ed : ((d.natAbs : Nat) : Int) = d := by omega
    rw [ed] at e
    simp [m__law_lowest, c__law_lowest, h, hr, mkQ, qD, ea, e, o]

theorem ladd2_r {r s : Rat} {k l : Nat} (h : Rk k r) (h' : Rk l s) (e : k + l ≤ 1900) : m__law_add_k40 [rD r, rD s] = .ok (.sh (rD (r + s))) := by
  have o1 := okMul_of h.s1 h'.s2 (by omega)
  have o2 := okMul_of h'.s1 h.s2 (by omega)
  have o3 := okMul_of h.s2 h'.s2 (by omega)
  have n := lowest_ok (((h.s1.mul h'.s2).add (Nat.add_comm l k ▸ h'.s1.mul h.s2)).mono (show _ ≤ 1990 by omega)) ((h.s2.mul h'.s2).mono (show _ ≤ 1990 by omega)) (h.mulne h')
  rw [← rD_div (h.mulne h')] at n
  have e2 := addQ_rat r s
  unfold addQ at e2
  rw [e2] at n
  have n' : m__law_lowest [.int (r.num * (s.den : Int) + s.num * (r.den : Int)), .int ((r.den : Int) * (s.den : Int))] = .ok (.sh (rD (r + s))) := n
  have o1' : okMul r.num (s.den : Int) = true := o1
  have o2' : okMul s.num (r.den : Int) = true := o2
  have o3' : okMul (r.den : Int) (s.den : Int) = true := o3
  simp [m__law_add_k40, c__law_add_k40, o1', o2', o3', n']
theorem lmul2_r {r s : Rat} {k l : Nat} (h : Rk k r) (h' : Rk l s) (e : k + l ≤ 1900) : m__law_mul [rD r, rD s] = .ok (.sh (rD (r * s))) := by
  have o1' : okMul r.num s.num = true := okMul_of h.s1 h'.s1 (by omega)
  have o3' : okMul (r.den : Int) (s.den : Int) = true := okMul_of h.s2 h'.s2 (by omega)
  have n := lowest_ok ((h.s1.mul h'.s1).mono (show _ ≤ 1990 by omega)) ((h.s2.mul h'.s2).mono (show _ ≤ 1990 by omega)) (h.mulne h')
  rw [← rD_div (h.mulne h')] at n
  have e2 := mulQ_rat r s
  unfold mulQ at e2
  rw [e2] at n
  have n' : m__law_lowest [.int (r.num * s.num), .int ((r.den : Int) * (s.den : Int))] = .ok (.sh (rD (r * s))) := n
  simp [m__law_mul, c__law_mul, o1', o3', n']
theorem lvalue_loop {a : List Int} {x : Rat} {kx c : Nat} (ha : SzP c a) (hx : Rk kx x) (hc : 1 ≤ c) (h : 1 + a.length * (kx + c + 1) + kx + c ≤ 1900) :
    ∃ j', forO (gTo (gSet 3) b__law_value_1) (rngL 0 1 a.length) [.sh (pD a), .sh (rD x), .sh (rD 0), .no] = .nx [.sh (pD a), .sh (rD x), .sh (rD (evP a x)), j'] := by
  obtain ⟨ρ', e, j, rfl, _⟩ := forO_inv (F := gTo (gSet 3) b__law_value_1) (l := rngL 0 1 a.length)
    (fun i ρ => ∃ j, ρ = [.sh (pD a), .sh (rD x), .sh (rD (evP (a.drop (a.length - i)) x)), j] ∧ Rk (1 + i * (kx + c + 1)) (evP (a.drop (a.length - i)) x))
    (ρ := [.sh (pD a), .sh (rD x), .sh (rD 0), .no])
    ⟨.no, by rw [Nat.sub_zero, List.drop_length]; rfl, by rw [Nat.sub_zero, List.drop_length, Nat.zero_mul]; exact rk0⟩
    (fun i d ρ hd hi => by
      obtain ⟨hil, rfl⟩ := rng0_get hd
      obtain ⟨j, rfl, hs⟩ := hi
      obtain ⟨n, hn⟩ : ∃ n, a.length - i = n + 1 := ⟨a.length - i - 1, by omega⟩
      rw [hn] at hs ⊢
      have hz := rk_int (ha.cf n) hc
      have hmul : (i + 1) * (kx + c + 1) ≤ a.length * (kx + c + 1) := Nat.mul_le_mul_right _ (by omega)
      rw [Nat.succ_mul] at hmul
      have u1 := lmul2_r hs hx (by omega)
      have u2 := ladd2_r (hs.mul hx) hz (by omega)
      have ix : ixD (pD a) (.int ((a.length : Int) - 1 - (i : Int))) = some (.int (cf a n)) := by
        rw [show (a.length : Int) - 1 - (i : Int) = (n : Int) by omega]
        exact p_ixc (by omega)
      have dr : a.drop n = cf a n :: a.drop (n + 1) := by
        rw [List.drop_eq_getElem_cons (by omega), cf_elem (by omega)]
      have ev : evP (a.drop n) x = evP (a.drop (n + 1)) x * x + (cf a n : Rat) := by rw [dr]; rfl
      refine ⟨_, .inl (by simp [b__law_value_1, u1, rD_int, u2, ix, -Out.nx.injEq] <;> rfl), .sh (.int (i : Nat)), ?_, ?_⟩
      · rw [show a.length - (i + 1) = n by omega, ev]
      · rw [show a.length - (i + 1) = n by omega, ev, Nat.succ_mul]
        exact ((hs.mul hx).add hz).mono (by omega))
  rw [rngL_length, Nat.sub_self] at e
  exact ⟨j, e⟩
theorem lvalue_ok {a : List Int} {x : Rat} {kx c : Nat} (ha : SzP c a) (hx : Rk kx x) (hc : 1 ≤ c) (h : 1 + a.length * (kx + c + 1) + kx + c ≤ 1900) (hl : a.length ≤ 100000) :
    m__law_value [pD a, rD x] = .ok (.sh (rD (evP a x))) := by
  obtain ⟨j', e⟩ := lvalue_loop ha hx hc h
  have hr := range1_ok (x := (a.length : Nat)) (by omega) (by omega)
  simp [m__law_value, c__law_value, rD_0, hr, e]
/-! ### how the pool is made -/
structure Sm (c : Nat) (l : List Int) : Prop where
  len : l.length ≤ c
  lo : ∀ x ∈ l, 0 ≤ x
  hi : ∀ x ∈ l, x < 60
theorem Sm.mono {c d : Nat} {l : List Int} (h : Sm c l) (e : c ≤ d) : Sm d l := ⟨Nat.le_trans h.len e, h.lo, h.hi⟩
end W

set_option Elab.async false
set_option linter.all false
set_option maxRecDepth 100000
set_option autoImplicit false
namespace W
open PySem PySem.Spec PyProof.Rows L2 VL
theorem row_ix0 (r : Row) : ixD (rowD r) (.int 0) = some (.list (r.ps.map pD)) := by simp [rowD]
theorem sw_p {a : List Int} {s : Nat} (h : SzP s a) (hs : s ≤ 1920) (h0 : 0 < s) : Sw (a.length * (s + 3) + 3) (pD a) := by
  have := sw_list (w := s + 1) (l := a.map .int) fun d hd => by
    obtain ⟨i, hi, rfl⟩ := List.mem_map.mp hd
    exact sw_int (h i hi) hs h0
  rwa [List.length_map] at this
end W

set_option Elab.async false
set_option linter.all false
set_option maxRecDepth 100000
set_option autoImplicit false
namespace W
open PySem PySem.Spec PyProof.Rows L2 VL
/-! ### the value of a row -/
structure RowG (m c : Nat) (r : Row) : Prop where
  len : r.ps.length = m
  ps : ∀ p ∈ r.ps, SzP 6 p ∧ p.length ≤ 3
  q : SzP c r.q
  ql : r.q.length ≤ 3
  s : r.s = "<=" ∨ r.s = "<" ∨ r.s = "="
theorem RowOk.g {m : Nat} {r : Row} (h : RowOk m r) {c : Nat} (hc : 6 ≤ c) : RowG m c r := ⟨h.len, fun p hp => ⟨(h.ps p hp).sz, (h.ps p hp).len⟩, h.q.sz.mono hc, h.q.len, h.s⟩
def rvL (ps : List (List Int)) (xs : List Rat) (t acc : Rat) : Rat := (ps.zip xs).foldl (fun a px => a + evP px.1 t * px.2) acc
def rv (r : Row) (xs : List Rat) (t : Rat) : Rat := rvL r.ps xs t (evP r.q t)
theorem rowD_ix1 (r : Row) : ixD (rowD r) (.int 1) = some (pD r.q) := by simp [rowD]
/-! ### signs that fit -/
/-! ### rows that are fulfilled -/
end W

set_option Elab.async false
set_option linter.all false
set_option maxRecDepth 100000
set_option autoImplicit false
namespace W
open PySem PySem.Spec PyProof.Rows L2 VL
/-! ### one number taken out of rows: plain law -/
inductive Sg | lt | le | eq
deriving DecidableEq
def fitG (s : Sg) (v : Rat) : Bool := match s with
  | .lt => decide (v < 0)
  | .le => decide (v ≤ 0)
  | .eq => decide (v = 0)
def SgJ (a b : Sg) : Sg := if a = .lt ∨ b = .lt then .lt else .le
/-- a row in one number: coefficient, rest, sign -/
structure R1 where
  a : Rat
  b : Rat
  s : Sg
def Pairs (L : List R1) : Prop := (∀ r ∈ L, r.a = 0 → fitG r.s r.b = true) ∧ ∀ h ∈ L, ∀ l ∈ L, 0 < h.a → l.a < 0 → fitG (SgJ h.s l.s) (l.b * h.a - h.b * l.a) = true
/-! ### rows with numbers put in -/
def withoutR (r : Row) (k : Nat) : Row := ⟨r.ps.take k ++ r.ps.drop (k + 1), r.q, r.s⟩
def mixP (f g a b : List Int) : List Int := subP (mulP a f) (mulP b g)
theorem ev_scale (a : List Int) (c : Int) (x : Rat) : evP (scaleP a c) x = evP a x * (c : Rat) := by
  rw [evP_S _ x a.length (scale_len a c), evP_S a x a.length (Nat.le_refl _), show cf (scaleP a c) = fun k => c * cf a k from funext fun k => by rw [cf_scale]; exact Int.mul_comm _ _, evS_mul]
  grind
def mixedR (row : Row) (f : List Int) (other : Row) (g : List Int) (s : Str) : Row := ⟨List.zipWith (mixP f g) row.ps other.ps, mixP f g row.q other.q, s⟩
def contN (a : List Int) : Nat := a.foldl (fun g c => Nat.gcd g c.natAbs) 0
theorem cont_dvd : ∀ (a : List Int) (g : Nat), (a.foldl (fun g c => Nat.gcd g c.natAbs) g ∣ g) ∧ ∀ c ∈ a, ((a.foldl (fun g c => Nat.gcd g c.natAbs) g : Nat) : Int) ∣ c
  | [], g => ⟨Nat.dvd_refl _, by simp⟩
  | c :: a, g => by
    obtain ⟨h1, h2⟩ := cont_dvd a (Nat.gcd g c.natAbs)
    refine ⟨Nat.dvd_trans h1 (Nat.gcd_dvd_left _ _), fun d hd => ?_⟩
    rcases List.mem_cons.mp hd with rfl | hd
    · exact Int.ofNat_dvd_left.mpr (Nat.dvd_trans h1 (Nat.gcd_dvd_right _ _))
    · exact h2 d hd
theorem contN_dvd {a : List Int} {c : Int} (h : c ∈ a) : (contN a : Int) ∣ c := (cont_dvd a 0).2 c h
def contR (r : Row) : Nat := contN ((r.ps ++ [r.q]).map fun p => (contN p : Int))
def divP (c : Int) (p : List Int) : List Int := p.map fun x => x.fdiv c
def dividedR (r : Row) : Row := if contR r = 0 then r else ⟨r.ps.map (divP (contR r)), divP (contR r) r.q, r.s⟩
/-! ### a number taken out: what the program computes -/
def row0 : Row := ⟨[], [], "="⟩
def rowAt (rs : List Row) (i : Nat) : Row := rs.getD i row0
theorem rowAt_get {rs : List Row} {i : Nat} (h : i < rs.length) : rs[i]? = some (rowAt rs i) := by
  unfold rowAt
  rw [List.getD_eq_getElem?_getD, List.getElem?_eq_getElem h]; rfl
theorem rowAt_mem {rs : List Row} {i : Nat} (h : i < rs.length) : rowAt rs i ∈ rs := List.mem_of_getElem? (rowAt_get h)
def Len3 (m : Nat) (r : Row) : Prop := r.ps.length = m ∧ (r.s = "<=" ∨ r.s = "<" ∨ r.s = "=")
end W

set_option Elab.async false
set_option linter.all false
set_option maxRecDepth 100000
set_option autoImplicit false
namespace W
open PySem PySem.Spec PyProof.Rows L2 VL
noncomputable def c_without : Ev → Out := sSeq (sAsg (eVar 0) (gTupD 3 (gsCons (gSet 2) (gsCons (gSet 3) (gsCons (gSet 4) (gsNil)))))) (sSeq (sSetO 5 (eComp [6] (e1 seqD (e2 addD (e3 sliceD (eOwn 2) (pNo) (e1 intOf (eVar 1))) (e3 sliceD (eOwn 2) (e1 intOf (e2 addD (eOwn 1) (cst (.int 1)))) (pNo)))) (gSet 6) (cst true) (eLst (e1 listO (eCons (eOwn 6) (cst [])))))) (sFz 5 (sRet (e1 tupD (eCons (eVar 5) (eCons (eLst (e1 listO (eCons (eOwn 3) (cst [])))) (eCons (eVar 4) (cst []))))))))
noncomputable def m_without : List D → R SD := runD 2 7 c_without
noncomputable def b_content_1 : Ev → Out := sSet 1 (e1 gcdD (eCons (eOwn 1) (eCons (eOwn 2) (cst []))))
noncomputable def c_content : Ev → Out := sSeq (sSet 1 (cst (.int 0))) (sSeq (sFor (e1 seqD (eVar 0)) (gSet 2) b_content_1) (sRet (eVar 1)))
noncomputable def m_content : List D → R SD := runD 1 3 c_content
noncomputable def c_divided_row : Ev → Out := sSeq (sAsg (eVar 0) (gTupD 3 (gsCons (gSet 1) (gsCons (gSet 2) (gsCons (gSet 3) (gsNil)))))) (sSeq (sSet 4 (eCall m_content (eCons (eLst (eComp [5] (e1 seqD (e2 addD (eOwn 1) (eLst (e1 lim (eCons (eVar 2) (cst [])))))) (gSet 5) (cst true) (eCall m_content (eCons (eVar 5) (cst []))))) (cst [])))) (sSeq (sIf (e1 bOf (e2 eqD (eOwn 4) (cst (.int 0)))) (sRet (eVar 0)) (sNil)) (sSeq (sSetO 6 (eComp [5] (e1 seqD (e2 addD (eOwn 1) (eLst (e1 lim (eCons (eVar 2) (cst [])))))) (gSet 5) (cst true) (eLst (eComp [7] (e1 seqD (eVar 5)) (gSet 7) (cst true) (e2 fdivD (eOwn 7) (eOwn 4)))))) (sFz 6 (sRet (e1 tupD (eCons (e3 sliceD (eOwn 6) (pNo) (e1 intOf (e1 negD (cst (.int 1))))) (eCons (e2 ixD (eOwn 6) (e1 negD (cst (.int 1)))) (eCons (eVar 3) (cst []))))))))))
noncomputable def m_divided_row : List D → R SD := runD 1 8 c_divided_row
noncomputable def b_mixed_1 : Ev → Out := sApp 5 (eCall m_subtract (eCons (eCall m_multiply (eCons (eVar 6) (eCons (eVar 1) (cst [])))) (eCons (eCall m_multiply (eCons (eVar 7) (eCons (eVar 3) (cst [])))) (cst []))))
noncomputable def c_mixed : Ev → Out := sSeq (sSetO 5 (e1 lim (cst []))) (sSeq (sFor (e1 zipD (eCons (e2 addD (e2 ixD (eOwn 0) (cst (.int 0))) (eLst (e1 lim (eCons (e2 ixD (eOwn 0) (cst (.int 1))) (cst []))))) (eCons (e2 addD (e2 ixD (eOwn 2) (cst (.int 0))) (eLst (e1 lim (eCons (e2 ixD (eOwn 2) (cst (.int 1))) (cst []))))) (cst [])))) (gTupD 2 (gsCons (gSet 6) (gsCons (gSet 7) (gsNil)))) b_mixed_1) (sRet (e1 tupD (eCons (e3 sliceD (eOwn 5) (pNo) (e1 intOf (e1 negD (cst (.int 1))))) (eCons (e2 ixD (eOwn 5) (e1 negD (cst (.int 1)))) (eCons (eVar 4) (cst [])))))))
noncomputable def m_mixed : List D → R SD := runD 5 8 c_mixed
@[simp] theorem r_run5 (n : Nat) (F : Ev → Out) (a b c d e : D) : runD 5 n F [a, b, c, d, e] = fin (F (.sh a :: .sh b :: .sh c :: .sh d :: .sh e :: List.replicate (n - 5) .no)) := id rfl
@[simp] theorem r_run6 (n : Nat) (F : Ev → Out) (a b c d e f : D) : runD 6 n F [a, b, c, d, e, f] = fin (F (.sh a :: .sh b :: .sh c :: .sh d :: .sh e :: .sh f :: List.replicate (n - 6) .no)) := id rfl
/-! ### a number taken out: the program's functions -/
theorem cut_to (l : List D) (k : Nat) (h : k ≤ l.length) : cutL l none (some (k : Int)) = l.take k := by
  unfold cutL; rw [HT.sIx_none, sIx_in (by omega) (by omega)]; simp
theorem cut_from (l : List D) (k : Int) (j : Nat) (hj : k = j) (h : j ≤ l.length) : cutL l (some k) none = l.drop j := by
  subst hj
  unfold cutL; rw [HT.sIx_none, sIx_in (by omega) (by omega)]; simp
  rw [List.take_of_length_le (by simp)]
theorem cut_init {α : Type} (F : α → D) (l : List α) (a : α) : cutL ((l ++ [a]).map F) none (some (-1)) = l.map F := by
  rw [cut_map, HT.sIx_none]
  have : HT.sIx (l ++ [a]).length (l ++ [a]).length (some (-1)) = l.length := by
    show (if (-1 : Int) < 0 then (-1 + ((l ++ [a]).length : Int)).toNat else min (-1 : Int).toNat (l ++ [a]).length) = _
    rw [if_pos (by decide)]; simp; omega
  rw [this, List.drop_zero, Nat.sub_zero, List.take_left]
theorem at_last {α : Type} (F : α → D) (l : List α) (a : α) : atI ((l ++ [a]).map F) (-1 : Int) = some (F a) := by rw [List.map_append]; exact r_at_last
theorem withoutR_len {r : Row} {k : Nat} (hk : k < r.ps.length) : ((withoutR r k).ps.length : Nat) = r.ps.length - 1 := by unfold withoutR; simp; omega
theorem without_ok {r : Row} {k : Nat} (hk : k < r.ps.length) (hl : r.ps.length ≤ 1000) : m_without [rowD r, .int (k : Int)] = .ok (.sh (rowD (withoutR r k))) := by
  have c1 := cut_to (r.ps.map pD) k (by simp; omega)
  have c2 := cut_from (r.ps.map pD) ((k : Int) + 1) (k + 1) (by omega) (by simp; omega)
  have ca : catD ((r.ps.map pD).take k) ((r.ps.map pD).drop (k + 1)) = some ((withoutR r k).ps.map pD) := by
    rw [r_cat (by simp; exact slB (by omega))]; unfold withoutR; rw [List.map_append, List.map_take, List.map_drop]
  have hw : (withoutR r k).ps.length ≤ sizeLine := slB (by rw [withoutR_len hk]; omega)
  have hc : ∀ ρ : Ev, ρ.length = 7 → compR (compS [6] (gSet 6) (cst true) (eLst (e1 listO (eCons (eOwn 6) (cst [])))) ρ) ((withoutR r k).ps.map pD) = .ok ((withoutR r k).ps.map pD) := fun ρ hρ => by
    match ρ, hρ with
    | [a0, a1, a2, a3, a4, a5, a6], _ => exact compR_map' fun p hp => by simp [compS]
  simp [m_without, c_without, rowD, c1, c2, ca, hw, hc, -r_cat]
  unfold withoutR; simp
/-! contents -/
theorem content_loop (w0 : SD) : ∀ (a : List Int) (g : Nat) (j : SD), ∃ j', forO (gTo (gSet 2) b_content_1) (a.map .int) [w0, .sh (.int (g : Int)), j] = .nx [w0, .sh (.int ((a.foldl (fun g c => Nat.gcd g c.natAbs) g : Nat) : Int)), j']
  | [], g, j => ⟨j, rfl⟩
  | c :: a, g, j => by
    obtain ⟨j', e⟩ := content_loop w0 a (Nat.gcd g c.natAbs) (.sh (.int c))
    refine ⟨j', ?_⟩
    have st : gTo (gSet 2) b_content_1 (.int c) [w0, .sh (.int (g : Int)), j] = .nx [w0, .sh (.int ((Nat.gcd g c.natAbs : Nat) : Int)), .sh (.int c)] := by simp [b_content_1]
    rw [List.map_cons, forO, st]
    exact e
theorem content_ok (a : List Int) : m_content [pD a] = .ok (.sh (.int (contN a : Int))) := by
  obtain ⟨j, e⟩ := content_loop (.sh (pD a)) a 0 .no
  have e' : forO (gTo (gSet 2) b_content_1) (a.map .int) [.sh (pD a), .sh (.int 0), .no] = .nx [.sh (pD a), .sh (.int (contN a : Int)), j] := e
  simp [m_content, c_content, e']
theorem contN_zero : ∀ {a : List Int}, (∀ c ∈ a, c = 0) → contN a = 0 := fun {a} h => by
  unfold contN
  induction a with
  | nil => rfl
  | cons c a ih =>
    rw [List.foldl_cons, h c (by simp)]
    exact ih fun d hd => h d (by simp [hd])
theorem contN_sz {a : List Int} {s : Nat} (h : SzP s a) : Sz s (contN a : Int) := by
  by_cases z : ∀ c ∈ a, c = 0
  · rw [contN_zero z]; exact sz0 _
  · obtain ⟨c, hc, c0⟩ : ∃ c, c ∈ a ∧ c ≠ 0 := by
      apply Classical.byContradiction
      intro g
      exact z fun c hc => Classical.byContradiction fun w => g ⟨c, hc, w⟩
    refine (h c hc).of_le ?_
    have := Int.natAbs_dvd_natAbs.mpr (contN_dvd hc)
    exact Nat.le_of_dvd (by omega) this
structure RowZ (m n c : Nat) (r : Row) : Prop where
  len : r.ps.length = m
  ps : ∀ p ∈ r.ps, SzP c p ∧ p.length ≤ n
  q : SzP c r.q
  ql : r.q.length ≤ n
  s : r.s = "<=" ∨ r.s = "<" ∨ r.s = "="
theorem RowZ.mono {m n c n' c' : Nat} {r : Row} (h : RowZ m n c r) (e : n ≤ n') (e' : c ≤ c') : RowZ m n' c' r := ⟨h.len, fun p hp => ⟨(h.ps p hp).1.mono e', Nat.le_trans (h.ps p hp).2 e⟩, h.q.mono e', Nat.le_trans h.ql e, h.s⟩
theorem RowZ.all {m n c : Nat} {r : Row} (h : RowZ m n c r) : ∀ p ∈ r.ps ++ [r.q], SzP c p ∧ p.length ≤ n := fun p hp => by
  rcases List.mem_append.mp hp with g | g
  · exact h.ps p g
  · simp at g; subst g; exact ⟨h.q, h.ql⟩
theorem RowZ.l3 {m n c : Nat} {r : Row} (h : RowZ m n c r) : Len3 m r := ⟨h.len, h.s⟩
theorem RowZ.cont {m n c : Nat} {r : Row} (h : RowZ m n c r) : Sz c (contR r : Int) := contN_sz fun x hx => by
  obtain ⟨p, hp, rfl⟩ := List.mem_map.mp hx
  exact contN_sz (h.all p hp).1
theorem RowZ.divided {m n c : Nat} {r : Row} (h : RowZ m n c r) : RowZ m n c (dividedR r) := by
  unfold dividedR
  split
  · exact h
  · have : ∀ {p : List Int}, SzP c p → SzP c (divP (contR r) p) := fun {p} hp x hx => by
      obtain ⟨y, hy, rfl⟩ := List.mem_map.mp hx
      exact (hp y hy).fdiv
    exact ⟨by simpa using h.len, fun p hp => by
      obtain ⟨q, hq, rfl⟩ := List.mem_map.mp hp
      exact ⟨this (h.ps q hq).1, by simpa [divP] using (h.ps q hq).2⟩, this h.q, by simpa [divP] using h.ql, h.s⟩
theorem RowZ.without {m n c k : Nat} {r : Row} (h : RowZ (m + 1) n c r) (hk : k < m + 1) : RowZ m n c (withoutR r k) :=
  ⟨by rw [withoutR_len (by rw [h.len]; exact hk), h.len]; rfl, fun p hp => by
    unfold withoutR at hp
    rcases List.mem_append.mp hp with g | g
    · exact h.ps p (List.mem_of_mem_take g)
    · exact h.ps p (List.mem_of_mem_drop g), h.q, h.ql, h.s⟩
theorem SzP.mix {c d n : Nat} {f g a b : List Int} (ha : SzP c a) (hb : SzP c b) (hf : SzP d f) (hg : SzP d g) (la : a.length ≤ n) (lb : b.length ≤ n) : SzP (c + d + n + 2) (mixP f g a b) := by
  have h1 := (ha.mul hf).mono (show _ ≤ c + d + n by omega)
  have h2 := (hb.mul hg).mono (show _ ≤ c + d + n by omega)
  unfold mixP subP
  exact (h1.mono (show _ ≤ c + d + n + 1 by omega)).add (h2.scale (Sz.lit (i := -1) (a := 1) (by decide)))
theorem mix_len {f g a b : List Int} {n l : Nat} (la : a.length ≤ n) (lb : b.length ≤ n) (lf : f.length ≤ l) (lg : g.length ≤ l) : (mixP f g a b).length ≤ n + l := by
  unfold mixP subP
  have h1 := mul_len a f
  have h2 := mul_len b g
  have h3 := scale_len (mulP b g) (-1)
  have h4 := add_len (mulP a f) (scaleP (mulP b g) (-1))
  omega
theorem RowZ.mixed {m n c d l : Nat} {r o : Row} {f g : List Int} {s : Str} (h : RowZ m n c r) (ho : RowZ m n c o) (hf : SzP d f) (hg : SzP d g) (lf : f.length ≤ l) (lg : g.length ≤ l) (hs : s = "<=" ∨ s = "<" ∨ s = "=") : RowZ m (n + l) (c + d + n + 2) (mixedR r f o g s) := by
  refine ⟨?_, fun p hp => ?_, ?_, ?_, hs⟩
  · unfold mixedR; simp [h.len, ho.len]
  · unfold mixedR at hp
    simp only at hp
    obtain ⟨i, hi, e⟩ := List.mem_iff_getElem.mp hp
    rw [List.getElem_zipWith] at e
    subst e
    have m1 := h.ps _ (List.getElem_mem (l := r.ps) (n := i) (by simp at hi; omega))
    have m2 := ho.ps _ (List.getElem_mem (l := o.ps) (n := i) (by simp at hi; omega))
    exact ⟨SzP.mix m1.1 m2.1 hf hg m1.2 m2.2, mix_len m1.2 m2.2 lf lg⟩
  · exact SzP.mix h.q ho.q hf hg h.ql ho.ql
  · exact mix_len h.ql ho.ql lf lg
theorem divided_row_ok {m n c : Nat} {r : Row} (h : RowZ m n c r) (hm : m ≤ 1000) (hn : n ≤ 1000) (hc : c ≤ 9000) : m_divided_row [rowD r] = .ok (.sh (rowD (dividedR r))) := by
  have hs : r.ps.length + 1 ≤ sizeLine := slB (by rw [h.len]; omega)
  have ca : catD (r.ps.map pD) [pD r.q] = some ((r.ps ++ [r.q]).map pD) := by
    rw [r_cat (by simpa using hs), List.map_append]; rfl
  have hl : (r.ps ++ [r.q]).length ≤ sizeLine := by simpa using hs
  have hsz := h.cont
  have h1 : ∀ ρ : Ev, ρ.length = 8 → compR (compS [5] (gSet 5) (cst true) (eCall m_content (eCons (eVar 5) (cst []))) ρ) ((r.ps ++ [r.q]).map pD) = .ok ((r.ps ++ [r.q]).map fun p => .int (contN p : Int)) := fun ρ hρ => by
    match ρ, hρ with
    | [a0, a1, a2, a3, a4, a5, a6, a7], _ => exact compR_map' fun p hp => by simp [compS, content_ok]
  have e1' : PyData.list ((r.ps ++ [r.q]).map fun p => .int (contN p : Int)) = pD ((r.ps ++ [r.q]).map fun p => (contN p : Int)) := by unfold pD; rw [List.map_map]; rfl
  have c1 : m_content [.list ((r.ps ++ [r.q]).map fun p => .int (contN p : Int))] = .ok (.sh (.int (contR r : Int))) := by rw [e1', content_ok]; rfl
  by_cases z : contR r = 0
  · have hd : dividedR r = r := by unfold dividedR; rw [if_pos z]
    rw [hd]
    simp [m_divided_row, c_divided_row, rowD, ca, hs, h1, c1, z, -r_cat, -List.map_append]
  · have hz : ¬ ((contR r : Int) = 0) := by omega
    have od : ∀ x, okDiv x (contR r : Int) = true := fun x => okDiv_of (hsz.mono hc) hz
    have h2 : ∀ (a0 a1 a2 a3 a5 a6 a7 : SD), compR (compS [5] (gSet 5) (cst true) (eLst (eComp [7] (e1 seqD (eVar 5)) (gSet 7) (cst true) (e2 fdivD (eOwn 7) (eOwn 4)))) [a0, a1, a2, a3, .sh (.int (contR r : Int)), a5, a6, a7]) ((r.ps ++ [r.q]).map pD) = .ok ((r.ps ++ [r.q]).map fun p => pD (divP (contR r) p)) := fun a0 a1 a2 a3 a5 a6 a7 =>
      compR_map' fun p hp => by
        have hl : p.length ≤ sizeLine := slB (by have := (h.all p hp).2; omega)
        have : ∀ b5 b7, compR (compS [7] (gSet 7) (cst true) (e2 fdivD (eOwn 7) (eOwn 4)) [a0, a1, a2, a3, .sh (.int (contR r : Int)), b5, a6, b7]) (p.map .int) = .ok (p.map fun x => .int (x.fdiv (contR r : Int))) := fun b5 b7 => compR_map' fun x hx => by simp [compS, od]
        have e3' : PyData.list (p.map fun x => .int (x.fdiv (contR r : Int))) = pD (divP (contR r) p) := by unfold pD divP; rw [List.map_map]; rfl
        simp [compS, hl, this, e3', od]
    have e4 : ((r.ps ++ [r.q]).map fun p => pD (divP (contR r) p)) = (((r.ps.map (divP (contR r))) ++ [divP (contR r) r.q]).map pD) := by simp [Function.comp_def]
    have s1' := cut_init pD (r.ps.map (divP (contR r))) (divP (contR r) r.q)
    have s2' := at_last pD (r.ps.map (divP (contR r))) (divP (contR r) r.q)
    have hd : dividedR r = ⟨r.ps.map (divP (contR r)), divP (contR r) r.q, r.s⟩ := by unfold dividedR; rw [if_neg z]
    rw [hd]
    rw [e4] at h2
    simp [m_divided_row, c_divided_row, rowD, ca, hs, h1, c1, z, h2, s1', s2', -r_cat, -List.map_append]
/-! rows mixed -/
theorem mixed_loop {f g : List Int} {c d n : Nat} (hf : SzP d f) (hg : SzP d g) (lf : f.length ≤ 1000) (lg : g.length ≤ 1000) (hcd : c + d + n ≤ 10000) (hn : n ≤ 1000) (w0 w2 w4 : SD) : ∀ (as bs : List (List Int)) (acc : List (List Int)) (w6 w7 : SD), (∀ p ∈ as, SzP c p ∧ p.length ≤ n) → (∀ p ∈ bs, SzP c p ∧ p.length ≤ n) → acc.length + as.length ≤ 10000 →
    ∃ y6 y7, forO (gTo (gTupD 2 (gsCons (gSet 6) (gsCons (gSet 7) (gsNil)))) b_mixed_1) (zipL (as.map pD) (bs.map pD)) [w0, .sh (pD f), w2, .sh (pD g), w4, .ow (acc.map pD), w6, w7] = .nx [w0, .sh (pD f), w2, .sh (pD g), w4, .ow ((acc ++ List.zipWith (mixP f g) as bs).map pD), y6, y7]
  | [], bs, acc, w6, w7, _, _, _ => ⟨w6, w7, by simp [zipL]⟩
  | a :: as, [], acc, w6, w7, _, _, _ => ⟨w6, w7, by simp [zipL]⟩
  | a :: as, b :: bs, acc, w6, w7, ha, hb, hl => by
    obtain ⟨a1, a2⟩ := ha a (by simp)
    obtain ⟨b1, b2⟩ := hb b (by simp)
    obtain ⟨y6, y7, ih⟩ := mixed_loop hf hg lf lg hcd hn w0 w2 w4 as bs (acc ++ [mixP f g a b]) (.sh (pD a)) (.sh (pD b)) (fun q hq => ha q (by simp [hq])) (fun q hq => hb q (by simp [hq])) (by simp at hl ⊢; omega)
    refine ⟨y6, y7, ?_⟩
    have m1 := multiply_ok a1 hf (by omega) (by omega) (by omega)
    have m2 := multiply_ok b1 hg (by omega) (by omega) (by omega)
    have l1 := mul_len a f
    have l2 := mul_len b g
    have s1' := subtract_ok (a := mulP a f) (b1.mul hg) (by omega) (by omega) (by omega)
    have hs : acc.length < sizeLine := Nat.lt_of_lt_of_le (show acc.length < 100000 by simp at hl; omega) (by decide)
    have st : gTo (gTupD 2 (gsCons (gSet 6) (gsCons (gSet 7) (gsNil)))) b_mixed_1 (.tuple [pD a, pD b]) [w0, .sh (pD f), w2, .sh (pD g), w4, .ow (acc.map pD), w6, w7] = .nx [w0, .sh (pD f), w2, .sh (pD g), w4, .ow ((acc ++ [mixP f g a b]).map pD), .sh (pD a), .sh (pD b)] := by
      simp [b_mixed_1, m1, m2, s1', hs, mixP]
    have e : zipL ((a :: as).map pD) ((b :: bs).map pD) = .tuple [pD a, pD b] :: zipL (as.map pD) (bs.map pD) := rfl
    rw [e, forO, st]
    rw [List.append_assoc] at ih
    exact ih
theorem mixed_ok {m n c d : Nat} {r o : Row} {f g : List Int} {s : Str} (h : RowZ m n c r) (ho : RowZ m n c o) (hf : SzP d f) (hg : SzP d g) (lf : f.length ≤ 1000) (lg : g.length ≤ 1000) (hcd : c + d + n ≤ 10000) (hn : n ≤ 1000) (hm : m ≤ 1000) :
    m_mixed [rowD r, pD f, rowD o, pD g, .str s] = .ok (.sh (rowD (mixedR r f o g s))) := by
  have ca : ∀ {r : Row}, RowZ m n c r → catD (r.ps.map pD) [pD r.q] = some ((r.ps ++ [r.q]).map pD) := fun {r} h => by
    rw [r_cat (slB (by simp [h.len]; omega)), List.map_append]; rfl
  obtain ⟨y6, y7, e⟩ := mixed_loop hf hg lf lg hcd hn (.sh (rowD r)) (.sh (rowD o)) (.sh (.str s)) (r.ps ++ [r.q]) (o.ps ++ [o.q]) [] .no .no h.all ho.all (by simp [h.len]; omega)
  have e4 : List.zipWith (mixP f g) (r.ps ++ [r.q]) (o.ps ++ [o.q]) = List.zipWith (mixP f g) r.ps o.ps ++ [mixP f g r.q o.q] := by
    rw [List.zipWith_append (by rw [h.len, ho.len])]; rfl
  rw [e4, List.nil_append, List.map_nil] at e
  have s1' := cut_init pD (List.zipWith (mixP f g) r.ps o.ps) (mixP f g r.q o.q)
  have s2' := at_last pD (List.zipWith (mixP f g) r.ps o.ps) (mixP f g r.q o.q)
  simp [m_mixed, c_mixed, row_ix0, rowD_ix1, ca h, ca ho, e, s1', s2', -r_cat, -List.map_append, -r_ix_t]
  simp [rowD, mixedR]
/-! rows used up by an equation -/
structure RowsZ (k n c : Nat) (rs : List Row) : Prop where
  all : ∀ r ∈ rs, RowZ (k + 1) n c r
  len : rs.length ≤ 1000
  hk : k ≤ 10
  hn : n ≤ 100
  hc : c ≤ 1000
theorem RowsZ.at {k n c i : Nat} {rs : List Row} (h : RowsZ k n c rs) (hi : i < rs.length) : RowZ (k + 1) n c (rowAt rs i) := h.all _ (rowAt_mem hi)
/-- the size of what is mixed -/
theorem RowsZ.mix {k n c i j : Nat} {rs : List Row} (h : RowsZ k n c rs) (hi : i < rs.length) (hj : j < rs.length) {f g : List Int} {s : Str} (hf : SzP (c + 1) f) (hg : SzP (c + 1) g) (lf : f.length ≤ n) (lg : g.length ≤ n) (hs : s = "<=" ∨ s = "<" ∨ s = "=") :
    m_mixed [rowD (rowAt rs i), pD f, rowD (rowAt rs j), pD g, .str s] = .ok (.sh (rowD (mixedR (rowAt rs i) f (rowAt rs j) g s))) ∧
    m_without [rowD (mixedR (rowAt rs i) f (rowAt rs j) g s), .int (k : Int)] = .ok (.sh (rowD (withoutR (mixedR (rowAt rs i) f (rowAt rs j) g s) k))) ∧
    m_divided_row [rowD (withoutR (mixedR (rowAt rs i) f (rowAt rs j) g s) k)] = .ok (.sh (rowD (dividedR (withoutR (mixedR (rowAt rs i) f (rowAt rs j) g s) k)))) ∧
    RowZ k (2 * n) (2 * c + n + 3) (dividedR (withoutR (mixedR (rowAt rs i) f (rowAt rs j) g s) k)) := by
  have a := h.at hi
  have b := h.at hj
  have := h.hk
  have := h.hn
  have := h.hc
  have z := (a.mixed b hf hg lf lg hs).mono (show n + n ≤ 2 * n by omega) (show c + (c + 1) + n + 2 ≤ 2 * c + n + 3 by omega)
  have w := z.without (show k < k + 1 by omega)
  exact ⟨mixed_ok a b hf hg (by omega) (by omega) (by omega) (by omega) (by omega), without_ok (by rw [z.len]; omega) (by rw [z.len]; omega), divided_row_ok w (by omega) (by omega) (by omega), w.divided⟩
/-! signs, stages, blocks -/
@[simp] theorem r_eApp (n k : Nat) (f g : Ev → R (List D)) (ρ : Ev) : eApp n k f g ρ = (f ρ).bind fun a => (g ρ).bind fun b => if a.length = n ∧ b.length = k then .ok (a ++ b) else .bad := id rfl
end W

set_option Elab.async false
set_option linter.all false
set_option maxRecDepth 100000
set_option autoImplicit false
namespace W
open PySem PySem.Spec PyProof.Rows L2 VL
/-! ### numbers taken out of rows of numbers: the law's functions -/
structure NRow where
  c : List Rat
  s : Str
def nrow0 : NRow := ⟨[], "="⟩
def nAt (rs : List NRow) (i : Nat) : NRow := rs.getD i nrow0
theorem nAt_get {rs : List NRow} {i : Nat} (h : i < rs.length) : rs[i]? = some (nAt rs i) := by
  unfold nAt
  rw [List.getD_eq_getElem?_getD, List.getElem?_eq_getElem h]; rfl
theorem nAt_mem {rs : List NRow} {i : Nat} (h : i < rs.length) : nAt rs i ∈ rs := List.mem_of_getElem? (nAt_get h)
def hdN (n : NRow) : Rat := n.c.headD 0
def tlN (n : NRow) : NRow := ⟨n.c.tail, n.s⟩
def lessN (a : List Rat) (f : Rat) (b : List Rat) (g : Rat) : List Rat := List.zipWith (fun x y => x * f - y * g) a b
structure NOk (l : Nat) (n : NRow) : Prop where
  len : n.c.length = l + 1
  s : n.s = "<=" ∨ n.s = "<" ∨ n.s = "="
theorem NOk.cons {l : Nat} {n : NRow} (h : NOk l n) : n.c = hdN n :: (tlN n).c := by
  have := h.len
  unfold hdN tlN
  cases hc : n.c with
  | nil => rw [hc] at this; simp at this
  | cons a b => rfl
/-! the functions -/
theorem Rk.neg {k : Nat} {r : Rat} (h : Rk k r) : Rk k (-r) := ⟨nm_tQ _, by
  show Sz k (-r).num
  rw [Rat.neg_num]; exact h.s1.neg, by
  show Sz k ((-r).den : Int)
  rw [Rat.neg_den]; exact h.s2⟩
structure NZ (l k : Nat) (n : NRow) : Prop where
  len : n.c.length = l + 1
  sz : ∀ x ∈ n.c, Rk k x
  s : n.s = "<=" ∨ n.s = "<" ∨ n.s = "="
theorem NZ.ok {l k : Nat} {n : NRow} (h : NZ l k n) : NOk l n := ⟨h.len, h.s⟩
theorem NZ.hd {l k : Nat} {n : NRow} (h : NZ l k n) : Rk k (hdN n) := h.sz _ (by rw [h.ok.cons]; simp)
theorem NZ.ix {l k : Nat} {n : NRow} (h : NZ l k n) : ixD (.list (n.c.map rD)) (.int 0) = some (rD (hdN n)) := by
  rw [h.ok.cons]; simp
theorem NZ.tl {l k : Nat} {n : NRow} (h : NZ (l + 1) k n) : NZ l k (tlN n) := ⟨by unfold tlN; simp [h.len], fun x hx => h.sz x (List.mem_of_mem_tail hx), h.s⟩
theorem cut_tail {α : Type} (F : α → D) (l : List α) (h : 1 ≤ l.length) : cutL (l.map F) (some 1) none = l.tail.map F := by
  rw [cut_from _ 1 1 rfl (by simpa using h)]
  cases l with
  | nil => rfl
  | cons a l => rfl
theorem NZ.cut {l k : Nat} {n : NRow} (h : NZ l k n) : sliceD (.list (n.c.map rD)) (some 1) none = some (.list ((tlN n).c.map rD)) := by
  rw [r_slice, cut_tail _ _ (by rw [h.len]; omega)]; rfl
theorem mem_lessN {a b : List Rat} {f g x : Rat} (h : x ∈ lessN a f b g) : ∃ y z, y ∈ a ∧ z ∈ b ∧ x = y * f - z * g := by
  unfold lessN at h
  obtain ⟨i, hi, e⟩ := List.mem_iff_getElem.mp h
  rw [List.getElem_zipWith] at e
  simp at hi
  exact ⟨_, _, List.getElem_mem (by omega), List.getElem_mem (by omega), e.symm⟩
theorem NZ.less {l k j : Nat} {a b : List Rat} {f g : Rat} {s : Str} (ha : a.length = l + 1) (hb : b.length = l + 1) (sa : ∀ x ∈ a, Rk k x) (sb : ∀ x ∈ b, Rk k x) (hf : Rk j f) (hg : Rk j g) (hs : s = "<=" ∨ s = "<" ∨ s = "=") : NZ l (2 * (k + j) + 1) ⟨lessN a f b g, s⟩ :=
  ⟨by simp [lessN, ha, hb], fun x hx => by
    obtain ⟨y, z, hy, hz, rfl⟩ := mem_lessN hx
    rw [Rat.sub_eq_add_neg]
    exact (((sa y hy).mul hf).add ((sb z hz).mul hg).neg).mono (by omega), hs⟩
theorem NZ.mono {l k j : Nat} {n : NRow} (h : NZ l k n) (e : k ≤ j) : NZ l j n := ⟨h.len, fun x hx => (h.sz x hx).mono e, h.s⟩
structure NsZ (l k : Nat) (rs : List NRow) : Prop where
  all : ∀ n ∈ rs, NZ (l + 1) k n
  len : rs.length ≤ 1000
  hl : l ≤ 10
  hk : 4 * k ≤ 1900
theorem NsZ.at {l k i : Nat} {rs : List NRow} (h : NsZ l k rs) (hi : i < rs.length) : NZ (l + 1) k (nAt rs i) := h.all _ (nAt_mem hi)
/-! rows at a number, and blocks -/
theorem RowOk.z {m : Nat} {r : Row} (h : RowOk m r) : RowZ m 3 6 r := ⟨h.len, fun p hp => ⟨(h.ps p hp).sz, (h.ps p hp).len⟩, h.q.sz, h.q.len, h.s⟩
end W

set_option Elab.async false
set_option linter.all false
set_option maxRecDepth 100000
set_option autoImplicit false
set_option maxHeartbeats 4000000
namespace W
open PySem PySem.Spec PyProof.Rows L2 VL
open TL (tl tl_append tl_join joinL join_eq split_join ext_tl split_spl spl kind_ok tl_strSub_end)
noncomputable def b_words_of_1 : Ev → Out := sSeq (sApp 1 (e1 tupD (eCons (eVar 2) (eCons (eVar 3) (cst []))))) (sAug 2 iaddD (e2 addD (e1 lenD (eCons (eOwn 3) (cst []))) (cst (.int 1))))
noncomputable def c_words_of : Ev → Out := sSeq (sSetO 1 (e1 lim (cst []))) (sSeq (sSet 2 (cst (.int 1))) (sSeq (sFor (e1 seqD (eLst (eStr splitD (eOwn 0) (cst (.str " "))))) (gSet 3) b_words_of_1) (sRetV 1)))
noncomputable def m_words_of : List D → R SD := runD 1 4 c_words_of
noncomputable def c_count_in : Ev → Out := sSeq (sSet 2 (eCall m_read_whole (eCons (eVar 0) (cst [])))) (sRet (eIf (eAnd (e1 bOf (e2 isnotD (eOwn 2) (cst .none))) (e1 bOf (eChain leD leD (cst (.int 1)) (eOwn 2) (eOwn 1)))) (eVar 2) (cst .none)))
noncomputable def m_count_in : List D → R SD := runD 2 3 c_count_in
noncomputable def c_value_of : Ev → Out := sSeq (sIf (e1 bOf (e2 eqD (eOwn 0) (cst (.str "polynomial")))) (sRet (eCall m_read_polynomial (eCons (eVar 1) (cst [])))) (sNil)) (sSeq (sIf (e1 bOf (e2 eqD (eOwn 0) (cst (.str "many")))) (sRet (eCall m_count_in (eCons (eVar 1) (eCons (cst (.int 2)) (cst []))))) (sNil)) (sSeq (sIf (eOr (e1 bOf (e2 eqD (eOwn 0) (cst (.str "rows 1")))) (e1 bOf (e2 eqD (eOwn 0) (cst (.str "rows 2"))))) (sRet (eCall m_count_in (eCons (eVar 1) (eCons (cst (.int 5)) (cst []))))) (sNil)) (sSeq (sIf (e1 bOf (e2 eqD (eOwn 0) (cst (.str "formula")))) (sRet (eIf (e1 bOf (e1 (gInA ["sign", "some", "not", "and", "or"] false) (eOwn 1))) (eVar 1) (cst .none))) (sNil)) (sSeq (sSet 2 (eIf (e1 bOf (e2 eqD (eOwn 0) (cst (.str "sign")))) (eLst (ksO ["<", ">=", "<=", ">", "=", "!="])) (eLst (e1 listO (eCons (cst (.tuple [(.str "<"), (.str "<="), (.str "=")])) (cst [])))))) (sRet (eIf (e1 bOf (e2 memD (eOwn 1) (eOwn 2))) (eVar 1) (cst .none)))))))
noncomputable def m_value_of : List D → R SD := runD 2 3 c_value_of
noncomputable def c_behind : Ev → Out := sSeq (sIf (e1 bOf (e2 eqD (eOwn 0) (cst (.str "formula")))) (sRetO (e1 listO (eCons (eGSel ["sign", "some", "not", "and", "or"] [(.tuple [(.str "polynomial"), (.str "sign")]), (.tuple [(.str "many")]), (.tuple [(.str "formula")]), (.tuple [(.str "formula"), (.str "formula")]), (.tuple [(.str "formula"), (.str "formula")])] (eVar 1)) (cst [])))) (sNil)) (sSeq (sIf (e1 bOf (e2 eqD (eOwn 0) (cst (.str "many")))) (sRetO (e1 lim (eCons (e1 (fmtC "rows ") (eOwn 1)) (cst [])))) (sNil)) (sSeq (sIf (eOr (e1 bOf (e2 eqD (eOwn 0) (cst (.str "rows 1")))) (e1 bOf (e2 eqD (eOwn 0) (cst (.str "rows 2"))))) (sRetO (e2 mulO (e2 addD (e2 mulD (eLst (e1 lim (eCons (cst (.str "polynomial")) (cst [])))) (eIf (e1 bOf (e2 eqD (eOwn 0) (cst (.str "rows 1")))) (cst (.int 2)) (cst (.int 3)))) (eLst (e1 lim (eCons (cst (.str "row sign")) (cst []))))) (eOwn 1))) (sNil)) (sRetO (e1 lim (cst [])))))
noncomputable def m_behind : List D → R SD := runD 2 2 c_behind
noncomputable def b_read_line_1 : Ev → Out := sSeq (sSet 6 (eIf (e1 bOf (e2 neD (eOwn 2) (eLst (e1 lim (cst []))))) (eCall m_value_of (eCons (e2 ixD (eOwn 2) (cst (.int 0))) (eCons (eVar 5) (cst [])))) (cst .none))) (sSeq (sIf (e1 bOf (e2 isD (eOwn 6) (cst .none))) (sRaiseF "BadText" ["line", "column"] (eCons (cst (.int 1)) (eCons (eVar 4) (cst [])))) (sNil)) (sSeq (sApp 3 (e1 tupD (eCons (e2 ixD (eOwn 2) (cst (.int 0))) (eCons (eVar 6) (cst []))))) (sSet 2 (e2 addD (eCall m_behind (eCons (e2 ixD (eOwn 2) (cst (.int 0))) (eCons (eVar 6) (cst [])))) (e3 sliceD (eOwn 2) (e1 intOf (cst (.int 1))) (pNo))))))
noncomputable def c_read_line : Ev → Out := sSeq (sSet 2 (eLst (e1 lim (eCons (cst (.str "formula")) (cst []))))) (sSeq (sSetO 3 (e1 lim (cst []))) (sSeq (sFor (e1 seqD (eCall m_words_of (eCons (eVar 0) (cst [])))) (gTupD 2 (gsCons (gSet 4) (gsCons (gSet 5) (gsNil)))) b_read_line_1) (sSeq (sIf (eOr (e1 bOf (e2 neD (eOwn 2) (eLst (e1 lim (cst []))))) (eNot (e1 truD (eOwn 1)))) (sRaiseF "BadText" ["line", "column"] (eCons (cst (.int 1)) (eCons (e2 addD (e1 lenD (eCons (eOwn 0) (cst []))) (cst (.int 1))) (cst [])))) (sNil)) (sRetV 3))))
noncomputable def m_read_line : List D → R SD := runD 2 7 c_read_line
/-! ### the words of a line -/
def cols : Int → List (List Nat) → List (Int × List Nat)
  | _, [] => []
  | s, w :: ws => (s, w) :: cols (s + w.length + 1) ws
abbrev cD (p : Int × List Nat) : D := .tuple [.int p.1, .str (mk p.2)]
theorem words_loop (x : D) : ∀ (ws : List (List Nat)) (s : Int) (f : List (Int × List Nat)) (y3 : SD), f.length + ws.length ≤ 100000 → (∀ w ∈ ws, w.length ≤ 100000) →
    ∃ y2 y3', forO (gTo (gSet 3) b_words_of_1) (ws.map fun w => .str (mk w)) [.sh x, .ow (f.map cD), .sh (.int s), y3] = .nx [.sh x, .ow ((f ++ cols s ws).map cD), y2, y3']
  | [], s, f, y3, _, _ => ⟨.sh (.int s), y3, by simp [forO, cols]⟩
  | w :: ws, s, f, y3, h, hw => by
    obtain ⟨y2, y3', ih⟩ := words_loop x ws (s + w.length + 1) (f ++ [(s, w)]) (.sh (.str (mk w))) (by simp at h ⊢; omega) fun v hv => hw v (by simp [hv])
    have l1 : lenD [.str (mk w)] = some (.int w.length) := if_pos (slB (hw w (by simp)))
    have l2 : f.length < sizeLine := Nat.lt_of_lt_of_le (by simp at h; omega : f.length < 100001) (by decide)
    have st : gTo (gSet 3) b_words_of_1 (.str (mk w)) [.sh x, .ow (f.map cD), .sh (.int s), y3] = .nx [.sh x, .ow ((f ++ [(s, w)]).map cD), .sh (.int (s + w.length + 1)), .sh (.str (mk w))] := by
      simp [b_words_of_1, onOw, l1, l2, iaddD, Int.add_assoc]
    refine ⟨y2, y3', ?_⟩
    rw [List.map_cons, forO, st]
    simpa [cols] using ih
def wds (l : List Nat) : List (List Nat) := spl [32] 0 [] l
theorem sp_eq : (" " : Str) = mk [32] := by decide +kernel
theorem words_ok {l : List Nat} (h : l.length ≤ 10000) : m_words_of [.str (mk l)] = .ok (.ow ((cols 1 (wds l)).map cD)) := by
  obtain ⟨c1, c2⟩ := spl_len 32 l []
  obtain ⟨y2, y3, hl⟩ := words_loop (.str (mk l)) (wds l) 1 [] .no (by unfold wds; simp; omega) fun w hw => by have := c2 w hw; simp at this; omega
  have sd := split_mk 32 " " sp_eq (by decide) l (by omega)
  simp only [List.map_nil, List.nil_append] at hl
  unfold wds at hl ⊢
  simp [m_words_of, c_words_of, sd, hl]
theorem cols_len : ∀ (s : Int) (ws : List (List Nat)), (cols s ws).length = ws.length
  | _, [] => rfl
  | s, w :: ws => by simp [cols, cols_len]
theorem cols_mem : ∀ (s : Int) (ws : List (List Nat)), ∀ p ∈ cols s ws, p.2 ∈ ws
  | _, [], p, h => by simp [cols] at h
  | s, w :: ws, p, h => by
    rcases List.mem_cons.mp h with rfl | h
    · simp
    · exact List.mem_cons_of_mem _ (cols_mem _ ws p h)
/-! ### kinds and values -/
inductive Kd where
  | poly | many | rows (b : Bool) | formula | sign | rsign
deriving DecidableEq
def kS : Kd → Str
  | .poly => "polynomial" | .many => "many" | .rows false => "rows 1" | .rows true => "rows 2" | .formula => "formula" | .sign => "sign" | .rsign => "row sign"
inductive Vl where
  | po (cs : List Int) | nu (n : Nat) | tx (w : List Nat)
deriving DecidableEq
def vD : Vl → D
  | .po cs => .list (cs.map .int)
  | .nu n => .int n
  | .tx w => .str (mk w)
def oV : Option Vl → D
  | some v => vD v
  | none => .none
def cnt (l : List Nat) (m : Int) : Option Nat := match RW l with
  | some z => if 1 ≤ z ∧ z ≤ m then some z.toNat else none
  | none => none
abbrev wSign : List Nat := [115, 105, 103, 110]
abbrev wSome : List Nat := [115, 111, 109, 101]
abbrev wNot : List Nat := [110, 111, 116]
abbrev wAnd : List Nat := [97, 110, 100]
abbrev wOr : List Nat := [111, 114]
def WF5 : List (List Nat) := [wSign, wSome, wNot, wAnd, wOr]
def SG6 : List (List Nat) := [[60], [62, 61], [60, 61], [62], [61], [33, 61]]
def SG3 : List (List Nat) := [[60], [60, 61], [61]]
def vo : Kd → List Nat → Option Vl
  | .poly, l => (RP l).map .po
  | .many, l => (cnt l 2).map .nu
  | .rows _, l => (cnt l 5).map .nu
  | .formula, l => if l ∈ WF5 then some (.tx l) else none
  | .sign, l => if l ∈ SG6 then some (.tx l) else none
  | .rsign, l => if l ∈ SG3 then some (.tx l) else none
def rowK : Bool → List Kd
  | false => [.poly, .poly, .rsign]
  | true => [.poly, .poly, .poly, .rsign]
def bh : Kd → Vl → List Kd
  | .formula, .tx l => if l = wSign then [.poly, .sign] else if l = wSome then [.many] else if l = wNot then [.formula] else [.formula, .formula]
  | .many, .nu n => [.rows (decide (n = 2))]
  | .rows b, .nu n => (List.replicate n (rowK b)).flatten
  | _, _ => []
theorem w5_eq : (["sign", "some", "not", "and", "or"] : List Str) = WF5.map mk := by decide +kernel
theorem s6_eq : (["<", ">=", "<=", ">", "=", "!="] : List Str) = SG6.map mk := by decide +kernel
theorem s3_eq : (["<", "<=", "="] : List Str) = SG3.map mk := by decide +kernel
theorem mem_mk {l : List Nat} {L : List (List Nat)} : mk l ∈ L.map mk ↔ l ∈ L := by
  rw [List.mem_map]
  exact ⟨fun ⟨a, h, e⟩ => by rw [← mk_inj e]; exact h, fun h => ⟨l, h, rfl⟩⟩
theorem memD_strs {z : Str} {L : List Str} : memD (.str z) (.list (L.map .str)) = some (.bool (decide (z ∈ L))) := by
  show (inD (.str z) (.list (L.map .str))).map PyData.bool = _
  have hf : ((L.map PyData.str).all (flatD : D → Bool)) = true := by
    rw [List.all_eq_true]
    intro d hd
    obtain ⟨x, _, rfl⟩ := List.mem_map.mp hd
    rfl
  have ha : ((L.map (PyData.str : Str → D)).any fun y => PyData.eqv y (.str z)) = decide (z ∈ L) := by
    rw [List.any_map, Bool.eq_iff_iff, List.any_eq_true, decide_eq_true_eq]
    constructor
    · rintro ⟨x, hx, h⟩
      have : x = z := by simpa [PyData.eqv] using h
      rw [← this]; exact hx
    · intro h
      exact ⟨z, h, by simp [PyData.eqv]⟩
  unfold inD
  simp only [ha, hf]
  split
  · rfl
  · rw [if_pos (by rfl)]; rfl
theorem count_in_ok {l : List Nat} (hl : l.length ≤ 10000) (m : Int) : m_count_in [.str (mk l), .int m] = .ok (.sh (oV ((cnt l m).map .nu))) := by
  have h := read_whole_ok (l := l) (by omega)
  have n0 : isnotD .none .none = some (.bool false) := rfl
  have n1 : ∀ z : Int, isnotD (.int z) .none = some (.bool true) := fun z => rfl
  unfold cnt
  cases q : RW l with
  | none =>
    rw [q] at h
    simp [m_count_in, c_count_in, h, n0, n1, oI, oV]
  | some z =>
    rw [q] at h
    by_cases hz : 1 ≤ z ∧ z ≤ m
    · have : ((z.toNat : Nat) : Int) = z := by omega
      simp [m_count_in, c_count_in, h, n0, n1, oI, oV, hz, vD, this]
    · by_cases h1 : 1 ≤ z
      · have h2 : ¬ z ≤ m := fun h2 => hz ⟨h1, h2⟩
        simp [m_count_in, c_count_in, h, n0, n1, oI, oV, h1, h2]
      · simp [m_count_in, c_count_in, h, n0, n1, oI, oV, h1]
theorem vo_oP (o : Option (List Int)) : oV (o.map .po) = oP o := by cases o <;> rfl
theorem kS_eq : ("polynomial" : Str) = kS .poly ∧ ("many" : Str) = kS .many ∧ ("rows 1" : Str) = kS (.rows false) ∧ ("rows 2" : Str) = kS (.rows true) ∧ ("formula" : Str) = kS .formula ∧ ("sign" : Str) = kS .sign ∧ ("row sign" : Str) = kS .rsign := ⟨rfl, rfl, rfl, rfl, rfl, rfl, rfl⟩
theorem kS_inj (a b : Kd) : (kS a = kS b) = (a = b) := by
  have : ∀ a ∈ ([.poly, .many, .rows false, .rows true, .formula, .sign, .rsign] : List Kd), ∀ b ∈ ([.poly, .many, .rows false, .rows true, .formula, .sign, .rsign] : List Kd), decide (kS a = kS b) = decide (a = b) := by decide +kernel
  have m : ∀ a : Kd, a ∈ ([.poly, .many, .rows false, .rows true, .formula, .sign, .rsign] : List Kd) := fun a => by
    match a with
    | .poly => simp
    | .many => simp
    | .rows false => simp
    | .rows true => simp
    | .formula => simp
    | .sign => simp
    | .rsign => simp
  exact propext (decide_eq_decide.mp (this a (m a) b (m b)))
theorem value_of_ok (k : Kd) {l : List Nat} (hl : l.length ≤ 10000) : m_value_of [.str (kS k), .str (mk l)] = .ok (.sh (oV (vo k l))) := by
  obtain ⟨e1, e2, e3, e4, e5, e6, e7⟩ := kS_eq
  have rp := read_polynomial_ok hl
  have c2 := count_in_ok hl 2
  have c5 := count_in_ok hl 5
  have m5 : decide (mk l ∈ (["sign", "some", "not", "and", "or"] : List Str)) = decide (l ∈ WF5) := by rw [w5_eq]; exact decide_eq_decide.mpr mem_mk
  have m6 : memD (.str (mk l)) (.list [.str "<", .str ">=", .str "<=", .str ">", .str "=", .str "!="]) = some (.bool (decide (l ∈ SG6))) := by
    have := memD_strs (z := mk l) (L := ["<", ">=", "<=", ">", "=", "!="])
    rw [show decide (mk l ∈ (["<", ">=", "<=", ">", "=", "!="] : List Str)) = decide (l ∈ SG6) from by rw [s6_eq]; exact decide_eq_decide.mpr mem_mk] at this
    exact this
  have m3 : memD (.str (mk l)) (.list [.str "<", .str "<=", .str "="]) = some (.bool (decide (l ∈ SG3))) := by
    have := memD_strs (z := mk l) (L := ["<", "<=", "="])
    rw [show decide (mk l ∈ (["<", "<=", "="] : List Str)) = decide (l ∈ SG3) from by rw [s3_eq]; exact decide_eq_decide.mpr mem_mk] at this
    exact this
  unfold m_value_of c_value_of
  match k with
  | .poly =>
    show _ = R.ok (SD.sh (oV ((RP l).map .po)))
    rw [vo_oP]
    simp only [e1, e2, e3, e4, e5, e6, e7]
    simp [rp, toD_rpS, eCall, kS_inj]
  | .many =>
    simp only [e1, e2, e3, e4, e5, e6, e7]
    simp [c2, eCall, kS_inj, vo, toD]
  | .rows false =>
    simp only [e1, e2, e3, e4, e5, e6, e7]
    simp [c5, eCall, kS_inj, vo, toD]
  | .rows true =>
    simp only [e1, e2, e3, e4, e5, e6, e7]
    simp [c5, eCall, kS_inj, vo, toD]
  | .formula =>
    simp only [e1, e2, e3, e4, e5]
    by_cases h : l ∈ WF5
    · rw [decide_eq_true h] at m5
      have m5' := of_decide_eq_true m5
      simp only [List.mem_cons, List.not_mem_nil, or_false] at m5'
      simp [kS_inj, vo, m5', h, oV, vD]
    · rw [decide_eq_false h] at m5
      have m5' := of_decide_eq_false m5
      simp only [List.mem_cons, List.not_mem_nil, or_false] at m5'
      simp [kS_inj, vo, m5', h, oV, vD]
  | .sign =>
    simp only [e1, e2, e3, e4, e5, e6, e7]
    have q : ksO ["<", ">=", "<=", ">", "=", "!="] [.sh (.str (kS .sign)), .sh (.str (mk l)), .no] = .ok [.str "<", .str ">=", .str "<=", .str ">", .str "=", .str "!="] := rfl
    by_cases h : l ∈ SG6
    · rw [decide_eq_true h] at m6
      simp [kS_inj, vo, q, eLst, m6, h, oV, vD]
    · rw [decide_eq_false h] at m6
      simp [kS_inj, vo, q, eLst, m6, h, oV, vD]
  | .rsign =>
    simp only [e1, e2, e3, e4, e5, e6, e7]
    have q : listO [.tuple [.str "<", .str "<=", .str "="]] = some [.str "<", .str "<=", .str "="] := rfl
    by_cases h : l ∈ SG3
    · rw [decide_eq_true h] at m3
      simp [kS_inj, vo, q, eLst, m3, h, oV, vD]
    · rw [decide_eq_false h] at m3
      simp [kS_inj, vo, q, eLst, m3, h, oV, vD]
/-! ### what stands behind -/
abbrev kD (k : Kd) : D := .str (kS k)
theorem rp_rows (b : Bool) {n : Nat} (hn : n ≤ 1000) : repD ((rowK b).map kD) (n : Int) = some (((List.replicate n (rowK b)).flatten).map kD) := by
  unfold repD
  have l4 : ((rowK b).map kD).length ≤ 4 := by cases b <;> simp [rowK]
  have : ((rowK b).map kD).length * (n : Int).toNat ≤ sizeLine := slB (by rw [Int.toNat_natCast]; exact Nat.le_trans (Nat.mul_le_mul l4 hn) (by decide))
  rw [if_pos ⟨by omega, by omega, this⟩, Int.toNat_natCast, List.map_flatten, List.map_replicate]
theorem cnt_rng {l : List Nat} {m : Int} {n : Nat} (h : cnt l m = some n) : 1 ≤ n ∧ (n : Int) ≤ m := by
  unfold cnt at h
  split at h
  · split at h
    · injection h with h; omega
    · cases h
  · cases h
theorem behind_ok {k : Kd} {l : List Nat} {v : Vl} (h : vo k l = some v) : m_behind [kD k, vD v] = .ok (.ow ((bh k v).map kD)) := by
  obtain ⟨e1, e2, e3, e4, e5, e6, e7⟩ := kS_eq
  unfold m_behind c_behind
  match k with
  | .poly =>
    simp only [e1, e2, e3, e4, e5]
    simp [kS_inj, bh]
  | .sign =>
    simp only [e1, e2, e3, e4, e5]
    simp [kS_inj, bh]
  | .rsign =>
    simp only [e1, e2, e3, e4, e5]
    simp [kS_inj, bh]
  | .formula =>
    simp only [vo] at h
    split at h
    · rename_i hm
      injection h with h
      subst h
      have hs : listO [(selD ["sign", "some", "not", "and", "or"] [.tuple [.str "polynomial", .str "sign"], .tuple [.str "many"], .tuple [.str "formula"], .tuple [.str "formula", .str "formula"], .tuple [.str "formula", .str "formula"]] (.str (mk l))).getD .none] = some ((bh .formula (.tx l)).map kD) ∧ (selD ["sign", "some", "not", "and", "or"] [.tuple [.str "polynomial", .str "sign"], .tuple [.str "many"], .tuple [.str "formula"], .tuple [.str "formula", .str "formula"], .tuple [.str "formula", .str "formula"]] (.str (mk l))).isSome = true := by
        simp only [WF5, List.mem_cons, List.not_mem_nil, or_false] at hm
        rcases hm with rfl | rfl | rfl | rfl | rfl <;> exact ⟨rfl, rfl⟩
      obtain ⟨h1, h2⟩ := hs
      obtain ⟨d, hd⟩ := Option.isSome_iff_exists.mp h2
      rw [hd] at h1
      simp only [Option.getD_some] at h1
      rw [show kD .formula = .str "formula" from rfl]
      simp [vD, hd, h1, sRetO]
    · cases h
  | .many =>
    obtain ⟨n, h1, rfl⟩ := Option.map_eq_some_iff.mp h
    obtain ⟨n1, n2⟩ := cnt_rng h1
    have : n = 1 ∨ n = 2 := by omega
    have f1 : fmtC "rows " (.int (1 : Int)) = some (.str (kS (.rows false))) := rfl
    have f2 : fmtC "rows " (.int (2 : Int)) = some (.str (kS (.rows true))) := rfl
    simp only [e1, e2, e3, e4, e5]
    rcases this with rfl | rfl
    · simp [kS_inj, bh, vD, f1]
    · simp [kS_inj, bh, vD, f2]
  | .rows false =>
    obtain ⟨n, h1, rfl⟩ := Option.map_eq_some_iff.mp h
    obtain ⟨n1, n2⟩ := cnt_rng h1
    have rr := rp_rows false (n := n) (by omega)
    have r2 : repD [.str (kS .poly)] 2 = some [.str (kS .poly), .str (kS .poly)] := rfl
    simp only [e1, e2, e3, e4, e5, e7]
    have r3 : repD [.str (kS .poly), .str (kS .poly), .str (kS .rsign)] (n : Int) = some (((List.replicate n (rowK false)).flatten).map kD) := rr
    have r4 : catD [.str (kS .poly), .str (kS .poly)] [.str (kS .rsign)] = some [.str (kS .poly), .str (kS .poly), .str (kS .rsign)] := r_cat (slB (by simp))
    simp [kS_inj, bh, vD, r2, r3, r4]
  | .rows true =>
    obtain ⟨n, h1, rfl⟩ := Option.map_eq_some_iff.mp h
    obtain ⟨n1, n2⟩ := cnt_rng h1
    have rr := rp_rows true (n := n) (by omega)
    have r2 : repD [.str (kS .poly)] 3 = some [.str (kS .poly), .str (kS .poly), .str (kS .poly)] := rfl
    simp only [e1, e2, e3, e4, e5, e7]
    have r3 : repD [.str (kS .poly), .str (kS .poly), .str (kS .poly), .str (kS .rsign)] (n : Int) = some (((List.replicate n (rowK true)).flatten).map kD) := rr
    have r4 : catD [.str (kS .poly), .str (kS .poly), .str (kS .poly)] [.str (kS .rsign)] = some [.str (kS .poly), .str (kS .poly), .str (kS .poly), .str (kS .rsign)] := r_cat (slB (by simp))
    simp [kS_inj, bh, vD, r2, r3, r4]
theorem bh_len {k : Kd} {l : List Nat} {v : Vl} (h : vo k l = some v) : (bh k v).length ≤ 20 := by
  match k with
  | .poly => simp [bh]
  | .sign => simp [bh]
  | .rsign => simp [bh]
  | .formula =>
    simp only [vo] at h
    split at h
    · injection h with h
      subst h
      simp only [bh]
      split
      · simp
      · split
        · simp
        · split <;> simp
    · cases h
  | .many =>
    obtain ⟨n, h1, rfl⟩ := Option.map_eq_some_iff.mp h
    simp [bh]
  | .rows b =>
    obtain ⟨n, h1, rfl⟩ := Option.map_eq_some_iff.mp h
    obtain ⟨n1, n2⟩ := cnt_rng h1
    have : (rowK b).length ≤ 4 := by cases b <;> simp [rowK]
    simp only [bh, List.length_flatten, List.map_replicate, List.sum_replicate_nat]
    exact Nat.le_trans (Nat.mul_le_mul (by omega : n ≤ 5) this) (by decide)
/-! ### read_line -/
inductive RL where
  | bad (c : Int)
  | ok (due : List Kd) (f : List (Kd × Vl))
deriving DecidableEq
def rl : List (Int × List Nat) → List Kd → List (Kd × Vl) → RL
  | [], due, f => .ok due f
  | (c, _) :: _, [], _ => .bad c
  | (c, w) :: ws, k :: due, f => match vo k w with
    | none => .bad c
    | some v => rl ws (bh k v ++ due) (f ++ [(k, v)])
abbrev fD (p : Kd × Vl) : D := .tuple [kD p.1, vD p.2]
def badX (l c : Int) : Xn := ⟨"BadText", [("column", .int c), ("line", .int l)]⟩
theorem isD_vD (v : Vl) : isD (vD v) .none = some (.bool false) := by cases v <;> rfl
theorem sl_1 (l : List D) (x : D) : sliceD (.list (x :: l)) (some 1) none = some (.list l) := by
  have h := cut_tail (id : D → D) (x :: l) (by simp)
  rw [List.map_id, List.map_id] at h
  rw [r_slice, h]; rfl
theorem okK (n : Nat) (k : Kd) : okD n (kD k) = true := by
  have ok : okD n (.str (kS k)) = PyData.strOk (kS k) := by cases n <;> rfl
  show okD n (.str (kS k)) = true
  rw [ok]
  match k with
  | .poly => decide +kernel
  | .many => decide +kernel
  | .rows false => decide +kernel
  | .rows true => decide +kernel
  | .formula => decide +kernel
  | .sign => decide +kernel
  | .rsign => decide +kernel
theorem ne_due (l : List Kd) : neD (.list (l.map kD)) (.list []) = some (.bool (decide (l ≠ []))) := by
  have h : okD 64 (.list (l.map kD)) = true := okL_iff.mpr fun d hd => by
    obtain ⟨k, _, rfl⟩ := List.mem_map.mp hd
    exact okK _ k
  rw [r_neD h rfl]
  cases l <;> rfl
theorem read_step (x e : SD) {k : Kd} {due : List Kd} {f : List (Kd × Vl)} {c : Int} {w : List Nat} (hw : w.length ≤ 10000) (hd : due.length ≤ 900000) (hf : f.length ≤ 100000) (y4 y5 y6 : SD) :
    gTo (gTupD 2 (gsCons (gSet 4) (gsCons (gSet 5) (gsNil)))) b_read_line_1 (cD (c, w)) [x, e, .sh (.list ((k :: due).map kD)), .ow (f.map fD), y4, y5, y6] =
      match vo k w with
      | none => .ex (badX 1 c) [x, e, .sh (.list ((k :: due).map kD)), .ow (f.map fD), .sh (.int c), .sh (.str (mk w)), .sh .none]
      | some v => .nx [x, e, .sh (.list ((bh k v ++ due).map kD)), .ow ((f ++ [(k, v)]).map fD), .sh (.int c), .sh (.str (mk w)), .sh (vD v)] := by
  have v1 := value_of_ok k hw
  have ne : neD (.list (kD k :: due.map kD)) (.list []) = some (.bool true) := ne_due (k :: due)
  have i0 : ixD (.list (kD k :: due.map kD)) (.int 0) = some (kD k) := by simp
  have fl : f.length < sizeLine := Nat.lt_of_lt_of_le (by omega : f.length < 100001) (by decide)
  cases h : vo k w with
  | none =>
    rw [h] at v1
    simp [b_read_line_1, ne, i0, eCall, v1, toD, oV, isD, isNonD, r_raiseF, zipR, badX]
  | some v =>
    rw [h] at v1
    have b1 := behind_ok h
    have s1 := sl_1 (due.map kD) (kD k)
    have iv := isD_vD v
    have bl := bh_len h
    have ct : catD ((bh k v).map kD) (due.map kD) = some ((bh k v ++ due).map kD) := by
      rw [r_cat (Nat.le_trans (by simp; omega : _ ≤ 1000000) (by decide)), List.map_append]
    simp [b_read_line_1, ne, i0, eCall, v1, toD, oV, iv, b1, s1, onOw, fl, ct, -r_ix_l]
theorem read_loop (x e : SD) : ∀ (ws : List (Int × List Nat)) (due : List Kd) (f : List (Kd × Vl)) (y4 y5 y6 : SD), (∀ p ∈ ws, p.2.length ≤ 10000) → due.length + 20 * ws.length ≤ 900000 → f.length + ws.length ≤ 100000 →
    ∃ y4' y5' y6' ρ, forO (gTo (gTupD 2 (gsCons (gSet 4) (gsCons (gSet 5) (gsNil)))) b_read_line_1) (ws.map cD) [x, e, .sh (.list (due.map kD)), .ow (f.map fD), y4, y5, y6] =
      match rl ws due f with
      | .bad c => .ex (badX 1 c) ρ
      | .ok due' f' => .nx [x, e, .sh (.list (due'.map kD)), .ow (f'.map fD), y4', y5', y6']
  | [], due, f, y4, y5, y6, _, _, _ => ⟨y4, y5, y6, [], rfl⟩
  | (c, w) :: ws, [], f, y4, y5, y6, hw, _, _ => by
    have ne : neD (.list []) (.list []) = some (.bool false) := ne_due []
    refine ⟨y4, y5, y6, [x, e, .sh (.list []), .ow (f.map fD), .sh (.int c), .sh (.str (mk w)), .sh .none], ?_⟩
    rw [List.map_cons, forO]
    have : gTo (gTupD 2 (gsCons (gSet 4) (gsCons (gSet 5) (gsNil)))) b_read_line_1 (cD (c, w)) [x, e, .sh (.list (([] : List Kd).map kD)), .ow (f.map fD), y4, y5, y6] = .ex (badX 1 c) [x, e, .sh (.list []), .ow (f.map fD), .sh (.int c), .sh (.str (mk w)), .sh .none] := by
      simp [b_read_line_1, ne, isD, isNonD, r_raiseF, zipR, badX]
    rw [this]
    rfl
  | (c, w) :: ws, k :: due, f, y4, y5, y6, hw, h1, h2 => by
    simp only [List.length_cons] at h1 h2
    have st := read_step x e (hw (c, w) (by simp)) (k := k) (due := due) (f := f) (c := c) (by omega) (by omega) y4 y5 y6
    rw [List.map_cons, forO, st]
    unfold rl
    cases h : vo k w with
    | none => exact ⟨y4, y5, y6, _, rfl⟩
    | some v =>
      have bl := bh_len h
      exact read_loop x e ws (bh k v ++ due) (f ++ [(k, v)]) (.sh (.int c)) (.sh (.str (mk w))) (.sh (vD v)) (fun p hp => hw p (List.mem_cons_of_mem _ hp)) (by rw [List.length_append]; omega) (by rw [List.length_append]; simp; omega)
def RLine (l : List Nat) (ended : Bool) : R SD := match rl (cols 1 (wds l)) [.formula] [] with
  | .bad c => .ex (badX 1 c)
  | .ok due f => if due ≠ [] ∨ ended = false then .ex (badX 1 (l.length + 1)) else .ok (.ow (f.map fD))
theorem read_line_ok {l : List Nat} (hl : l.length ≤ 10000) (ended : Bool) : m_read_line [.str (mk l), .bool ended] = RLine l ended := by
  have w1 := words_ok hl
  obtain ⟨c1, c2⟩ := spl_len 32 l []
  obtain ⟨y4, y5, y6, ρ, h⟩ := read_loop (.sh (.str (mk l))) (.sh (.bool ended)) (cols 1 (wds l)) [.formula] [] .no .no .no
    (fun p hp => by have := c2 p.2 (cols_mem _ _ p hp); simp at this; omega) (by rw [cols_len]; unfold wds; simp; omega) (by rw [cols_len]; unfold wds; simp; omega)
  have ln : lenD [.str (mk l)] = some (.int l.length) := if_pos (slB (by rw [mk_len]; omega))
  simp only [List.map_cons, List.map_nil] at h
  have k0 : kD .formula = .str "formula" := rfl
  rw [k0] at h
  unfold RLine m_read_line c_read_line
  cases q : rl (cols 1 (wds l)) [.formula] [] with
  | bad c =>
    rw [q] at h
    simp [w1, eCall, toD, h]
  | ok due f =>
    rw [q] at h
    have ne := ne_due due
    have ne0 : neD (.list []) (.list []) = some (.bool false) := ne_due []
    cases ended with
    | false => 
      simp [w1, eCall, toD, h, ne, ln, r_raiseF, zipR, badX]
    | true =>
      by_cases hd : due = []
      · subst hd
        simp [w1, eCall, toD, h, ne0, ln, r_raiseF, zipR, badX]
      · simp [w1, eCall, toD, h, ne, ln, r_raiseF, zipR, badX, hd]
end W

set_option Elab.async false
set_option linter.all false
set_option maxRecDepth 100000
set_option autoImplicit false
namespace W
open PySem PySem.Spec PyProof.Rows L2 VL
/-! ### sizes of values, sharper -/
theorem ev_frac {t : Rat} {kt c : Nat} (ht : Rk kt t) : ∀ {a : List Int}, SzP c a → ∃ N : Int, evP a t * (((t.den : Int) ^ a.length : Int) : Rat) = (N : Rat) ∧ Sz (c + (kt + 1) * a.length + 1) N ∧ Sz (kt * a.length + 1) ((t.den : Int) ^ a.length) ∧ ((t.den : Int) ^ a.length) ≠ 0
  | [], _ => ⟨0, by simp [evP], sz0 _, by simpa using Sz.lit (i := 1) (a := 1) (by decide), by simp⟩
  | x :: a, h => by
    obtain ⟨N, e, s1, s2, hz⟩ := ev_frac ht (a := a) fun y hy => h y (by simp [hy])
    have hx := h x (by simp)
    have hd : (t.den : Int) ≠ 0 := by have := t.den_nz; omega
    have s3 : Sz (kt * (a.length + 1) + 1) ((t.den : Int) ^ (a.length + 1)) := by
      rw [Int.pow_succ]
      exact (s2.mul ht.s2).mono (by rw [Nat.mul_succ]; omega)
    refine ⟨N * t.num + x * (t.den : Int) ^ (a.length + 1), ?_, ?_, ?_, Int.pow_ne_zero hd⟩
    · have ev : evP (x :: a) t = evP a t * t + (x : Rat) := rfl
      have n2 := num_eq t
      rw [ev, List.length_cons, Int.pow_succ, Rat.intCast_add, Rat.intCast_mul, Rat.intCast_mul, Rat.intCast_mul, ← e, n2]
      grind
    · rw [List.length_cons]
      have a1 : Sz (c + (kt + 1) * (a.length + 1)) (N * t.num) := (s1.mul ht.s1).mono (by rw [Nat.mul_succ]; omega)
      have a2 : Sz (c + (kt + 1) * (a.length + 1)) (x * (t.den : Int) ^ (a.length + 1)) := (hx.mul s3).mono (by rw [Nat.mul_succ, Nat.mul_succ, Nat.succ_mul]; omega)
      exact a1.add a2
    · exact s3
theorem ev_rk {t : Rat} {kt c : Nat} {a : List Int} (ht : Rk kt t) (ha : SzP c a) : Rk (c + (kt + 1) * a.length + 1) (evP a t) := by
  obtain ⟨N, e, s1, s2, hz⟩ := ev_frac ht ha
  have hr : (((t.den : Int) ^ a.length : Int) : Rat) ≠ 0 := by exact_mod_cast hz
  have : evP a t = (N : Rat) / (((t.den : Int) ^ a.length : Int) : Rat) := by rw [← e]; grind
  rw [this]
  exact rk_div hz s1 (s2.mono (by rw [Nat.succ_mul]; omega))
/-! ### rows with numbers put in, any size -/
structure RowV (B : Nat) (t : Rat) (r : Row) : Prop where
  ps : ∀ p ∈ r.ps ++ [r.q], m_value_at [pD p, rD t] = .ok (.sh (rD (evP p t))) ∧ Rk B (evP p t)
  s : r.s = "<=" ∨ r.s = "<" ∨ r.s = "="
theorem RowZ.v {m n c kt : Nat} {t : Rat} {r : Row} (h : RowZ m n c r) (ht : Rk kt t) (h1 : 1 ≤ c) (hz : 1 + n * (kt + c + 1) + kt + c ≤ 8000) : RowV (c + (kt + 1) * n + 1) t r :=
  ⟨fun p hp => by
    obtain ⟨a, b⟩ := h.all p hp
    have lm : p.length * (kt + c + 1) ≤ n * (kt + c + 1) := Nat.mul_le_mul_right _ b
    have lm2 : (kt + 1) * p.length ≤ (kt + 1) * n := Nat.mul_le_mul_left _ b
    exact ⟨(value_at_ok a ht h1 (by omega)).1, (ev_rk ht a).mono (by omega)⟩, h.s⟩
structure RowL (m B : Nat) (t : Rat) (r : Row) : Prop where
  len : r.ps.length = m
  ps : ∀ p ∈ r.ps ++ [r.q], m__law_value [pD p, rD t] = .ok (.sh (rD (evP p t))) ∧ Rk B (evP p t)
  s : r.s = "<=" ∨ r.s = "<" ∨ r.s = "="
theorem RowZ.l {m n c kt : Nat} {t : Rat} {r : Row} (h : RowZ m n c r) (ht : Rk kt t) (h1 : 1 ≤ c) (hn : n ≤ 1000) (hz : 1 + n * (kt + c + 1) + kt + c ≤ 1900) : RowL m (c + (kt + 1) * n + 1) t r :=
  ⟨h.len, fun p hp => by
    obtain ⟨a, b⟩ := h.all p hp
    have lm : p.length * (kt + c + 1) ≤ n * (kt + c + 1) := Nat.mul_le_mul_right _ b
    have lm2 : (kt + 1) * p.length ≤ (kt + 1) * n := Nat.mul_le_mul_left _ b
    exact ⟨lvalue_ok a ht h1 (by omega) (by omega), (ev_rk ht a).mono (by omega)⟩, h.s⟩
end W

set_option Elab.async false
set_option linter.all false
set_option maxRecDepth 100000
set_option autoImplicit false
namespace W
open PySem PySem.Spec PyProof.Rows L2 VL
/-! ### plain polynomials: bounds of roots, polynomials by their values -/
end W

set_option Elab.async false
set_option linter.all false
set_option maxRecDepth 100000
set_option autoImplicit false
namespace W
open PySem PySem.Spec PyProof.Rows L2 VL
noncomputable def c__law_is_whole : Ev → Out := sRet (eAndV (e1 (isiD "int") (eOwn 0)) (e1 notD (e1 (isiD "bool") (eOwn 0))))
noncomputable def m__law_is_whole : List D → R SD := runD 1 1 c__law_is_whole
/-! ### known factors -/
/-! bounds -/
theorem maxI_ge : ∀ (r : List Int) (m : Int), m ≤ maxI m r ∧ (∀ x ∈ r, x ≤ maxI m r) ∧ (maxI m r = m ∨ maxI m r ∈ r)
  | [], m => ⟨Int.le_refl _, by simp, .inl rfl⟩
  | x :: r, m => by
    unfold maxI
    split
    · rename_i h
      obtain ⟨h1, h2, h3⟩ := maxI_ge r x
      exact ⟨by omega, fun y hy => by
        rcases List.mem_cons.mp hy with rfl | hy
        · exact h1
        · exact h2 y hy, by
        rcases h3 with h3 | h3
        · right; rw [h3]; simp
        · right; simp [h3]⟩
    · rename_i h
      obtain ⟨h1, h2, h3⟩ := maxI_ge r m
      exact ⟨h1, fun y hy => by
        rcases List.mem_cons.mp hy with rfl | hy
        · omega
        · exact h2 y hy, by
        rcases h3 with h3 | h3
        · left; exact h3
        · right; simp [h3]⟩
end W

set_option Elab.async false
set_option linter.all false
set_option maxRecDepth 100000
set_option autoImplicit false
set_option maxHeartbeats 4000000
namespace W
open PySem PySem.Spec PyProof.Rows L2 VL
noncomputable def b_check_polynomial_1 : Ev → Out := sIf (eOr (eNot (e1 truD (eCall m__law_is_whole (eCons (eVar 3) (cst []))))) (eNot (e1 bOf (eChain ltD ltD (e1 negD (eOwn 2)) (eOwn 3) (eOwn 2))))) (sRaise "BadNumber") (sNil)
noncomputable def c_check_polynomial : Ev → Out := sSeq (sIf (e1 bOf (e2 gtD (e1 lenD (eCons (eOwn 0) (cst []))) (e2 addD (eOwn 1) (cst (.int 1))))) (sRaise "BadSize") (sNil)) (sSeq (sFor (e1 seqD (eVar 0)) (gSet 3) b_check_polynomial_1) (sIf (eAnd (e1 truD (eOwn 0)) (e1 bOf (e2 eqD (e2 ixD (eOwn 0) (e1 negD (cst (.int 1)))) (cst (.int 0))))) (sRaise "BadNumber") (sNil)))
noncomputable def m_check_polynomial : List D → R SD := runD 3 4 c_check_polynomial
/-- a number that lies within the bound -/
def okV (b : Int) : D → Bool
  | .int z => decide (-b < z) && decide (z < b)
  | _ => false
def IsVal (d : D) : Prop := (∃ z, d = .int z ∧ Sz 10 z) ∨ d = .bool true ∨ d = .bool false ∨ d = .none ∨ d = .str "1" ∨ d = .tuple [.int 1, .int 1]
def lastZ (l : List D) : Bool := match l.getLast? with
  | some (.int z) => decide (z = 0)
  | _ => false
def dueS (l : List D) (most b : Int) : Str := if most + 1 < l.length then "size" else if l.all (okV b) = true then (if lastZ l = true then "number" else "good") else "number"
theorem IsVal.okD {d : D} (h : IsVal d) : okD 63 d = true := by
  rcases h with ⟨z, rfl, _⟩ | rfl | rfl | rfl | rfl | rfl <;> simp [VL.okD] <;> decide +kernel
theorem IsVal.sw {d : D} (h : IsVal d) : Sw 20 d := by
  rcases h with ⟨z, rfl, hz⟩ | rfl | rfl | rfl | rfl | rfl
  · exact (sw_int hz (by decide) (by decide)).mono (by decide)
  all_goals exact ⟨rfl, by decide +kernel⟩
theorem IsVal.int {z : Int} (h : -1000 < z) (h' : z < 1000) : IsVal (.int z) := .inl ⟨z, rfl, .of 1000 (by omega) (by omega) (by decide +kernel)⟩
theorem dr_ix {c : Nat} {xs : List Int} (h : IsDraws c xs) {z : Int} (i : Nat) (hz : z = i) (hi : i < c) : ixD (pD xs) (.int z) = some (.int (gI xs i)) := by
  subst hz
  exact p_ixc (l := xs) (by rw [h.len]; exact hi)
/-! ### the first that is not good -/
/-- the class that is raised for a word -/
def exn2 (s : Str) : Str := if s = "size" then "BadSize" else "BadNumber"
end W

set_option Elab.async false
set_option linter.all false
set_option maxRecDepth 100000
set_option autoImplicit false
namespace W
open PySem PySem.Spec PyProof.Rows L2 VL
/-! ### numbers that do -/
@[simp] theorem r_eThaw (i : Nat) (f : Ev → R D) (ρ : Ev) : eThaw i f ρ = (match ρ[i]? with | some (.ow l) => thawR (f (ρ.set i (.sh (.list l)))) | _ => f ρ) := id rfl
@[simp] theorem r_thaw_r (r : Rat) : thawR (.ok (rD r)) = .ok (rD r) := id rfl
@[simp] theorem is_none_n : isD .none .none = some (.bool true) := id rfl
@[simp] theorem is_none_r (r : Rat) : isD (rD r) .none = some (.bool false) := id rfl
@[simp] theorem isnot_none_n : isnotD .none .none = some (.bool false) := id rfl
@[simp] theorem isnot_none_r (r : Rat) : isnotD (rD r) .none = some (.bool true) := id rfl
@[simp] theorem is_none_l (l : List D) : isD (.list l) .none = some (.bool false) := id rfl
@[simp] theorem isnot_none_l (l : List D) : isnotD (.list l) .none = some (.bool true) := id rfl
/-! a number for the last coefficient -/
end W

set_option Elab.async false
set_option linter.all false
set_option maxRecDepth 100000
set_option autoImplicit false
namespace W
open PySem PySem.Spec PyProof.Rows L2 VL
noncomputable def c__law_take : Ev → Out := sSeq (sIf (e1 bOf (e2 eqD (e1 lenD (eCons (eOwn 0) (cst []))) (cst (.int 0)))) (yRetB (xl (cst (.int 0)))) (sNil)) (yRetB (xPop 0))
noncomputable def m__law_take : List D → List D → RB := runB 1 1 0 c__law_take
@[simp] theorem k_sign_some : ((Str.ofString "sign") = Str.ofString "some") = False := by decide +kernel
@[simp] theorem k_sign_not : ((Str.ofString "sign") = Str.ofString "not") = False := by decide +kernel
@[simp] theorem k_sign_and : ((Str.ofString "sign") = Str.ofString "and") = False := by decide +kernel
@[simp] theorem k_sign_or : ((Str.ofString "sign") = Str.ofString "or") = False := by decide +kernel
@[simp] theorem k_some_sign : ((Str.ofString "some") = Str.ofString "sign") = False := by decide +kernel
@[simp] theorem k_some_not : ((Str.ofString "some") = Str.ofString "not") = False := by decide +kernel
@[simp] theorem k_some_and : ((Str.ofString "some") = Str.ofString "and") = False := by decide +kernel
@[simp] theorem k_some_or : ((Str.ofString "some") = Str.ofString "or") = False := by decide +kernel
@[simp] theorem k_not_sign : ((Str.ofString "not") = Str.ofString "sign") = False := by decide +kernel
@[simp] theorem k_not_some : ((Str.ofString "not") = Str.ofString "some") = False := by decide +kernel
@[simp] theorem k_not_and : ((Str.ofString "not") = Str.ofString "and") = False := by decide +kernel
@[simp] theorem k_not_or : ((Str.ofString "not") = Str.ofString "or") = False := by decide +kernel
@[simp] theorem k_and_sign : ((Str.ofString "and") = Str.ofString "sign") = False := by decide +kernel
@[simp] theorem k_and_some : ((Str.ofString "and") = Str.ofString "some") = False := by decide +kernel
@[simp] theorem k_and_not : ((Str.ofString "and") = Str.ofString "not") = False := by decide +kernel
@[simp] theorem k_and_or : ((Str.ofString "and") = Str.ofString "or") = False := by decide +kernel
@[simp] theorem k_or_sign : ((Str.ofString "or") = Str.ofString "sign") = False := by decide +kernel
@[simp] theorem k_or_some : ((Str.ofString "or") = Str.ofString "some") = False := by decide +kernel
@[simp] theorem k_or_not : ((Str.ofString "or") = Str.ofString "not") = False := by decide +kernel
@[simp] theorem k_or_and : ((Str.ofString "or") = Str.ofString "and") = False := by decide +kernel
/-! ### formulas, by their atoms -/
inductive Fa where
  | lf (d : D)
  | no (f : Fa)
  | an (f g : Fa)
  | or (f g : Fa)
def Fa.dp : Fa → Nat
  | .lf _ => 0
  | .no f => f.dp + 1
  | .an f g => max f.dp g.dp + 1
  | .or f g => max f.dp g.dp + 1
def Fa.na : Fa → Nat
  | .lf _ => 1
  | .no f => f.na
  | .an f g => f.na + g.na
  | .or f g => f.na + g.na
structure AtOk (d : D) : Prop where
  key : ∃ k l, d = .tuple (.str k :: l) ∧ (k = "sign" ∨ k = "some")
  ok : okD 20 d = true
  sw : Sw 8000 d
def FaOk : Fa → Prop
  | .lf d => AtOk d
  | .no f => FaOk f
  | .an f g => FaOk f ∧ FaOk g
  | .or f g => FaOk f ∧ FaOk g
/-! ### drawn formulas -/
def PD (L : List D) : Prop := ∃ l : List Int, L = l.map .int ∧ ∀ c ∈ l, 0 ≤ c ∧ c < 1000
theorem take_ok {L : List D} (h : PD L) : ∃ L' v, m__law_take L [.none] = .ok (.sh (.int v)) L' ∧ PD L' ∧ 0 ≤ v ∧ v < 1000 := by
  obtain ⟨l, rfl, hl⟩ := h
  by_cases hn : l = []
  · subst hn
    exact ⟨[], 0, by simp [m__law_take, c__law_take], ⟨[], rfl, by simp⟩, by decide, by decide⟩
  · obtain ⟨q, a, rfl⟩ : ∃ q a, l = q ++ [a] := ⟨l.dropLast, l.getLast hn, (List.dropLast_concat_getLast hn).symm⟩
    refine ⟨q.map .int, a, ?_, ⟨q, rfl, fun c hc => hl c (by simp [hc])⟩, hl a (by simp)⟩
    have w1 : ((q ++ [a]).map PyData.int).getLast? = some (.int a) := by rw [List.map_append]; simp
    have w2 : ((q ++ [a]).map PyData.int).dropLast = q.map .int := by rw [List.map_append]; simp
    have w3 : ¬ ((q ++ [a]).map PyData.int = []) := by simp
    generalize (q ++ [a]).map PyData.int = L at *
    simp [m__law_take, c__law_take, w1, w2, w3]
structure P35 (n : Nat) (p : List Int) : Prop where
  sz : ∀ c ∈ p, -100 < c ∧ c < 100
  len : p.length ≤ n
theorem P35.szp {n : Nat} {p : List Int} (h : P35 n p) : SzP 8 p := fun c hc => .of 200 (by have := (h.sz c hc).1; omega) (by have := (h.sz c hc).2; omega) (by decide)
theorem tr_snoc (q : List Int) {a : Int} (h : a ≠ 0) : Tr (q ++ [a]) := fun m hm => by
  have : m = q.length := by simpa using hm.symm
  subst this
  simpa [cf] using h
theorem sw_pol {n : Nat} {p : List Int} (h : P35 n p) (hn : n ≤ 6) : Sw 69 (pD p) := (sw_p h.szp (by decide) (by decide)).mono (by have := h.len; omega)
theorem sg6_sw {x : Str} (h : x = "<" ∨ x = "<=" ∨ x = "=" ∨ x = "!=" ∨ x = ">=" ∨ x = ">") : Sw 10 (.str x) ∧ ∀ n, okD n (.str x) = true := by
  have ok : ∀ n (x : Str), okD n (.str x) = PyData.strOk x := fun n x => by cases n <;> rfl
  constructor
  · rcases h with rfl | rfl | rfl | rfl | rfl | rfl <;> exact ⟨rfl, by decide +kernel⟩
  · intro n; rw [ok]; rcases h with rfl | rfl | rfl | rfl | rfl | rfl <;> decide +kernel
theorem kw_sw {x : Str} (h : x = "sign" ∨ x = "some" ∨ x = "not" ∨ x = "and" ∨ x = "or") : Sw 10 (.str x) ∧ ∀ n, okD n (.str x) = true := by
  have ok : ∀ n (x : Str), okD n (.str x) = PyData.strOk x := fun n x => by cases n <;> rfl
  constructor
  · rcases h with rfl | rfl | rfl | rfl | rfl <;> exact ⟨rfl, by decide +kernel⟩
  · intro n; rw [ok]; rcases h with rfl | rfl | rfl | rfl | rfl <;> decide +kernel
def SgX (s : Str) : Prop := s = "<" ∨ s = "<=" ∨ s = "=" ∨ s = "!=" ∨ s = ">=" ∨ s = ">"
structure R35 (m : Nat) (r : Row) : Prop where
  len : r.ps.length = m
  ps : ∀ p ∈ r.ps, P35 3 p ∧ Tr p
  q : P35 3 r.q ∧ Tr r.q
  s : r.s = "<" ∨ r.s = "<=" ∨ r.s = "="
/-- an atom as drawn -/
def AtX (d : D) : Prop := (∃ p s, d = .tuple [.str "sign", pD p, .str s] ∧ P35 5 p ∧ Tr p ∧ SgX s) ∨
  (∃ (m : Nat) (rs : List Row), d = .tuple [.str "some", .int (m : Int), .list (rs.map rowD)] ∧ 1 ≤ m ∧ m ≤ 2 ∧ 1 ≤ rs.length ∧ rs.length ≤ 5 ∧ ∀ r ∈ rs, R35 m r)
theorem r35_ok {m : Nat} {r : Row} (h : R35 m r) (hm : m ≤ 2) : okD 18 (rowD r) = true ∧ Sw 500 (rowD r) := by
  have hs : r.s = "<" ∨ r.s = "<=" ∨ r.s = "=" ∨ r.s = "!=" ∨ r.s = ">=" ∨ r.s = ">" := by
    rcases h.s with h | h | h
    · exact .inl h
    · exact .inr (.inl h)
    · exact .inr (.inr (.inl h))
  constructor
  · have a1 : okL 16 (r.ps.map pD) = true := okL_iff.mpr fun d hd => by
      obtain ⟨p, _, rfl⟩ := List.mem_map.mp hd
      exact p_okD 15 p
    have a2 := p_okD 16 r.q
    have a3 := (sg6_sw hs).2 17
    show okL 17 [.list (r.ps.map pD), pD r.q, .str r.s] = true
    simp [a1, a2, a3]
  · have b1 : Sw 145 (.list (r.ps.map pD)) := (sw_list (w := 69) fun d hd => by
      obtain ⟨q, hq, rfl⟩ := List.mem_map.mp hd
      exact sw_pol (h.ps q hq).1 (by decide)).mono (by rw [List.length_map, h.len]; omega)
    refine (sw_tup (l := [.list (r.ps.map pD), pD r.q, .str r.s]) (w := 145) fun d hd => ?_).mono (by simp)
    simp only [List.mem_cons, List.not_mem_nil, or_false] at hd
    rcases hd with rfl | rfl | rfl
    · exact b1
    · exact (sw_pol h.q.1 (by decide)).mono (by decide)
    · exact (sg6_sw hs).1.mono (by decide)
theorem AtX.ok {d : D} (h : AtX d) : AtOk d := by
  rcases h with ⟨p, s, rfl, hp, tp, hs6⟩ | ⟨m, rs, rfl, m0, hm, l0, hl, hr⟩
  · refine ⟨⟨"sign", _, rfl, .inl rfl⟩, ?_, ?_⟩
    · have a1 := (kw_sw (x := "sign") (.inl rfl)).2 19
      have a2 := p_okD 18 p
      have a3 := (sg6_sw hs6).2 19
      simp [a1, a2, a3]
    · refine (sw_tup (w := 69) fun d hd => ?_).mono (by simp)
      simp only [List.mem_cons, List.not_mem_nil, or_false] at hd
      rcases hd with rfl | rfl | rfl
      · exact (kw_sw (x := "sign") (.inl rfl)).1.mono (by decide)
      · exact sw_pol hp (by decide)
      · exact (sg6_sw hs6).1.mono (by decide)
  · refine ⟨⟨"some", _, rfl, .inr rfl⟩, ?_, ?_⟩
    · have a1 := (kw_sw (x := "some") (.inr (.inl rfl))).2 19
      have a2 : okL 18 (rs.map rowD) = true := okL_iff.mpr fun d hd => by
        obtain ⟨r, hr', rfl⟩ := List.mem_map.mp hd
        exact (r35_ok (hr r hr') hm).1
      simp [a1, a2]
    · have b1 : Sw 2513 (.list (rs.map rowD)) := (sw_list (w := 500) fun d hd => by
        obtain ⟨r, hr', rfl⟩ := List.mem_map.mp hd
        exact (r35_ok (hr r hr') hm).2).mono (by rw [List.length_map]; omega)
      refine (sw_tup (w := 2513) fun d hd => ?_).mono (by simp)
      simp only [List.mem_cons, List.not_mem_nil, or_false] at hd
      rcases hd with rfl | rfl | rfl
      · exact (kw_sw (x := "some") (.inr (.inl rfl))).1.mono (by decide)
      · exact (sw_int (s := 20) (.of 1000 (by omega) (by omega) (by decide)) (by decide) (by decide)).mono (by decide)
      · exact b1
def FaX : Fa → Prop
  | .lf d => AtX d
  | .no f => FaX f
  | .an f g => FaX f ∧ FaX g
  | .or f g => FaX f ∧ FaX g
theorem FaX.ok : ∀ {f : Fa}, FaX f → FaOk f
  | .lf _, h => AtX.ok h
  | .no f, h => FaX.ok (f := f) h
  | .an f g, h => ⟨FaX.ok (f := f) h.1, FaX.ok (f := g) h.2⟩
  | .or f g, h => ⟨FaX.ok (f := f) h.1, FaX.ok (f := g) h.2⟩
theorem ixl_0 (a : D) (l : List D) : ixD (.list (a :: l)) (.int 0) = some a := by rw [r_ix_l]; exact r_at 0
theorem ixt_0 (a : D) (l : List D) : ixD (.tuple (a :: l)) (.int 0) = some a := by rw [r_ix_t]; exact r_at 0
theorem ixt_1 (a b : D) (l : List D) : ixD (.tuple (a :: b :: l)) (.int 1) = some b := by rw [r_ix_t]; exact r_at 1
theorem ixt_2 (a b c : D) (l : List D) : ixD (.tuple (a :: b :: c :: l)) (.int 2) = some c := by rw [r_ix_t]; exact r_at 2
theorem cut_1 (a : D) (l : List D) : cutL (a :: l) (some 1) none = l := by rw [cut_from _ 1 1 rfl (by simp)]; rfl
end W

set_option Elab.async false
set_option linter.all false
set_option maxRecDepth 100000
set_option autoImplicit false
namespace VL
open PySem PySem.Spec PyProof.Rows L2

/-! ### (a, *e) -/
def eCat (f fl : Ev → R (List D)) : Ev → R (List D) := fun ρ => (f ρ).bind fun l => (fl ρ).bind fun ds => .ok (l ++ ds)
def xCat (f fl : Ev → RX (List D)) : Ev → RX (List D) := fun ρ => (f ρ).bind fun l ρ => (fl ρ).bind fun ds ρ => .ok (l ++ ds) ρ
@[simp] theorem r_eCat (f fl : Ev → R (List D)) (ρ : Ev) : eCat f fl ρ = (f ρ).bind fun l => (fl ρ).bind fun ds => .ok (l ++ ds) := id rfl
@[simp] theorem r_xCat (f fl : Ev → RX (List D)) (ρ : Ev) : xCat f fl ρ = (f ρ).bind fun l ρ => (fl ρ).bind fun ds ρ => .ok (l ++ ds) ρ := id rfl
section
variable {X : Cx} {W : WX} {e : Expr} {es : List Expr} {p : Pos} {f fl : Ev → R (List D)} {xf xfl : Ev → RX (List D)}
theorem xa_star (he : XO X e xf) (hr : XA X es xfl) (hs : starEach (.Starred e p :: es) X.env = (true, eval e X.env) :: starEach es X.env := by rfl) : XA X (.Starred e p :: es) (xCat xf xfl) := PA.imp (StX.pa_star he hr hs) fun σ H Q ⟨S, G, Hs, ρ, r, q⟩ => by
  refine ⟨S, G, Hs, ρ, r, (PostX.bind q).imp fun l ρ1 Hs1 H1 g1 r1 q1 Hs2 H2 a vs e2 h0 h1 h2 h3 => ?_⟩
  refine ⟨a, vs, rfl, .inr (.inl (.inl h2)), S, G, Hs2, ρ1, r1.step e2, (PostX.bind (q1.up e2.grow)).imp fun ds ρ2 Hs3 H3 g3 r3 q3 us hus => ?_⟩
  exact q3.now r3 _ ((h3.mono g3).append hus)
end
end VL

set_option Elab.async false
set_option linter.all false
set_option maxRecDepth 100000
set_option autoImplicit false
namespace VL
open PySem PySem.Spec PyProof.Rows L2

/-! ### a statement that changes new lists only, told by its reading -/
section
variable {K : Fg} {S Hs : Hp}
end
section
variable {X : Cx} {W : WX} {st : Stmt} {rest : List Stmt} {F : Ev → Out} {C : Ev → Prop} {is : List Nat} {t : TS}
end
/-! ### for b in e: for c, k, s in b[2]: k.append(1); b[2].clear() -/
def BlN (d : D) : Prop := ∃ m r, d = .tuple [.str "some", .int m, r] ∧ RowsN r
theorem BlN.at {d : D} (h : BlN d) : AtN d := .inr h
def TBl (K : Fg) (g : Gh) (x : V) : Prop := ∃ p m r, x = .ref p ∧ SqT K g.B p [.str "some", m, .ref r] ∧ g.κ r = some .ro
section
variable {K : Fg} {g g' : Gh} {H : Hp}
theorem TBl.mono {x : V} (l : Le g g') (h : TBl K g x) : TBl K g' x := by
  obtain ⟨p, m, r, e, h1, h2⟩ := h
  exact ⟨p, m, r, e, SqT.mono l.b h1, l.k _ _ h2⟩
end
end VL

set_option Elab.async false
set_option linter.all false
set_option maxRecDepth 100000
set_option autoImplicit false
namespace VL
open PySem PySem.Spec PyProof.Rows L2
/-! ### a, b = x, y, evaluations that change lists -/
def yPar (i j : Nat) (fl : Ev → RX (List D)) : Ev → Out := fun ρ => liftX (fl ρ) fun ds ρ => match ds with
  | [d, d'] => .nx ((ρ.set i (.sh d)).set j (.sh d'))
  | _ => .bad
section
variable {X : Cx} {W : WX} {a b : Expr} {pos : Pos} {fl : Ev → RX (List D)} {ρ : Ev} {i j : Nat}
theorem y_par {x y : Str} {px py pt : Pos} {kt k2 pt2} (hc : X.calm = true) (hN : X.N.Nodup) (hi : X.N[i]? = some x) (hj : X.N[j]? = some y) (hij : i ≠ j)
    (hx : X.env.scope.names.lookup x = some .local) (hy : X.env.scope.names.lookup y = some .local) (ha : XA X [a, b] fl)
    (hw : swappedStores [.Tuple [.Name x px, .Name y py] kt pt] (.Tuple [a, b] k2 pt2) X.env = pure (some [x, y]))
    (hs : swapsWithSole [.Tuple [.Name x px, .Name y py] kt pt] (.Tuple [a, b] k2 pt2) pos.line X.env = pure false := by rfl) :
    VS X W (.Assign [.Tuple [.Name x px, .Name y py] kt pt] (.Tuple [a, b] k2 pt2) pos) (yPar i j fl) := PS.imp (ps_par hc hN hi hj hij hx hy ha hw hs) fun D σ H ⟨S, G, Hs, ρ, r, h⟩ => by
  refine ⟨S, G, Hs, ρ, r, (liftX_post h).imp fun ds ρ1 Hs1 H1 g1 r1 q vs hv => ?_⟩
  cases hv with
  | nil => exact q.elim
  | cons h1 hv =>
    cases hv with
    | nil => exact q.elim
    | cons h2 hv =>
      cases hv with
      | cons _ _ => exact q.elim
      | nil => exact ⟨_, _, rfl, q Hs1 H1 _ (.refl _) ((r1.set h1).set h2)⟩
end
@[simp] theorem ry_par {ρ : Ev} {i j : Nat} (f : Ev → RX (List D)) : yPar i j f ρ = liftX (f ρ) fun ds ρ => match ds with | [d, d'] => .nx ((ρ.set i (.sh d)).set j (.sh d')) | _ => .bad := id rfl
end VL

set_option Elab.async false
set_option linter.all false
set_option maxRecDepth 100000
set_option autoImplicit false
namespace VL
open PySem PySem.Spec PyProof.Rows L2

/-! ### a list of one's own, read without tags -/
def sUnO (i : Nat) (F : Ev → Out) : Ev → Out := fun ρ => match ρ[i]? with
  | some (.ow l) => F (ρ.set i (.ow (unL l)))
  | _ => F ρ
/-! ### x[0].append(z); x[1].append(z) -/
section
variable {X : Cx} {W : WX} {st st2 : Stmt} {rest : List Stmt} {F : Ev → Out} {C : Ev → Prop} {is : List Nat} {t t2 : TS}
end
@[simp] theorem r_sUnO {i : Nat} {F : Ev → Out} {ρ : Ev} : sUnO i F ρ = match ρ[i]? with
  | some (.ow l) => F (ρ.set i (.ow (unL l)))
  | _ => F ρ := id rfl
end VL

set_option Elab.async false
set_option linter.all false
set_option maxRecDepth 100000
set_option autoImplicit false
namespace VL
open PySem PySem.Spec PyProof.Rows L2

/-! ### new lists that are changed; what is known stays known but for them -/
section
variable {K : Fg} {S Hs : Hp}
end
/-! ### a region in which the frame is forgotten at each statement -/
def OutF (K : Fg) (S : Hp) (G : Gx) (D : Ends) : Out → Prop
  | .nx ρ => ∀ Hs' H' σ', RelE K S G Hs' H' σ' ρ → D.nx σ' H'
  | .bk ρ => ∀ Hs' H' σ', RelE K S G Hs' H' σ' ρ → D.bk σ' H'
  | .ct ρ => ∀ Hs' H' σ', RelE K S G Hs' H' σ' ρ → D.ct σ' H'
  | .rt r => ∀ Hs' H' v, Ext S G.h Hs' H' → RpO K G.h Hs' H' r v → D.rt v H'
  | _ => False
theorem OutF.ok {K : Fg} {mg : Str → Option Value} {W : WX} {S Hs : Hp} {G : Gx} {D : Ends} {o : Out} (h : OutF K S G D o) : OutOk K mg W S G Hs D o := by
  cases o with
  | nx ρ => exact fun Hs' H' σ' _ => h Hs' H' σ'
  | bk ρ => exact fun Hs' H' σ' _ => h Hs' H' σ'
  | ct ρ => exact fun Hs' H' σ' _ => h Hs' H' σ'
  | rt r => exact h
  | rtB r ρ => exact h.elim
  | ex x ρ => exact h.elim
  | bad => exact h.elim
section
variable {X : Cx} {W : WX} {st st2 : Stmt} {sts rest : List Stmt} {F F' : Ev → Out} {C : Ev → Prop} {is : List Nat} {t t2 : TS}
end
/-! ### for k in range(..), in a region -/
section
variable {X : Cx} {W : WX} {tg iter a : Expr} {body : List Stmt} {pos p : Pos} {fi fl : Ev → R (List D)} {ts : List Nat} {g : D → Ev → Option Ev} {F : Ev → Out}
end
/-! ### x[0].append(z); x.append([z']) -/
end VL

set_option Elab.async false
set_option linter.all false
set_option maxRecDepth 100000
set_option autoImplicit false
namespace VL
open PySem PySem.Spec PyProof.Rows L2

/-! ### read without the outer tag -/
def sun : D → D
  | .dict [(.int _, .list l)] => .list l
  | d => d
theorem sun_tg (l : List D) : sun (tg l) = .list l := rfl
theorem Rp.sun {K : Fg} {H : Hp} : ∀ {d : D} {v : V}, Rp K H d v → Rp K H (sun d) v
  | _, _, .non => .non
  | _, _, .bl b => .bl b
  | _, _, .int i => .int i
  | _, _, .str x => .str x
  | _, _, .lst h r => .lst h r
  | _, _, .tup h r => .tup h r
  | _, _, .nl h r => by rw [sun_tg]; exact .lst (.inl (.inl h)) r
  | _, _, .fl h r => by show Rp K H (.list _) _; exact .lst h.seq r
  | _, _, .dk h l r => by
    have e : ∀ (ks : List Str) (ds : List D), VL.sun (dkD ks ds) = dkD ks ds := fun ks ds => rfl
    rw [e]
    exact .dk h l r
  | _, _, .exn a n => .exn a n
  | _, _, .xob c h f l r => by
    have e : ∀ (n : Str) (ks : List Str) (ds : List D), VL.sun (xoD n ks ds) = xoD n ks ds := fun n ks ds => rfl
    rw [e]
    exact .xob c h f l r
  | _, _, .exf (n := n) (a := a) (dd := dd) (ks := ks) (ds := ds) h l r => by
    rw [show VL.sun (exfD n a dd ks ds) = exfD n a dd ks ds from rfl]
    exact .exf h l r
def eSun (f : Ev → R D) : Ev → R D := fun ρ => (f ρ).bind fun d => .ok (sun d)
section
variable {X : Cx} {W : WX} {e : Expr} {f : Ev → R D}
theorem VE.sun (h : VE X W e f) : VE X W e (eSun f) := PE.imp h fun σ H Q ⟨S, G, Hs, ρ, r, p⟩ => ⟨S, G, Hs, ρ, r, (Post.bind p).imp fun d Hs' H' e q v hv => q.now e.sub v (Rp.sun hv)⟩
theorem VP.sun (h : VP X W e f) : VP X W e (eSun f) := PE.imp h fun σ H Q ⟨S, G, Hs, ρ, r, p⟩ => ⟨S, G, Hs, ρ, r, (Post.bind p).imp fun d Hs' H' e q v hv => q.now e.sub v (by
  rcases hv with hv | ⟨l, a, xs, rfl, rfl, h3, h4⟩
  · exact .inl (Rp.sun hv)
  · exact .inr ⟨l, a, xs, rfl, rfl, h3, h4⟩)⟩
end
@[simp] theorem r_eSun (f : Ev → R D) (ρ : Ev) : eSun f ρ = (f ρ).bind fun d => .ok (sun d) := id rfl
/-! ### l.count(text) -/
theorem vals_strs : ∀ {ns : List Str} {us : List Value}, Vals (ns.map V.str) us → ∀ y ∈ us, ∃ (a : Str) (t : Tok), y = .str a t
  | [], _, .nil, y, h => by cases h
  | n :: ns, _, .cons r rr, y, h => by
    rcases List.mem_cons.mp h with rfl | h
    · obtain ⟨t, rfl⟩ := r
      exact ⟨_, t, rfl⟩
    · exact vals_strs rr y h
def eqStr (k : Str) : Value → Bool
  | .str a _ => a == k
  | _ => false
theorem count_strs {k : Str} : ∀ {ns : List Str} {us : List Value}, Vals (ns.map V.str) us → us.countP (eqStr k) = ns.count k
  | [], _, .nil => rfl
  | n :: ns, _, .cons r rr => by
    obtain ⟨t, rfl⟩ := r
    rw [List.countP_cons, List.count_cons, count_strs rr]
    rfl
def rCntS (K : PySem.W.Frag) : V → List V → Hp → VK → Prop := fun x xs H Q => ∃ (p : Addr) (ns : List Str) (k : Str), x = .ref p ∧ xs = [.str k] ∧ SqL K H p (ns.map V.str) ∧ Q (.int (ns.count k : Nat)) H
theorem mt_lcountS {X : Cx} : MtR X "list.count" (rCntS X.K) := by
  intro pins s σ H x xs v us Q I rx rxs h
  obtain ⟨p, ns, k, rfl, rfl, hs, q⟩ := h
  cases rx
  obtain ⟨u, rfl, ru⟩ := rxs.one
  obtain ⟨t, rfl⟩ := ru
  obtain ⟨its, rv, ⟨⟨cls, dd, data, sl⟩, n, ho, hc, hdn, hd⟩, hlen⟩ := I.list hs
  simp only at hc hd
  subst hc hd
  refine call_meets PySem.F.slot_list_count ⟨_, ho, rfl⟩ PySem.F.entry_list_count (PySem.F.args_list_count_2 _ _)
    (SeqAt.list_countAt p its.toArray n dd sl (.str k t) (eqStr k)) ⟨ho, fun y hy => ?_, ?_⟩
  · obtain ⟨a, t', rfl⟩ := vals_strs rv y (by simpa using hy)
    exact SeqAt.EqAt.str_str a t' k t
  · have ec : its.toArray.toList.countP (eqStr k) = ns.count k := count_strs rv
    refine ⟨.int (ns.count k : Nat), H, I.tok _, ⟨s.toks, ?_⟩, q⟩
    show Value.int ((its.toArray.toList.countP (eqStr k) : Nat) : Int) s.toks = Value.int ((ns.count k : Nat) : Int) s.toks
    rw [ec]
def countD (l : List D) : D → Option D
  | .str k => (strsOf l).map fun ys => .int ((ys.count k : Nat) : Int)
  | _ => none
def eCnt (f g : Ev → R D) : Ev → R D := fun ρ => (f ρ).bind fun x => match x with
  | .list l => (g ρ).bind fun y => ofO (countD l y)
  | _ => .bad
section
variable {X : Cx} {W : WX} {o e : Expr} {apos pos : Pos} {f g : Ev → R D}
theorem v_count (ho : VP X W o f) (he : VP X W e g) (hs : starEach [e] X.env = [(false, eval e X.env)] := by rfl) (hbase : attributeBase o "count" X.env (eval o X.env) = eval o X.env := by rfl)
    (hfew : ((backTo pos (starEach [e] X.env)).all (fun x => !x.1) && (backToKw pos (keywordEach [] X.env)).all (fun x => x.1.isSome)
      && decide ([e].length + ([] : List Keyword).length + (if ([] : List Keyword).isEmpty then 0 else 1) < 30)) = true := by rfl)
    (hline : (apos.endLine == pos.line) = true := by rfl) :
    VE X W (.Call (.Attribute o "count" apos) [e] [] pos) (eCnt f g) := PE.imp (pe_bm PySem.F.plainAttrs_list PySem.F.slot_list_count PySem.F.type_list_count mt_lcountS ho (pa_cons he pa_nil hs) hbase hfew hline hs rfl) fun σ H Q ⟨S, G, Hs, ρ, r, p⟩ => by
  refine ⟨S, G, Hs, ρ, r, (Post.bind p).imp fun x Hs1 H1 e q u hu => ?_⟩
  cases x with
  | list l =>
    obtain ⟨b, xs, rfl, h1, h2⟩ := hu.list e.sub
    refine ⟨.inl ⟨rfl, xs, h1⟩, S, G, Hs1, ρ, r.step e, (Post.bind q).imp fun y Hs2 H2 e' q' v hv => ?_⟩
    cases y with
    | str k =>
      unfold countD at q'
      cases z : strsOf l with
      | none => simp only [z] at q'; exact q'.elim
      | some ys =>
        simp only [z] at q'
        have h3 := strsOf_rp z h2
        subst h3
        exact ⟨b, ys, k, rfl, by rw [hv.str], Same.seq e'.same h1, q'.now e'.sub _ (.int _)⟩
    | _ => exact q'.elim
  | _ => exact q.elim
end
@[simp] theorem r_eCnt (f g : Ev → R D) (ρ : Ev) : eCnt f g ρ = (f ρ).bind fun x => match x with
  | .list l => (g ρ).bind fun y => ofO (countD l y)
  | _ => .bad := id rfl
/-! ### for a in e: _law_spoil_atom(a); x.clear() -/
section
variable {X : Cx} {W : WX} {iter : Expr} {f : Ev → R D} {i jx j k : Nat} {x y z : Str} {px p1 p2 p3 p4 p5 p6 p7 pos : Pos} {ps : List Str}
/-! ### for a in e: a.append(7); x.append([]) -/
end
end VL

set_option Elab.async false
set_option linter.all false
set_option maxRecDepth 100000
set_option autoImplicit false
set_option maxHeartbeats 4000000
namespace W
open PySem PySem.Spec PyProof.Rows L2 VL
/-! ### the first that is not empty -/
def fstE : List Str → Str
  | [] => ""
  | s :: l => if s = "" then fstE l else s
def exnE (s : Str) : Str := if s = "good" then "" else exn2 s
/-- a polynomial, or what came of one -/
def PolyW (d : D) : Prop := ∃ l, d = .list l ∧ l.length ≤ 9 ∧ ∀ x ∈ l, IsVal x
def polE (most b : Int) : D → Str
  | .list l => exnE (dueS l most b)
  | _ => "bad"
end W

set_option Elab.async false
set_option linter.all false
set_option maxRecDepth 100000
set_option autoImplicit false
namespace W
open PySem PySem.Spec PyProof.Rows L2 VL
/-! ### division with a false rest -/
def shP (l : List Int) (k : Nat) : List Int := if l = [] then [] else (fl k fun _ => 0) ++ l
theorem cf_app (l m : List Int) (k : Nat) : cf (l ++ m) k = if k < l.length then cf l k else cf m (k - l.length) := by
  unfold cf
  rw [List.getD_eq_getElem?_getD, List.getD_eq_getElem?_getD, List.getD_eq_getElem?_getD]
  split
  · rename_i h; rw [List.getElem?_append_left h]
  · rename_i h; rw [List.getElem?_append_right (by omega)]
theorem cf_sh (l : List Int) (k n : Nat) : cf (shP l k) n = if n < k then 0 else cf l (n - k) := by
  unfold shP
  split
  · rename_i h; subst h; simp
  · rw [cf_app, fl_length, cf_fl]
    split
    · simp
    · rfl
theorem SzP.sh {s : Nat} {l : List Int} (h : SzP s l) (k : Nat) : SzP s (shP l k) := by
  unfold shP; split
  · exact fun c hc => by cases hc
  · intro c hc
    rcases List.mem_append.mp hc with g | g
    · obtain ⟨i, _, rfl⟩ := List.mem_map.mp g
      exact sz0 _
    · exact h c g
/-- one step of the division: the rest times the lead less the divisor times the top, moved -/
def stP (b : List Int) (lead : Int) (rest : List Int) (by_ : Nat) : List Int := subP (scaleP rest lead) (shP (scaleP b (cf rest (by_ + b.length - 1))) by_)
theorem cf_st (b : List Int) (lead : Int) (rest : List Int) (by_ n : Nat) : cf (stP b lead rest by_) n = cf rest n * lead - (if n < by_ then 0 else cf b (n - by_) * cf rest (by_ + b.length - 1)) := by
  unfold stP
  rw [cf_sub, cf_scale, cf_sh, cf_scale]
theorem SzP.st {s t : Nat} {b rest : List Int} {lead : Int} (hb : SzP t b) (hr : SzP s rest) (hl : Sz t lead) (by_ : Nat) : SzP (s + t + 1) (stP b lead rest by_) := by
  intro c hc
  obtain ⟨n, hn⟩ : ∃ n, W.cf (stP b lead rest by_) n = c := by
    obtain ⟨i, hi, e⟩ := List.mem_iff_getElem.mp hc
    exact ⟨i, by rw [← cf_elem hi, e]⟩
  rw [← hn, cf_st]
  refine ((hr.cf n).mul hl).sub ?_
  split
  · exact sz0 _
  · rw [Nat.add_comm]
    exact (hb.cf _).mul (hr.cf _)
/-- the rest after the first j steps -/
def frN (a b : List Int) : Nat → List Int
  | 0 => a
  | j + 1 => stP b (cf b (b.length - 1)) (frN a b j) (a.length - b.length - j)
theorem frN_sz {s t : Nat} {a b : List Int} (ha : SzP s a) (hb : SzP t b) : ∀ j, SzP (s + j * (t + 1)) (frN a b j)
  | 0 => by simpa [frN] using ha
  | j + 1 => by
    rw [Nat.succ_mul]
    exact (SzP.st hb (frN_sz ha hb j) (hb.cf _) _).mono (by omega)
/-! plain forms -/
def plC (a : List Int) : Int := if cf a (a.length - 1) < 0 then -(contN a : Int) else (contN a : Int)
def plainP (a : List Int) : List Int := a.map fun x => x.fdiv (plC a)
theorem contN_ne {a : List Int} (ha : Tr a) (h : a ≠ []) : contN a ≠ 0 := by
  intro z
  have l : 0 < a.length := List.length_pos_iff.mpr h
  have h1 := contN_dvd (cf_mem (l := a) (k := a.length - 1) (by omega))
  rw [z] at h1
  exact ha (a.length - 1) (by omega) (Int.zero_dvd.mp h1)
theorem plC_ne {a : List Int} (ha : Tr a) (h : a ≠ []) : plC a ≠ 0 := by
  have := contN_ne ha h
  unfold plC; split <;> omega
end W

set_option Elab.async false
set_option linter.all false
set_option maxRecDepth 100000
set_option autoImplicit false
namespace W
open PySem PySem.Spec PyProof.Rows L2 VL
/-! ### plain polynomials stand for their rays -/
structure Prim (p : List Int) : Prop where
  tr : Tr p
  ne : p ≠ []
  one : contN p = 1
  pos : 0 < cf p (p.length - 1)
theorem cf_plain {a : List Int} (h : a ≠ []) (ha : Tr a) (k : Nat) : cf a k = plC a * cf (plainP a) k := by
  unfold plainP
  rw [cf_map (f := fun x => x.fdiv (plC a)) (by simp)]
  have hd : plC a ∣ cf a k := by
    have : (contN a : Int) ∣ cf a k := by
      by_cases hk : k < a.length
      · exact contN_dvd (cf_mem hk)
      · rw [cf_out (by omega)]; exact Int.dvd_zero _
    unfold plC
    split
    · exact Int.neg_dvd.mpr this
    · exact this
  obtain ⟨y, hy⟩ := hd
  rw [hy, Int.mul_fdiv_cancel_left y (plC_ne ha h)]
theorem SzP.plain {a : List Int} {s : Nat} (h : SzP s a) : SzP s (plainP a) := fun x hx => by
  obtain ⟨y, hy, rfl⟩ := List.mem_map.mp hx
  exact (h y hy).fdiv
/-! ### the quotient -/
def topN (a b : List Int) (j : Nat) : Int := cf (frN a b j) (a.length - b.length - j + b.length - 1)
def fR (n : Nat) (φ : Nat → Rat) : List D := (List.range n).map fun i => rD (φ i)
@[simp] theorem fR_len (n : Nat) (φ : Nat → Rat) : (fR n φ).length = n := by simp [fR]
def Ff (a b : List Int) (j : Nat) : Rat := (topN a b j : Rat) / (((cf b (b.length - 1)) ^ (j + 1) : Int) : Rat)
structure QS (s t J : Nat) (a b : List Int) : Prop where
  sa : SzP s a
  sb : SzP t b
  ta : Tr a
  tb : Tr b
  nb : b ≠ []
  na : a ≠ []
  hl : b.length ≤ a.length
  la : a.length ≤ 1000
  ht : 1 ≤ t
  hJ : a.length - b.length + 1 ≤ J
  hz : 2 * (s + J * (t + 1) + 1) + t + 10 ≤ 8000
section
variable {s t J : Nat} {a b : List Int}
theorem QS.lb (h : QS s t J a b) : 0 < b.length := List.length_pos_iff.mpr h.nb
theorem QS.lead (h : QS s t J a b) : cf b (b.length - 1) ≠ 0 := h.tb _ (by have := h.lb; omega)
theorem pow_sz {t : Nat} {x : Int} (h : Sz t x) : ∀ j, Sz (j * t + 1) (x ^ j)
  | 0 => by simpa using Sz.lit (i := 1) (a := 1) (by decide)
  | j + 1 => by
    rw [Int.pow_succ, Nat.succ_mul]
    exact ((pow_sz h j).mul h).mono (by omega)
theorem QS.jm (h : QS s t J a b) {j : Nat} (hj : j ≤ J) : j * (t + 1) ≤ J * (t + 1) ∧ j * t ≤ j * (t + 1) := ⟨Nat.mul_le_mul_right _ hj, Nat.mul_le_mul_left _ (by omega)⟩
theorem QS.fk (h : QS s t J a b) {j : Nat} (hj : j + 1 ≤ J) : Rk (s + J * (t + 1) + 1) (Ff a b j) := by
  obtain ⟨m1, m2⟩ := h.jm hj
  have m3 := Nat.le_trans m2 m1
  rw [Nat.succ_mul] at m1
  exact rk_div (Int.pow_ne_zero h.lead) (((frN_sz h.sa h.sb j).cf _).mono (by omega)) ((pow_sz (h.sb.cf _) (j + 1)).mono (by omega))
end
section
variable {s t J : Nat} {a b : List Int}
end
section
variable {s t J : Nat} {a b : List Int}
end
end W

set_option Elab.async false
set_option linter.all false
set_option maxRecDepth 100000
set_option autoImplicit false
namespace W
open PySem PySem.Spec PyProof.Rows L2 VL
/-! ### common divisors: plain law -/
theorem evNil (x : Rat) : evP [] x = 0 := rfl
theorem evOne (c : Int) (x : Rat) : evP [c] x = (c : Rat) := by show (0 : Rat) * x + (c : Rat) = _; grind
theorem ev_cmul (c : Int) (q : List Int) (x : Rat) : evP (q.map fun y => c * y) x = (c : Rat) * evP q x := by
  rw [evP_S _ x q.length (by simp), evP_S q x q.length (Nat.le_refl _), ← evS_mul]
  exact evS_congr fun k _ => cf_map (f := fun y => c * y) (by simp) k
theorem ev_plain {a : List Int} (ha : Tr a) (h : a ≠ []) (x : Rat) : evP a x = ((plC a : Int) : Rat) * evP (plainP a) x := by
  rw [← ev_cmul]
  exact evP_ext (fun k => by rw [cf_map (f := fun y => plC a * y) (by simp), ← cf_plain h ha]) x
/-- d divides p, with whole numbers on both sides -/
def Dq (d p : List Int) : Prop := ∃ (u : Int) (q : List Int), u ≠ 0 ∧ ∀ x, (u : Rat) * evP p x = evP q x * evP d x
theorem Dq.refl (d : List Int) : Dq d d := ⟨1, [1], by decide, fun x => by rw [evOne]⟩
theorem Dq.nil (d : List Int) : Dq d [] := ⟨1, [], by decide, fun x => by rw [evNil]; grind⟩
theorem Dq.trans {d e p : List Int} (h : Dq d e) (h' : Dq e p) : Dq d p := by
  obtain ⟨u, q, hu, f⟩ := h
  obtain ⟨v, r, hv, g⟩ := h'
  exact ⟨u * v, mulP r q, Int.mul_ne_zero hu hv, fun x => by
    have a := f x
    have b := g x
    rw [Rat.intCast_mul, evP_mul]
    grind⟩
/-- combinations of what d divides -/
theorem Dq.comb {d p r : List Int} (h : Dq d p) (h' : Dq d r) {w : Int} (hw : w ≠ 0) {s t z : List Int} (e : ∀ x, (w : Rat) * evP z x = evP s x * evP p x + evP t x * evP r x) : Dq d z := by
  obtain ⟨u, q, hu, f⟩ := h
  obtain ⟨v, q', hv, g⟩ := h'
  exact ⟨u * v * w, addP (scaleP (mulP s q) v) (scaleP (mulP t q') u), Int.mul_ne_zero (Int.mul_ne_zero hu hv) hw, fun x => by
    have a := f x
    have b := g x
    have c := e x
    rw [Rat.intCast_mul, Rat.intCast_mul, evP_add, ev_scale, ev_scale, evP_mul, evP_mul]
    have : (u : Rat) * (v : Rat) * (w : Rat) * evP z x = (v : Rat) * evP s x * ((u : Rat) * evP p x) + (u : Rat) * evP t x * ((v : Rat) * evP r x) := by grind
    rw [this, a, b]
    grind⟩
theorem Dq.scale {d p z : List Int} (h : Dq d p) {w v : Int} (hw : w ≠ 0) (e : ∀ x, (w : Rat) * evP z x = (v : Rat) * evP p x) : Dq d z := by
  refine h.comb (Dq.nil d) hw (s := [v]) (t := []) fun x => ?_
  rw [e, evOne, evNil]; grind
theorem Dq.plain {d a : List Int} (ha : Tr a) : Dq d (plainP a) ↔ Dq d a := by
  by_cases h : a = []
  · subst h; exact Iff.rfl
  · constructor
    · intro g; exact g.scale (w := 1) (v := plC a) (by decide) fun x => by rw [ev_plain ha h]; grind
    · intro g; exact g.scale (w := plC a) (v := 1) (plC_ne ha h) fun x => by rw [ev_plain ha h]; grind
/-! ### Euclid's way -/
/-! the program's function -/
structure Gc (a b g : List Int) : Prop where
  tr : Tr g
  all : ∀ d, Dq d a → Dq d b → Dq d g
  left : Dq g a
  right : Dq g b
  nil : g = [] → a = [] ∧ b = []
  prim : g = [] ∨ Prim g
  bez : ∃ (w : Int) (u v : List Int), w ≠ 0 ∧ ∀ x, (w : Rat) * evP g x = evP u x * evP a x + evP v x * evP b x
/-! the law's own division -/
structure LS (s t J : Nat) (a b : List Int) : Prop where
  q : QS s t J a b
  z : 2 * (s + J * (t + 1) + 1) + t + 10 ≤ 1900
section
variable {s t J : Nat} {a b : List Int}
end
end W

set_option Elab.async false
set_option linter.all false
set_option maxRecDepth 100000
set_option autoImplicit false
namespace W
open PySem PySem.Spec PyProof.Rows L2 VL
end W

set_option Elab.async false
set_option linter.all false
set_option maxRecDepth 100000
set_option autoImplicit false
namespace W
open PySem PySem.Spec PyProof.Rows L2 VL
noncomputable def c_is_atom : Ev → Out := sRet (eOrV (e2 eqD (e2 ixD (eOwn 0) (cst (.int 0))) (cst (.str "sign"))) (e2 eqD (e2 ixD (eOwn 0) (cst (.int 0))) (cst (.str "some"))))
noncomputable def m_is_atom : List D → R SD := runD 1 1 c_is_atom
noncomputable def b_copy_of_1 : Ev → Out := sApp 1 (e1 tupD (eCons (eLst (eComp [5] (e1 seqD (eVar 2)) (gSet 5) (cst true) (eLst (e1 listO (eCons (eOwn 5) (cst [])))))) (eCons (eLst (e1 listO (eCons (eOwn 3) (cst [])))) (eCons (eVar 4) (cst [])))))
noncomputable def c_copy_of : Ev → Out := sSeq (sIf (e1 bOf (e2 eqD (e2 ixD (eOwn 0) (cst (.int 0))) (cst (.str "sign")))) (sRet (e1 tupD (eCons (cst (.str "sign")) (eCons (eLst (e1 listO (eCons (e2 ixD (eOwn 0) (cst (.int 1))) (cst [])))) (eCons (e2 ixD (eOwn 0) (cst (.int 2))) (cst [])))))) (sNil)) (sSeq (sIf (e1 bOf (e2 eqD (e2 ixD (eOwn 0) (cst (.int 0))) (cst (.str "some")))) (sSeq (sSetO 1 (e1 lim (cst []))) (sSeq (sFor (e1 seqD (e2 ixD (eOwn 0) (cst (.int 2)))) (gTupD 3 (gsCons (gSet 2) (gsCons (gSet 3) (gsCons (gSet 4) (gsNil))))) b_copy_of_1) (sFz 1 (sRet (e1 tupD (eCons (cst (.str "some")) (eCons (e2 ixD (eOwn 0) (cst (.int 1))) (eCons (eVar 1) (cst []))))))))) (sNil)) (fun _ => .bad))
noncomputable def m_copy_of : List D → R SD := runD 1 7 c_copy_of
noncomputable def b_atoms_of_1 (mf : List D → R SD) : Ev → Out := sExt 1 (eCall mf (eCons (eVar 2) (cst [])))
noncomputable def c_atoms_of (mf : List D → R SD) : Ev → Out := sSeq (sIf (e1 truD (eCall m_is_atom (eCons (eVar 0) (cst [])))) (sRetO (e1 lim (eCons (eCall m_copy_of (eCons (eVar 0) (cst []))) (cst [])))) (sNil)) (sSeq (sSetO 1 (e1 lim (cst []))) (sSeq (sFor (e1 seqD (e3 sliceD (eOwn 0) (e1 intOf (cst (.int 1))) (pNo))) (gSet 2) (b_atoms_of_1 mf)) (sRetV 1)))
noncomputable def m_atoms_of (n : Nat) : List D → R SD := Nat.rec (runD 1 3 fun _ => .bad) (fun _ mf => runD 1 3 (c_atoms_of mf)) n
theorem m_atoms_of_succ (n : Nat) : m_atoms_of (n + 1) = runD 1 3 (c_atoms_of (m_atoms_of n)) := rfl
abbrev T3 := Option Bool
def tD : T3 → D
  | none => .none
  | some b => .bool b
@[simp] theorem tD_some (b : Bool) : tD (some b) = .bool b := rfl
@[simp] theorem tD_none : tD none = .none := rfl
/-! ### atoms of a formula -/
def ats : Fa → List D
  | .lf d => [d]
  | .no f => ats f
  | .an f g => ats f ++ ats g
  | .or f g => ats f ++ ats g
/-! ### what is known stays -/
/-! ### truths: two values -/
end W

set_option Elab.async false
set_option linter.all false
set_option maxRecDepth 100000
set_option autoImplicit false
namespace W
open PySem PySem.Spec PyProof.Rows L2 VL
@[simp] theorem g_12 : ((Str.ofString "<") = Str.ofString "<=") = False := by decide +kernel
@[simp] theorem g_13 : ((Str.ofString "<") = Str.ofString "=") = False := by decide +kernel
@[simp] theorem g_14 : ((Str.ofString "<") = Str.ofString "!=") = False := by decide +kernel
@[simp] theorem g_15 : ((Str.ofString "<") = Str.ofString ">=") = False := by decide +kernel
@[simp] theorem g_16 : ((Str.ofString "<") = Str.ofString ">") = False := by decide +kernel
@[simp] theorem g_21 : ((Str.ofString "<=") = Str.ofString "<") = False := by decide +kernel
@[simp] theorem g_23 : ((Str.ofString "<=") = Str.ofString "=") = False := by decide +kernel
@[simp] theorem g_24 : ((Str.ofString "<=") = Str.ofString "!=") = False := by decide +kernel
@[simp] theorem g_25 : ((Str.ofString "<=") = Str.ofString ">=") = False := by decide +kernel
@[simp] theorem g_26 : ((Str.ofString "<=") = Str.ofString ">") = False := by decide +kernel
@[simp] theorem g_31 : ((Str.ofString "=") = Str.ofString "<") = False := by decide +kernel
@[simp] theorem g_32 : ((Str.ofString "=") = Str.ofString "<=") = False := by decide +kernel
@[simp] theorem g_34 : ((Str.ofString "=") = Str.ofString "!=") = False := by decide +kernel
@[simp] theorem g_35 : ((Str.ofString "=") = Str.ofString ">=") = False := by decide +kernel
@[simp] theorem g_36 : ((Str.ofString "=") = Str.ofString ">") = False := by decide +kernel
@[simp] theorem g_41 : ((Str.ofString "!=") = Str.ofString "<") = False := by decide +kernel
@[simp] theorem g_42 : ((Str.ofString "!=") = Str.ofString "<=") = False := by decide +kernel
@[simp] theorem g_43 : ((Str.ofString "!=") = Str.ofString "=") = False := by decide +kernel
@[simp] theorem g_45 : ((Str.ofString "!=") = Str.ofString ">=") = False := by decide +kernel
@[simp] theorem g_46 : ((Str.ofString "!=") = Str.ofString ">") = False := by decide +kernel
@[simp] theorem g_51 : ((Str.ofString ">=") = Str.ofString "<") = False := by decide +kernel
@[simp] theorem g_52 : ((Str.ofString ">=") = Str.ofString "<=") = False := by decide +kernel
@[simp] theorem g_53 : ((Str.ofString ">=") = Str.ofString "=") = False := by decide +kernel
@[simp] theorem g_54 : ((Str.ofString ">=") = Str.ofString "!=") = False := by decide +kernel
@[simp] theorem g_56 : ((Str.ofString ">=") = Str.ofString ">") = False := by decide +kernel
@[simp] theorem g_61 : ((Str.ofString ">") = Str.ofString "<") = False := by decide +kernel
@[simp] theorem g_62 : ((Str.ofString ">") = Str.ofString "<=") = False := by decide +kernel
@[simp] theorem g_63 : ((Str.ofString ">") = Str.ofString "=") = False := by decide +kernel
@[simp] theorem g_64 : ((Str.ofString ">") = Str.ofString "!=") = False := by decide +kernel
@[simp] theorem g_65 : ((Str.ofString ">") = Str.ofString ">=") = False := by decide +kernel
/-! ### signs -/
/-! ### the pushed form -/
end W

set_option Elab.async false
set_option linter.all false
set_option maxRecDepth 100000
set_option autoImplicit false
namespace W
open PySem PySem.Spec PyProof.Rows L2 VL
/-! ### new data -/
/-! ### the law's own looks -/
inductive Smd : Nat → D → Prop where
  | int (n : Nat) (i : Int) : Smd n (.int i)
  | str (n : Nat) (s : Str) : Smd n (.str s)
  | list {n : Nat} {l : List D} : l.length ≤ 1000 → (∀ d ∈ l, Smd n d) → Smd (n + 1) (.list l)
  | tuple {n : Nat} {l : List D} : l.length ≤ 1000 → (∀ d ∈ l, Smd n d) → Smd (n + 1) (.tuple l)
theorem Smd.mono {n m : Nat} {d : D} (h : Smd n d) (e : n ≤ m) : Smd m d := by
  induction h generalizing m with
  | int n i => exact .int _ i
  | str n s => exact .str _ s
  | list hl _ ih =>
    obtain ⟨k, rfl⟩ : ∃ k, m = k + 1 := ⟨m - 1, by omega⟩
    exact .list hl fun d hd => ih d hd (by omega)
  | tuple hl _ ih =>
    obtain ⟨k, rfl⟩ : ∃ k, m = k + 1 := ⟨m - 1, by omega⟩
    exact .tuple hl fun d hd => ih d hd (by omega)
/-! ### atoms, by their keys alone -/
/-! ### what is known stays -/
/-! ### small data -/
/-! ### behind the colours -/
end W

set_option Elab.async false
set_option linter.all false
set_option maxRecDepth 100000
set_option autoImplicit false
namespace W
open PySem PySem.Spec PyProof.Rows L2 VL
/-! ### formulas of one to three atoms -/
inductive Fm where
  | sg (p : List Int) (s : Str)
  | bl (m : Nat) (rs : List Row)
  | no (f : Fm)
  | an (f g : Fm)
  | or (f g : Fm)
def fmD : Fm → D
  | .sg p s => .tuple [.str "sign", pD p, .str s]
  | .bl m rs => .tuple [.str "some", .int (m : Int), .list (rs.map rowD)]
  | .no f => .tuple [.str "not", fmD f]
  | .an f g => .tuple [.str "and", fmD f, fmD g]
  | .or f g => .tuple [.str "or", fmD f, fmD g]
def Fm.dp : Fm → Nat
  | .sg _ _ => 0
  | .bl _ _ => 0
  | .no f => f.dp + 1
  | .an f g => max f.dp g.dp + 1
  | .or f g => max f.dp g.dp + 1
/-! ### drawn formulas -/
/-! as formulas over atoms -/
end W

set_option Elab.async false
set_option linter.all false
set_option maxRecDepth 100000
set_option autoImplicit false
set_option maxHeartbeats 4000000
namespace W
open PySem PySem.Spec PyProof.Rows L2 VL
noncomputable def b_check_row_1 : Ev → Out := sDrop (eCall m_check_polynomial (eApp 1 2 (eCons (eVar 5) (cst [])) (eCons (cst (.int 2)) (eCons (cst (.int 20)) (cst [])))))
noncomputable def c_check_row : Ev → Out := sSeq (sAsg (eVar 1) (gTupD 3 (gsCons (gSet 2) (gsCons (gSet 3) (gsCons (gSet 4) (gsNil)))))) (sSeq (sIf (e1 bOf (e2 neD (e1 lenD (eCons (eOwn 2) (cst []))) (eOwn 0))) (sRaise "BadSize") (sNil)) (sSeq (sFor (e1 seqD (e2 addD (eOwn 2) (eLst (e1 lim (eCons (eVar 3) (cst [])))))) (gSet 5) b_check_row_1) (sIf (e1 bOf (e2 nmemD (eOwn 4) (cst (.tuple [(.str "<"), (.str "<="), (.str "=")])))) (sRaise "BadSign") (sNil))))
noncomputable def m_check_row : List D → R SD := runD 2 6 c_check_row
noncomputable def b_check_block_1 : Ev → Out := sDrop (eCall m_check_row (eCons (eVar 1) (eCons (eVar 3) (cst []))))
noncomputable def c_check_block : Ev → Out := sSeq (sPar 1 2 (eCons (e2 ixD (eOwn 0) (cst (.int 1))) (eCons (e2 ixD (eOwn 0) (cst (.int 2))) (cst [])))) (sSeq (sIf (eOr (eNot (e1 truD (eCall m__law_is_whole (eCons (eVar 1) (cst []))))) (eOr (e1 bOf (e2 nmemD (eOwn 1) (e1 tupD (eCons (cst (.int 1)) (eCons (cst (.int 2)) (cst [])))))) (eNot (e1 bOf (eChain leD leD (cst (.int 1)) (e1 lenD (eCons (eOwn 2) (cst []))) (cst (.int 5))))))) (sRaise "BadSize") (sNil)) (sFor (e1 seqD (eVar 2)) (gSet 3) b_check_block_1))
noncomputable def m_check_block : List D → R SD := runD 1 4 c_check_block
noncomputable def b_check_part_1 (mf : List D → R SD) : Ev → Out := sDrop (eCall mf (eApp 2 1 (eCons (eVar 4) (eCons (e2 addD (eOwn 1) (cst (.int 1))) (cst []))) (eCons (eVar 2) (cst []))))
noncomputable def c_check_part (mf : List D → R SD) : Ev → Out := sSeq (sIf (e1 bOf (e2 gtD (eOwn 1) (cst (.int 6)))) (sRaise "TooDeep") (sNil)) (sSeq (sSet 3 (e2 ixD (eOwn 0) (cst (.int 0)))) (sSeq (sIf (eAnd (e1 truD (eOwn 2)) (eAnd (e1 bOf (e2 eqD (eOwn 3) (cst (.str "use")))) (e1 bOf (e2 eqD (e1 lenD (eCons (eOwn 0) (cst []))) (cst (.int 2)))))) (sRetN) (sNil)) (sSeq (sIf (eOr (e1 bOf (e1 (gInD ["sign", "some", "not", "and", "or"] ["sign", "some", "not", "and", "or", "wrong", "use", "Not"] true) (eOwn 3))) (e1 bOf (e2 neD (e1 lenD (eCons (eOwn 0) (cst []))) (eGSel ["sign", "some", "not", "and", "or"] [(.int 3), (.int 3), (.int 2), (.int 3), (.int 3)] (eVar 3))))) (sRaise "BadForm") (sNil)) (sIf (e1 bOf (e2 eqD (eOwn 3) (cst (.str "sign")))) (sSeq (sDrop (eCall m_check_polynomial (eApp 1 2 (eCons (e2 ixD (eOwn 0) (cst (.int 1))) (cst [])) (eCons (cst (.int 4)) (eCons (cst (.int 100)) (cst [])))))) (sIf (e1 bOf (e1 (gInD ["<", ">=", "<=", ">", "=", "!="] ["<", ">=", "<=", ">", "=", "!=", "==", "", "=<", "<>"] true) (e2 ixD (eOwn 0) (cst (.int 2))))) (sRaise "BadSign") (sNil))) (sIf (e1 bOf (e2 eqD (eOwn 3) (cst (.str "some")))) (sDrop (eCall m_check_block (eCons (eVar 0) (cst [])))) (sFor (e1 seqD (e3 sliceD (eOwn 0) (e1 intOf (cst (.int 1))) (pNo))) (gSet 4) (b_check_part_1 mf)))))))
noncomputable def m_check_part (n : Nat) : List D → R SD := Nat.rec (runD 3 5 fun _ => .bad) (fun _ mf => runD 3 5 (c_check_part mf)) n
theorem m_check_part_succ (n : Nat) : m_check_part (n + 1) = runD 3 5 (c_check_part (m_check_part n)) := rfl
noncomputable def c_depth_of (mf : List D → R SD) : Ev → Out := sSeq (sIf (e1 truD (eCall m_is_atom (eCons (eVar 0) (cst [])))) (sRet (cst (.int 0))) (sNil)) (sRet (e2 addD (cst (.int 1)) (e1 maxD (eCons (eLst (eComp [1] (e1 seqD (e3 sliceD (eOwn 0) (e1 intOf (cst (.int 1))) (pNo))) (gSet 1) (cst true) (eCall mf (eCons (eVar 1) (cst []))))) (cst [])))))
noncomputable def m_depth_of (n : Nat) : List D → R SD := Nat.rec (runD 1 2 fun _ => .bad) (fun _ mf => runD 1 2 (c_depth_of mf)) n
theorem m_depth_of_succ (n : Nat) : m_depth_of (n + 1) = runD 1 2 (c_depth_of (m_depth_of n)) := rfl
noncomputable def c_size_of : Ev → Out := sSeq (sSetO 1 (eComp [2] (e1 seqD (eCall (m_atoms_of 12) (eCons (eVar 0) (cst [])))) (gSet 2) (cst true) (e2 ixD (eOwn 2) (cst (.int 0))))) (sFz 1 (sRet (e1 tupD (eCons (eCnt (eOwn 1) (cst (.str "sign"))) (eCons (eCnt (eOwn 1) (cst (.str "some"))) (eCons (eCall (m_depth_of 12) (eCons (eVar 0) (cst []))) (cst [])))))))
noncomputable def m_size_of : List D → R SD := runD 1 3 c_size_of
noncomputable def c_check_formula : Ev → Out := sSeq (sDrop (eCall (m_check_part 12) (eDfl [(.bool false)] (eCons (eVar 0) (eCons (cst (.int 0)) (cst [])))))) (sSeq (sAsg (eCall m_size_of (eCons (eVar 0) (cst []))) (gTupD 3 (gsCons (gSet 1) (gsCons (gSet 2) (gsCons (gSet 3) (gsNil)))))) (sIf (eOr (e1 bOf (e2 gtD (eOwn 1) (cst (.int 6)))) (e1 bOf (e2 gtD (eOwn 2) (cst (.int 3))))) (sRaise "BadSize") (sNil)))
noncomputable def m_check_formula : List D → R SD := runD 1 4 c_check_formula
def RowSg (s : Str) : Prop := s = "<" ∨ s = "<=" ∨ s = "=" ∨ s = ">" ∨ s = "!=" ∨ s = "" ∨ s = "=="
def FRow (d : D) : Prop := ∃ cs c s, d = .tuple [.list cs, c, .str s] ∧ cs.length ≤ 9 ∧ (∀ p ∈ cs, PolyW p) ∧ PolyW c ∧ RowSg s
def MayV (d : D) : Prop := d = .int 0 ∨ d = .int 1 ∨ d = .int 2 ∨ d = .int 3 ∨ d = .bool true ∨ d = .none ∨ d = .str "1"
def sg3 (s : Str) : Str := if s = "<" ∨ s = "<=" ∨ s = "=" then "" else "BadSign"
def rowE (m : Int) : D → Str
  | .tuple [.list cs, c, .str s] => if (cs.length : Int) = m then (if fstE ((cs ++ [c]).map (polE 2 20)) = "" then sg3 s else fstE ((cs ++ [c]).map (polE 2 20))) else "BadSize"
  | _ => "bad"
def blkE (m : D) (rs : List D) : Str := match m with
  | .int z => if (z = 1 ∨ z = 2) ∧ 1 ≤ rs.length ∧ rs.length ≤ 5 then fstE (rs.map (rowE z)) else "BadSize"
  | _ => "BadSize"
def SgW (s : Str) : Prop := s = "<" ∨ s = "<=" ∨ s = "=" ∨ s = "!=" ∨ s = ">=" ∨ s = ">" ∨ s = "==" ∨ s = "" ∨ s = "=<" ∨ s = "<>"
def sgn6 (s : Str) : Str := if s = "<" ∨ s = "<=" ∨ s = "=" ∨ s = "!=" ∨ s = ">=" ∨ s = ">" then "" else "BadSign"
def sigE (p : D) (s : Str) : Str := if polE 4 100 p = "" then sgn6 s else polE 4 100 p
def okLen (w : Str) (n : Nat) : Bool := (decide (w = "sign") && decide (n = 3)) || (decide (w = "some") && decide (n = 3)) || (decide (w = "not") && decide (n = 2)) || (decide (w = "and") && decide (n = 3)) || (decide (w = "or") && decide (n = 3))
def W8 (w : Str) : Prop := w = "sign" ∨ w = "some" ∨ w = "not" ∨ w = "and" ∨ w = "or" ∨ w = "wrong" ∨ w = "use" ∨ w = "Not"
inductive Sp : D → Prop
  | other {w : Str} {xs : List D} : W8 w → okLen w (xs.length + 1) = false → xs.length ≤ 9 → Sp (.tuple (.str w :: xs))
  | sign {p : D} {s : Str} : PolyW p → SgW s → Sp (.tuple [.str "sign", p, .str s])
  | some {m : D} {rs : List D} : MayV m → rs.length ≤ 200 → (∀ r ∈ rs, FRow r) → Sp (.tuple [.str "some", m, .list rs])
  | no {f : D} : Sp f → Sp (.tuple [.str "not", f])
  | an {f g : D} : Sp f → Sp g → Sp (.tuple [.str "and", f, g])
  | or {f g : D} : Sp f → Sp g → Sp (.tuple [.str "or", f, g])
def dueF : Nat → D → Int → Str
  | 0, _, _ => ""
  | n + 1, d, k => if 6 < k then "TooDeep" else match d with
    | .tuple [.str w, m, .list rs] => if w = "some" then blkE m rs else "BadForm"
    | .tuple [.str w, p, .str s] => if w = "sign" then sigE p s else "BadForm"
    | .tuple [.str w, f, g] => if w = "and" ∨ w = "or" then fstE [dueF n f (k + 1), dueF n g (k + 1)] else "BadForm"
    | .tuple [.str w, f] => if w = "not" then fstE [dueF n f (k + 1)] else "BadForm"
    | _ => "BadForm"
theorem s3 : (3 : Nat) ≤ sizeLine := by decide
theorem s1' : (1 : Nat) ≤ sizeLine := by decide
theorem Sp.tup {d : D} (h : Sp d) : ∃ l, d = .tuple l := by cases h <;> exact ⟨_, rfl⟩
def kd : D → Str
  | .tuple (.str k :: _) => k
  | _ => ""
def kds (f : Fa) : List Str := (ats f).map kd
def big (f : Fa) : Prop := 6 < (kds f).count (Str.ofString "sign") ∨ 3 < (kds f).count (Str.ofString "some")
instance (f : Fa) : Decidable (big f) := by unfold big; infer_instance
end W

set_option Elab.async false
set_option linter.all false
set_option maxRecDepth 100000
set_option autoImplicit false
set_option maxHeartbeats 4000000
/-! Calls in an except suite. -/
namespace VL
open PySem PySem.Spec PyProof.Rows L2
section
variable {P : Program} {w : World} {K : Fg} {mg : Str → Option Value} {base : Heap}
/-- a def as it is called while an error is handled -/
structure ClH (P : Program) (w : World) (K : Fg) (mg : Str → Option Value) (base : Heap) (k : Nat) (x : Str) (ps : List Str) (m : List D → R SD) : Prop where
  ex : ∃ f fd, L2H.FnH P w K mg base (L2N.CX P w) k f fd ps (spD K mg ps.length m) ∧ (∀ ds, m ds ≠ .bad → ds.length = ps.length) ∧ mg x = some (.ref f) ∧ PySem.W.keepIn K (.ref f) = true ∧ Binds K fd ps []
theorem clH_ok {x : Str} {st : Stmt} {N ps : List Str} {k : Nat} {F : Ev → Out} (Fn : Df K mg x st ps) (S : FnScope N ps (defScope st))
    (body : ∀ (f : Addr) (cdv : Value) (A : Around) (outer : List Env) (s : Shared) (H : Hp) (E : XK) (p : Addr × Obj),
      VSs (L2H.cxH (L2N.CX P w) P w K mg base N x (defScope st) f cdv A outer s H E p) (fun cls d _ H => E cls d H) (defBody st) F) :
    ClH P w K mg base (k + 1) x ps (runD ps.length N.length F) := by
  obtain ⟨f, fd, h1, h2, h3⟩ := Fn.ex
  have kp := h1.kp
  obtain ⟨oc, od, kV, doc, pm, an, cdv, ct, osl, rfl, lk, hcd⟩ := h1.ex
  refine ⟨f, _, ?_, fun ds h => ?_, h2, kp, h3⟩
  · refine L2H.fn_ofH lk hcd S (fun vs H Q E h => h.1) fun A outer s H vs Q E p hot hr h => ⟨_, body f cdv A outer s H E p, ?_⟩
    obtain ⟨hl, Hs, ds, hs, hds, h⟩ := h
    refine ⟨Hs, ⟨H, fun _ => none⟩, Hs, _, startE_rel (by rw [hl]; exact VL.FnScope.le S) hs hds, ?_⟩
    unfold runD at h
    rw [if_pos (hds.length.trans hl)] at h
    show OutOk K mg _ Hs ⟨H, fun _ => none⟩ Hs _ (F (startE N.length ds))
    cases z : F (startE N.length ds) with
    | nx ρ =>
      rw [z] at h
      exact fun Hs' H' σ' g r => h Hs' H' .non r.ext' .non
    | rt r =>
      rw [z] at h
      exact fun Hs' H' v e hv => h Hs' H' v e hv
    | ex x ρ =>
      rw [z] at h
      exact fun Hs' H' σ' cls dd g r hx => h Hs' H' cls dd r.ext' hx
    | rtB r ρ => rw [z] at h; exact h.elim
    | bk ρ => rw [z] at h; exact h.elim
    | ct ρ => rw [z] at h; exact h.elim
    | bad => rw [z] at h; exact h.elim
  · unfold runD at h
    split at h
    · assumption
    · exact (h rfl).elim
end
section
variable {X : Cx} {W : WX} {e : Expr} {es : List Expr} {pos p : Pos} {x : Str} {fl : Ev → R (List D)} {k j : Nat} {ps : List Str} {m : List D → R SD}
theorem v_calCH (C : ClH X.prog X.w X.K X.mg X.base k x ps m) (hr : L2H.RoomH j X.A) (hc : L2H.HotC X) (tk : L2N.Takes X W) (ha : VA X W (e :: es) fl) (hg : Gl X x := by rfl) (hj : k ≤ j := by decide)
    (hdb : (x == ("__debug__" : Str)) = false := by decide) (he : starEach (e :: es) X.env = (false, eval e X.env) :: starEach es X.env := by rfl) (hpl : (backTo pos (starEach es X.env)).any (·.1) = false := by rfl) :
    VE X W (.Call (.Name x p) (e :: es) [] pos) (eCall m fl) := by
  obtain ⟨f, fd, h1, ar, h2, h3, h4⟩ := C.ex
  exact PE.imp (L2H.pe_callH h1 (hr.mono hj) hc hg h2 h3 h4 (L2N.passAt tk) ha hdb he hpl) (sim_call ar)
end
end VL
namespace VL
open PySem PySem.Spec PyProof.Rows L2
/-! ### a text, many times -/
section
variable {X : Cx}
end
end VL

set_option Elab.async false
set_option linter.all false
set_option maxRecDepth 100000
set_option autoImplicit false
set_option maxHeartbeats 4000000
namespace W
open PySem PySem.Spec PyProof.Rows L2 VL
open TL (tl spl spl_nil numL joinL)
noncomputable def b_rows_made_1 : Ev → Out := sSeq (sStarA 0 3 (e3 sliceD (eOwn 1) (e1 intOf (eVar 4)) (e1 intOf (e2 addD (eOwn 4) (eOwn 2)))) (gsCons (gSet 5) (gsCons (gSet 6) (gsCons (gSet 7) (gsNil))))) (sApp 3 (e1 tupD (eCons (eVar 5) (eCons (eVar 6) (eCons (eVar 7) (cst []))))))
noncomputable def c_rows_made : Ev → Out := sSeq (sSet 2 (e2 addD (eOwn 0) (cst (.int 2)))) (sSeq (sSetO 3 (e1 lim (cst []))) (sSeq (sFor (e1 range3D (eCons (cst (.int 0)) (eCons (e1 lenD (eCons (eOwn 1) (cst []))) (eCons (eOwn 2) (cst []))))) (gSet 4) b_rows_made_1) (sRetV 3)))
noncomputable def m_rows_made : List D → R SD := runD 2 8 c_rows_made
noncomputable def b_formula_made_1 : Ev → Out := sIf (eAnd (e1 bOf (e2 eqD (eOwn 2) (cst (.str "formula")))) (e1 bOf (e2 eqD (eOwn 3) (cst (.str "some"))))) (sSeq (yPar 4 5 (xCons (xPop 1) (xCons (xPop 1) (xl (cst []))))) (sSeq (ySetO 6 (xComp [7] (xl (e1 range1D (eCons (e2 mulD (e2 addD (eOwn 4) (cst (.int 2))) (eOwn 5)) (cst [])))) (gSet 7) (xl (cst true)) (xPop 1))) (sFz 6 (sApp 1 (e1 tupD (eCons (cst (.str "some")) (eCons (eVar 4) (eCons (eCall m_rows_made (eCons (eVar 4) (eCons (eVar 6) (cst [])))) (cst []))))))))) (sIf (e1 bOf (e2 eqD (eOwn 2) (cst (.str "formula")))) (yApp 1 (x1 tupD (xCons (xl (eVar 3)) (xCat (xComp [7] (xl (e1 seqD (eGSel ["sign", "some", "not", "and", "or"] [(.tuple [(.str "polynomial"), (.str "sign")]), (.tuple [(.str "many")]), (.tuple [(.str "formula")]), (.tuple [(.str "formula"), (.str "formula")]), (.tuple [(.str "formula"), (.str "formula")])] (eVar 3)))) (gSet 7) (xl (cst true)) (xPop 1)) (xl (cst [])))))) (sApp 1 (eVar 3)))
noncomputable def c_formula_made : Ev → Out := sSeq (sSetO 1 (e1 lim (cst []))) (sSeq (sFor (e1 seqD (eLst (e1 revO (eOwn 0)))) (gTupD 2 (gsCons (gSet 2) (gsCons (gSet 3) (gsNil)))) b_formula_made_1) (sRet (e2 ixD (eOwn 1) (cst (.int 0)))))
noncomputable def m_formula_made : List D → R SD := runD 1 8 c_formula_made
noncomputable def c_read_formula : Ev → Out := sSeq (sIf (e1 bOf (e2 eqD (eOwn 0) (cst (.str "")))) (sRaiseF "BadText" ["line", "column"] (eCons (cst (.int 1)) (eCons (cst (.int 1)) (cst [])))) (sNil)) (sSeq (sStarA 1 2 (eLst (eStr splitD (eOwn 0) (cst (.str "\n")))) (gsCons (gSet 1) (gsCons (gSet 2) (gsNil)))) (sSeq (sSet 3 (eCall m_read_line (eApp 1 1 (eCons (eVar 1) (cst [])) (eCons (e2 neD (eOwn 2) (eLst (e1 lim (cst [])))) (cst []))))) (sSeq (sIf (e1 bOf (e2 neD (eOwn 2) (eLst (e1 lim (eCons (cst (.str "")) (cst [])))))) (sRaiseF "BadText" ["line", "column"] (eCons (cst (.int 2)) (eCons (cst (.int 1)) (cst [])))) (sNil)) (sSeq (sSet 4 (eCall m_formula_made (eCons (eVar 3) (cst [])))) (sSeq (sDrop (eCall m_check_formula (eCons (eVar 4) (cst [])))) (sRet (eVar 4)))))))
noncomputable def m_read_formula : List D → R SD := runD 1 5 c_read_formula
/-! ### rows_made -/
/-! ### formula_made -/
def Ch (F : D → Ev → Out) : List D → Ev → Ev → Prop
  | [], ρ, ρ' => ρ' = ρ
  | d :: l, ρ, ρ' => ∃ ρ1, F d ρ = .nx ρ1 ∧ Ch F l ρ1 ρ'
theorem Ch.run {F : D → Ev → Out} : ∀ {l : List D} {ρ ρ' : Ev}, Ch F l ρ ρ' → forO F l ρ = .nx ρ'
  | [], ρ, ρ', h => by rw [show ρ' = ρ from h]; rfl
  | d :: l, ρ, ρ', ⟨ρ1, h, g⟩ => by rw [forO, h]; exact g.run
noncomputable def FF : D → Ev → Out := gTo (gTupD 2 (gsCons (gSet 2) (gsCons (gSet 3) (gsNil)))) b_formula_made_1
def StF (x0 : SD) (S : List D) (ρ : Ev) : Prop := ∃ y2 y3 y4 y5 y6 y7, ρ = [x0, .ow S, y2, y3, y4, y5, y6, y7]
/-- the loop turns the stack S into S' -/
def Chs (x0 : SD) (l : List (Kd × Vl)) (S S' : List D) : Prop := ∀ ρ, StF x0 S ρ → ∃ ρ', Ch FF (l.map fD) ρ ρ' ∧ StF x0 S' ρ'
theorem Chs.nil {x0 : SD} {S : List D} : Chs x0 [] S S := fun ρ h => ⟨ρ, rfl, h⟩
theorem wSome_eq : ("some" : Str) = mk wSome := by decide +kernel
/-! ### the kinds and values of a formula -/
def kvR (r : Row) : List (Kd × Vl) := (r.ps ++ [r.q]).map (fun p => (Kd.poly, Vl.po p)) ++ [(Kd.rsign, Vl.tx (tl r.s))]
def kvF : Fm → List (Kd × Vl)
  | .sg p s => [(.formula, .tx wSign), (.poly, .po p), (.sign, .tx (tl s))]
  | .bl m rs => (.formula, .tx wSome) :: (.many, .nu m) :: (.rows (decide (m = 2)), .nu rs.length) :: rs.flatMap kvR
  | .no f => (.formula, .tx wNot) :: kvF f
  | .an f g => (.formula, .tx wAnd) :: (kvF f ++ kvF g)
  | .or f g => (.formula, .tx wOr) :: (kvF f ++ kvF g)
structure RowS (m : Nat) (r : Row) : Prop where
  len : r.ps.length = m
  ps : ∀ p ∈ r.ps ++ [r.q], PW p ∧ p.getLast? ≠ some 0
  s : tl r.s ∈ SG3
def FmS : Fm → Prop
  | .sg p s => (PW p ∧ p.getLast? ≠ some 0) ∧ tl s ∈ SG6
  | .bl m rs => 1 ≤ m ∧ m ≤ 2 ∧ 1 ≤ rs.length ∧ rs.length ≤ 5 ∧ ∀ r ∈ rs, RowS m r
  | .no f => FmS f
  | .an f g => FmS f ∧ FmS g
  | .or f g => FmS f ∧ FmS g
/-! ### the words of a formula -/
def wR (r : Row) : List (List Nat) := (r.ps ++ [r.q]).map pwl ++ [tl r.s]
def wF : Fm → List (List Nat)
  | .sg p s => [wSign, pwl p, tl s]
  | .bl m rs => wSome :: numL m :: numL rs.length :: rs.flatMap wR
  | .no f => wNot :: wF f
  | .an f g => wAnd :: (wF f ++ wF g)
  | .or f g => wOr :: (wF f ++ wF g)
def lenW (l : List (List Nat)) : Int := ((l.map (fun w => w.length + 1)).sum : Nat)
theorem lenW_cons (w : List Nat) (l : List (List Nat)) : lenW (w :: l) = w.length + 1 + lenW l := by unfold lenW; simp
theorem lenW_app (a b : List (List Nat)) : lenW (a ++ b) = lenW a + lenW b := by unfold lenW; simp
theorem rl_one {k : Kd} {w : List Nat} {v : Vl} {c : Int} {ws : List (List Nat)} {due : List Kd} {acc : List (Kd × Vl)} (h : vo k w = some v) : rl (cols c (w :: ws)) (k :: due) acc = rl (cols (c + w.length + 1) ws) (bh k v ++ due) (acc ++ [(k, v)]) := by
  show (match vo k w with | none => RL.bad c | some v => rl (cols (c + w.length + 1) ws) (bh k v ++ due) (acc ++ [(k, v)])) = _
  rw [h]
theorem rl_list : ∀ (l : List (Kd × List Nat × Vl)) (c : Int) (ws : List (List Nat)) (due : List Kd) (acc : List (Kd × Vl)), (∀ x ∈ l, vo x.1 x.2.1 = some x.2.2 ∧ bh x.1 x.2.2 = []) →
    rl (cols c (l.map (fun x => x.2.1) ++ ws)) (l.map (fun x => x.1) ++ due) acc = rl (cols (c + lenW (l.map fun x => x.2.1)) ws) due (acc ++ l.map fun x => (x.1, x.2.2))
  | [], c, ws, due, acc, _ => by simp [lenW]
  | (k, w, v) :: l, c, ws, due, acc, h => by
    obtain ⟨h1, h2⟩ := h (k, w, v) (by simp)
    have ih := rl_list l (c + w.length + 1) ws due (acc ++ [(k, v)]) fun x hx => h x (by simp [hx])
    simp only [List.map_cons, List.cons_append]
    rw [rl_one h1]
    simp only at h2
    rw [h2, List.nil_append, ih, lenW_cons, List.append_assoc]
    congr 2
    omega
def tR (r : Row) : List (Kd × List Nat × Vl) := (r.ps ++ [r.q]).map (fun p => (Kd.poly, pwl p, Vl.po p)) ++ [(Kd.rsign, tl r.s, Vl.tx (tl r.s))]
theorem vo_poly {p : List Int} (h : PW p ∧ p.getLast? ≠ some 0) : vo .poly (pwl p) = some (.po p) := by
  show (RP (pwl p)).map Vl.po = _
  rw [RP_pwl h.1 h.2]; rfl
theorem tR_ok {m : Nat} {r : Row} (h : RowS m r) : ∀ x ∈ tR r, vo x.1 x.2.1 = some x.2.2 ∧ bh x.1 x.2.2 = [] := fun x hx => by
  rcases List.mem_append.mp hx with hx | hx
  · obtain ⟨p, hp, rfl⟩ := List.mem_map.mp hx
    exact ⟨vo_poly (h.ps p hp), rfl⟩
  · rw [List.mem_singleton.mp hx]
    exact ⟨if_pos h.s, rfl⟩
theorem tR_k {m : Nat} {r : Row} (h1 : 1 ≤ m) (h2 : m ≤ 2) (h : RowS m r) : (tR r).map (fun x => x.1) = rowK (decide (m = 2)) := by
  have hl := h.len
  have : m = 1 ∨ m = 2 := by omega
  unfold tR
  rcases this with rfl | rfl
  · match r.ps, hl with
    | [a], _ => rfl
  · match r.ps, hl with
    | [a, b], _ => rfl
theorem tRs_k {m : Nat} (h1 : 1 ≤ m) (h2 : m ≤ 2) : ∀ {rs : List Row}, (∀ r ∈ rs, RowS m r) → (rs.flatMap tR).map (fun x => x.1) = (List.replicate rs.length (rowK (decide (m = 2)))).flatten
  | [], _ => rfl
  | r :: rs, h => by
    rw [List.flatMap_cons, List.map_append, tR_k h1 h2 (h r (by simp)), tRs_k h1 h2 (rs := rs) fun x hx => h x (by simp [hx])]
    rfl
theorem tRs_w (rs : List Row) : (rs.flatMap tR).map (fun x => x.2.1) = rs.flatMap wR := by
  rw [List.map_flatMap]
  congr 1
  funext r
  simp [tR, wR, Function.comp_def]
theorem tRs_v (rs : List Row) : (rs.flatMap tR).map (fun x => (x.1, x.2.2)) = rs.flatMap kvR := by
  rw [List.map_flatMap]
  congr 1
  funext r
  simp [tR, kvR, Function.comp_def]
theorem vo_many {m : Nat} (h1 : 1 ≤ m) (h2 : m ≤ 2) : vo .many (numL m) = some (.nu m) := by
  have : m = 1 ∨ m = 2 := by omega
  rcases this with rfl | rfl <;> decide +kernel
theorem vo_rows {n : Nat} (b : Bool) (h1 : 1 ≤ n) (h2 : n ≤ 5) : vo (.rows b) (numL n) = some (.nu n) := by
  have : n = 1 ∨ n = 2 ∨ n = 3 ∨ n = 4 ∨ n = 5 := by omega
  show (cnt (numL n) 5).map Vl.nu = _
  rcases this with rfl | rfl | rfl | rfl | rfl <;> decide +kernel
theorem rl_fm : ∀ (f : Fm) (c : Int) (ws : List (List Nat)) (due : List Kd) (acc : List (Kd × Vl)), FmS f → rl (cols c (wF f ++ ws)) (.formula :: due) acc = rl (cols (c + lenW (wF f)) ws) due (acc ++ kvF f)
  | .sg p s, c, ws, due, acc, h => by
    have g : ∀ x ∈ [((.poly, pwl p, .po p) : Kd × List Nat × Vl), (.sign, tl s, .tx (tl s))], vo x.1 x.2.1 = some x.2.2 ∧ bh x.1 x.2.2 = [] := fun x hx => by
      simp at hx
      rcases hx with rfl | rfl
      · exact ⟨vo_poly h.1, rfl⟩
      · exact ⟨if_pos h.2, rfl⟩
    have a := rl_list [((.poly, pwl p, .po p) : Kd × List Nat × Vl), (.sign, tl s, .tx (tl s))] (c + wSign.length + 1) ws due (acc ++ [(.formula, .tx wSign)]) g
    show rl (cols c (wSign :: ([pwl p, tl s] ++ ws))) _ _ = _
    rw [rl_one (v := .tx wSign) rfl]
    refine a.trans ?_
    show rl (cols (c + wSign.length + 1 + lenW [pwl p, tl s]) ws) due (acc ++ [(.formula, .tx wSign)] ++ [(.poly, .po p), (.sign, .tx (tl s))]) = rl (cols (c + lenW (wSign :: [pwl p, tl s])) ws) due (acc ++ kvF (.sg p s))
    rw [lenW_cons wSign, List.append_assoc]
    have : c + wSign.length + 1 + lenW [pwl p, tl s] = c + (wSign.length + 1 + lenW [pwl p, tl s]) := by omega
    rw [this]; rfl
  | .bl m rs, c, ws, due, acc, h => by
    obtain ⟨m1, m2, r1, r5, hr⟩ := h
    have g : ∀ x ∈ rs.flatMap tR, vo x.1 x.2.1 = some x.2.2 ∧ bh x.1 x.2.2 = [] := fun x hx => by
      obtain ⟨r, hr', hx⟩ := List.mem_flatMap.mp hx
      exact tR_ok (hr r hr') x hx
    have a := rl_list (rs.flatMap tR) (c + wSome.length + 1 + (numL m).length + 1 + (numL rs.length).length + 1) ws due (acc ++ [(.formula, .tx wSome)] ++ [(.many, .nu m)] ++ [(.rows (decide (m = 2)), .nu rs.length)]) g
    rw [tRs_w, tRs_k m1 m2 hr, tRs_v] at a
    show rl (cols c (wSome :: (numL m :: numL rs.length :: (rs.flatMap wR ++ ws)))) _ _ = _
    rw [rl_one (v := .tx wSome) rfl]
    show rl (cols _ (numL m :: numL rs.length :: (rs.flatMap wR ++ ws))) (.many :: due) _ = _
    rw [rl_one (vo_many m1 m2)]
    show rl (cols _ (numL rs.length :: (rs.flatMap wR ++ ws))) (.rows (decide (m = 2)) :: due) _ = _
    rw [rl_one (vo_rows _ r1 r5)]
    refine a.trans ?_
    have : c + wSome.length + 1 + (numL m).length + 1 + (numL rs.length).length + 1 + lenW (rs.flatMap wR) = c + lenW (wF (.bl m rs)) := by
      simp only [wF, lenW_cons]; omega
    rw [this]
    simp [kvF]
  | .no f, c, ws, due, acc, h => by
    show rl (cols c (wNot :: (wF f ++ ws))) _ _ = _
    rw [rl_one (v := .tx wNot) rfl]
    show rl (cols _ (wF f ++ ws)) (.formula :: due) _ = _
    rw [rl_fm f _ _ _ _ h]
    have : c + wNot.length + 1 + lenW (wF f) = c + lenW (wF (.no f)) := by simp only [wF, lenW_cons]; omega
    rw [this]
    simp [kvF]
  | .an f g, c, ws, due, acc, h => by
    show rl (cols c (wAnd :: (wF f ++ wF g ++ ws))) _ _ = _
    rw [rl_one (v := .tx wAnd) rfl, List.append_assoc]
    show rl (cols _ (wF f ++ (wF g ++ ws))) (.formula :: .formula :: due) _ = _
    rw [rl_fm f _ _ _ _ h.1, rl_fm g _ _ _ _ h.2]
    have : c + wAnd.length + 1 + lenW (wF f) + lenW (wF g) = c + lenW (wF (.an f g)) := by simp only [wF, lenW_cons, lenW_app]; omega
    rw [this]
    simp [kvF]
  | .or f g, c, ws, due, acc, h => by
    show rl (cols c (wOr :: (wF f ++ wF g ++ ws))) _ _ = _
    rw [rl_one (v := .tx wOr) rfl, List.append_assoc]
    show rl (cols _ (wF f ++ (wF g ++ ws))) (.formula :: .formula :: due) _ = _
    rw [rl_fm f _ _ _ _ h.1, rl_fm g _ _ _ _ h.2]
    have : c + wOr.length + 1 + lenW (wF f) + lenW (wF g) = c + lenW (wF (.or f g)) := by simp only [wF, lenW_cons, lenW_app]; omega
    rw [this]
    simp [kvF]
/-! ### reading what is written -/
def wOkc (w : List Nat) : Prop := 32 ∉ w ∧ 10 ∉ w ∧ w.length ≤ 200
theorem joinL_mem {x t : Nat} : ∀ {l : List (List Nat)}, x ∈ joinL [t] l → x = t ∨ ∃ w ∈ l, x ∈ w
  | [], h => by simp [joinL] at h
  | [p], h => .inr ⟨p, by simp, h⟩
  | p :: q :: r, h => by
    rcases List.mem_append.mp (show x ∈ p ++ ([t] ++ joinL [t] (q :: r)) from h) with h | h
    · exact .inr ⟨p, by simp, h⟩
    · rcases List.mem_append.mp h with h | h
      · exact .inl (List.mem_singleton.mp h)
      · rcases joinL_mem h with h | ⟨w, hw, hx⟩
        · exact .inl h
        · exact .inr ⟨w, List.mem_cons_of_mem _ hw, hx⟩
theorem wOk_poly {p : List Int} (h : PW p) : wOkc (pwl p) := by
  have l := pw_len h
  rw [pw_mk, mk_len] at l
  refine ⟨?_, ?_, l⟩
  all_goals
    intro hm
    unfold pwl at hm
    by_cases hp : p = []
    · rw [if_pos hp] at hm; simp at hm
    · rw [if_neg hp] at hm
      rcases joinL_mem hm with z | ⟨w, hw, hx⟩
      · cases z
      · obtain ⟨c, hc, rfl⟩ := List.mem_map.mp hw
        exact dg_ne ((txl_ok (h.sz c hc).1 (h.sz c hc).2).ok _ hx) (by omega) rfl
theorem wOk_num {n : Nat} (h : n ≤ 9) : wOkc (numL n) := by
  have : ∀ n < 10, 32 ∉ numL n ∧ 10 ∉ numL n ∧ (numL n).length ≤ 200 := by decide +kernel
  exact this n (by omega)
theorem wOk_s6 {s : List Nat} (h : s ∈ SG6) : wOkc s := by
  have : ∀ s ∈ SG6, 32 ∉ s ∧ 10 ∉ s ∧ s.length ≤ 200 := by decide
  exact this s h
theorem wOk_s3 {s : List Nat} (h : s ∈ SG3) : wOkc s := by
  have : ∀ s ∈ SG3, 32 ∉ s ∧ 10 ∉ s ∧ s.length ≤ 200 := by decide
  exact this s h
theorem wOk_5 {s : List Nat} (h : s ∈ WF5) : wOkc s := by
  have : ∀ s ∈ WF5, 32 ∉ s ∧ 10 ∉ s ∧ s.length ≤ 200 := by decide
  exact this s h
theorem wOk_F : ∀ (f : Fm), FmS f → ∀ w ∈ wF f, wOkc w
  | .sg p s, h, w, hw => by
    simp only [wF, List.mem_cons, List.not_mem_nil, or_false] at hw
    rcases hw with rfl | rfl | rfl
    · exact wOk_5 (by decide)
    · exact wOk_poly h.1.1
    · exact wOk_s6 h.2
  | .bl m rs, h, w, hw => by
    obtain ⟨m1, m2, r1, r5, hr⟩ := h
    simp only [wF, List.mem_cons] at hw
    rcases hw with rfl | rfl | rfl | hw
    · exact wOk_5 (by decide)
    · exact wOk_num (by omega)
    · exact wOk_num (by omega)
    · obtain ⟨r, hr', hw⟩ := List.mem_flatMap.mp hw
      rcases List.mem_append.mp hw with hw | hw
      · obtain ⟨p, hp, rfl⟩ := List.mem_map.mp hw
        exact wOk_poly ((hr r hr').ps p hp).1
      · rw [List.mem_singleton.mp hw]; exact wOk_s3 (hr r hr').s
  | .no f, h, w, hw => by
    rcases List.mem_cons.mp hw with rfl | hw
    · exact wOk_5 (by decide)
    · exact wOk_F f h w hw
  | .an f g, h, w, hw => by
    rcases List.mem_cons.mp hw with rfl | hw
    · exact wOk_5 (by decide)
    · rcases List.mem_append.mp hw with hw | hw
      · exact wOk_F f h.1 w hw
      · exact wOk_F g h.2 w hw
  | .or f g, h, w, hw => by
    rcases List.mem_cons.mp hw with rfl | hw
    · exact wOk_5 (by decide)
    · rcases List.mem_append.mp hw with hw | hw
      · exact wOk_F f h.1 w hw
      · exact wOk_F g h.2 w hw
theorem wF_ne (f : Fm) : wF f ≠ [] := by cases f <;> simp [wF]
def lineF (f : Fm) : List Nat := joinL [32] (wF f)
theorem wds_line {f : Fm} (h : FmS f) : wds (lineF f) = wF f := TL.spl_join (wF_ne f) fun w hw => (wOk_F f h w hw).1
theorem joinL_len {t B : Nat} : ∀ (l : List (List Nat)), (∀ w ∈ l, w.length ≤ B) → (joinL [t] l).length ≤ l.length * (B + 1)
  | [], _ => by simp [joinL]
  | [p], h => by have := h p (by simp); simp [joinL]; omega
  | p :: q :: r, h => by
    have a := h p (by simp)
    have b := joinL_len (t := t) (B := B) (q :: r) fun w hw => h w (by simp [hw])
    show (p ++ ([t] ++ joinL [t] (q :: r))).length ≤ _
    rw [List.length_append, List.length_append, List.length_singleton, List.length_cons, Nat.succ_mul]
    omega
theorem rl_line {f : Fm} (h : FmS f) : rl (cols 1 (wds (lineF f))) [.formula] [] = .ok [] (kvF f) := by
  have a := rl_fm f 1 [] [] [] h
  rw [List.append_nil, List.nil_append] at a
  rw [wds_line h, a]; rfl
theorem spl_last10 : ∀ (l acc : List Nat), 10 ∉ l → spl [10] 0 acc (l ++ [10]) = [acc ++ l, []]
  | [], acc, _ => by rw [List.nil_append, spl_c, if_pos rfl, TL.spl_nil, List.append_nil]
  | c :: l, acc, h => by
    rw [List.cons_append, spl_c, if_neg (fun z => h (by simp [z])), spl_last10 l _ (fun z => h (by simp [z]))]
    simp
end W

set_option Elab.async false
set_option linter.all false
set_option maxRecDepth 100000
set_option autoImplicit false
namespace W
open PySem PySem.Spec PyProof.Rows L2 VL
noncomputable def b__law_poly_k10_1 : Ev → Out := sSeq (ySet 5 (x1 intD (xCons (xCallB m__law_take 0 (xHere 0 (xl (cst [])))) (xl (cst []))))) (sIf (e1 bOf (e2 eqD (e2 modD (e1 intD (eCons (eOwn 5) (cst []))) (cst (.int 7))) (cst (.int 0)))) (sApp 3 (e2 ixD (eLst (e1 lim (eCons (e2 subD (eOwn 2) (cst (.int 1))) (eCons (e2 subD (cst (.int 1)) (eOwn 2)) (cst []))))) (e2 modD (e1 intD (eCons (e2 fdivD (eOwn 5) (cst (.int 7))) (cst []))) (cst (.int 2))))) (sIf (e1 bOf (e2 eqD (e2 modD (e1 intD (eCons (eOwn 5) (cst []))) (cst (.int 7))) (cst (.int 6)))) (sApp 3 (e2 addD (e2 subD (e2 modD (e1 intD (eCons (eOwn 5) (cst []))) (e2 subD (e2 mulD (cst (.int 2)) (eOwn 2)) (cst (.int 1)))) (eOwn 2)) (cst (.int 1)))) (sApp 3 (e2 subD (e2 modD (e1 intD (eCons (e2 fdivD (eOwn 5) (cst (.int 7))) (cst []))) (cst (.int 9))) (cst (.int 4))))))
noncomputable def b__law_poly_k10_2 : Ev → Out := sSeq (sIf (eAnd (e1 bOf (e2 gtD (e1 lenD (eCons (eOwn 3) (cst []))) (cst (.int 0)))) (e1 bOf (e2 eqD (e2 ixD (eOwn 3) (e2 subD (e1 lenD (eCons (eOwn 3) (cst []))) (cst (.int 1)))) (cst (.int 0))))) (sStore 3 (e2 subD (e1 lenD (eCons (eOwn 3) (cst []))) (cst (.int 1))) (cst (.int 1))) (sNil)) (yRetVB 3)
noncomputable def c__law_poly_k10 : Ev → Out := sSeq (sSetO 3 (e1 lim (cst []))) (sSeq (yFor (x1 range1D (xCons (x2 modD (x1 intD (xCons (xCallB m__law_take 0 (xHere 0 (xl (cst [])))) (xl (cst [])))) (xl (e2 addD (eOwn 1) (cst (.int 2))))) (xl (cst [])))) (gSet 4) b__law_poly_k10_1) (b__law_poly_k10_2))
noncomputable def m__law_poly_k10 : List D → List D → RB := runB 3 6 0 c__law_poly_k10
noncomputable def c__law_sign_atom_k10 : Ev → Out := sSeq (ySet 1 (x2 ixD (xl (eLst (e1 lim (eCons (cst (.str "<")) (eCons (cst (.str "<=")) (eCons (cst (.str "=")) (eCons (cst (.str "!=")) (eCons (cst (.str ">=")) (eCons (cst (.str ">")) (cst [])))))))))) (x2 modD (x1 intD (xCons (xCallB m__law_take 0 (xHere 0 (xl (cst [])))) (xl (cst [])))) (xl (cst (.int 6)))))) (yRetB (x1 tupD (xCons (xl (cst (.str "sign"))) (xCons (xCallB m__law_poly_k10 0 (xHere 0 (xCons (xl (cst (.int 4))) (xCons (xl (cst (.int 100))) (xl (cst [])))))) (xCons (xl (eVar 1)) (xl (cst [])))))))
noncomputable def m__law_sign_atom_k10 : List D → List D → RB := runB 1 2 0 c__law_sign_atom_k10
noncomputable def b__law_block_k10_1 : Ev → Out := sSeq (ySetO 4 (xComp [5] (xl (e1 range1D (eCons (eOwn 1) (cst [])))) (gSet 5) (xl (cst true)) (xCallB m__law_poly_k10 0 (xHere 0 (xCons (xl (cst (.int 2))) (xCons (xl (cst (.int 20))) (xl (cst [])))))))) (sFz 4 (yApp 2 (x1 tupD (xCons (xl (eVar 4)) (xCons (xCallB m__law_poly_k10 0 (xHere 0 (xCons (xl (cst (.int 2))) (xCons (xl (cst (.int 20))) (xl (cst [])))))) (xCons (x2 ixD (xl (eLst (e1 lim (eCons (cst (.str "<")) (eCons (cst (.str "<=")) (eCons (cst (.str "=")) (cst []))))))) (x2 modD (x1 intD (xCons (xCallB m__law_take 0 (xHere 0 (xl (cst [])))) (xl (cst [])))) (xl (cst (.int 3))))) (xl (cst []))))))))
noncomputable def c__law_block_k10 : Ev → Out := sSeq (ySet 1 (x2 addD (xl (cst (.int 1))) (x2 modD (x1 intD (xCons (xCallB m__law_take 0 (xHere 0 (xl (cst [])))) (xl (cst [])))) (xl (cst (.int 2)))))) (sSeq (sSetO 2 (e1 lim (cst []))) (sSeq (yFor (x1 range1D (xCons (x2 addD (xl (cst (.int 1))) (x2 modD (x1 intD (xCons (xCallB m__law_take 0 (xHere 0 (xl (cst [])))) (xl (cst [])))) (xl (cst (.int 5))))) (xl (cst [])))) (gSet 3) b__law_block_k10_1) (sFz 2 (yRetB (xl (e1 tupD (eCons (cst (.str "some")) (eCons (eVar 1) (eCons (eVar 2) (cst []))))))))))
noncomputable def m__law_block_k10 : List D → List D → RB := runB 1 6 0 c__law_block_k10
noncomputable def c__law_formula_k10 (mf : List D → List D → List D → RC) : Ev → Out := sSeq (ySet 3 (x1 intD (xCons (xCallB m__law_take 0 (xHere 0 (xl (cst [])))) (xl (cst []))))) (sSeq (sSet 4 (e2 modD (e1 intD (eCons (eOwn 3) (cst []))) (cst (.int 6)))) (sSeq (sIf (eOr (e1 bOf (e2 eqD (eOwn 2) (cst (.int 0)))) (e1 bOf (e2 ltD (eOwn 4) (cst (.int 2))))) (sSeq (sIf (eOr (e1 bOf (e2 eqD (e2 ixD (eOwn 1) (cst (.int 0))) (cst (.int 0)))) (eAnd (e1 bOf (e2 eqD (e2 modD (e1 intD (eCons (e2 fdivD (eOwn 3) (cst (.int 6))) (cst []))) (cst (.int 3))) (cst (.int 0)))) (e1 bOf (e2 gtD (e2 ixD (eOwn 1) (cst (.int 1))) (cst (.int 0)))))) (sSeq (yStore 1 (xl (cst (.int 1))) (xl (e2 subD (e2 ixD (eOwn 1) (cst (.int 1))) (cst (.int 1))))) (yRetB (xCallB m__law_block_k10 0 (xHere 0 (xl (cst [])))))) (sNil)) (sSeq (yStore 1 (xl (cst (.int 0))) (xl (e2 subD (e2 ixD (eOwn 1) (cst (.int 0))) (cst (.int 1))))) (yRetB (xCallB m__law_sign_atom_k10 0 (xHere 0 (xl (cst []))))))) (sNil)) (sSeq (sIf (e1 bOf (e2 ltD (eOwn 4) (cst (.int 4)))) (yRetB (x1 tupD (xCons (xl (cst (.str "not"))) (xCons (xCallC mf 0 1 (xCons (xl (e2 subD (eOwn 2) (cst (.int 1)))) (xl (cst [])))) (xl (cst [])))))) (sNil)) (sSeq (ySet 5 (xCallC mf 0 1 (xCons (xl (e2 subD (eOwn 2) (cst (.int 1)))) (xl (cst []))))) (yRetB (x1 tupD (xCons (xl (e2 ixD (eLst (e1 lim (eCons (cst (.str "and")) (eCons (cst (.str "or")) (cst []))))) (e2 subD (eOwn 4) (cst (.int 4))))) (xCons (xl (eVar 5)) (xCons (xCallC mf 0 1 (xCons (xl (e2 subD (eOwn 2) (cst (.int 1)))) (xl (cst [])))) (xl (cst [])))))))))))
noncomputable def m__law_formula_k10 (n : Nat) : List D → List D → List D → RC := Nat.rec (runC 3 6 fun _ => .bad) (fun _ mf => runC 3 6 (c__law_formula_k10 mf)) n
theorem m__law_formula_k10_succ (n : Nat) : m__law_formula_k10 (n + 1) = runC 3 6 (c__law_formula_k10 (m__law_formula_k10 n)) := rfl
end W

set_option Elab.async false
set_option linter.all false
set_option maxRecDepth 100000
set_option autoImplicit false
set_option maxHeartbeats 4000000
namespace W
open PySem PySem.Spec PyProof.Rows L2 VL
open TL (tl spl joinL numL)
/-! ### drawn formulas with their bounds (the proofs are those of PFb, with sharper bounds) -/
structure PB (b : Int) (n : Nat) (p : List Int) : Prop where
  sz : ∀ c ∈ p, -b < c ∧ c < b
  len : p.length ≤ n
def PSb (z b : Int) (n : Nat) (ρ : Ev) : Prop := ∃ (L : List D) (p : List Int) (y4 y5 : SD), ρ = [.bo L, .sh (.int z), .sh (.int b), .ow (p.map .int), y4, y5] ∧ PD L ∧ PB b n p
structure RB (m : Nat) (r : Row) : Prop where
  len : r.ps.length = m
  ps : ∀ p ∈ r.ps, PB 20 3 p ∧ Tr p
  q : PB 20 3 r.q ∧ Tr r.q
  s : r.s = "<" ∨ r.s = "<=" ∨ r.s = "="
def BSb (m : Nat) (n : Nat) (ρ : Ev) : Prop := ∃ (L : List D) (rs : List Row) (y3 y4 : SD), ρ = [.bo L, .sh (.int (m : Int)), .ow (rs.map rowD), y3, y4, .no] ∧ PD L ∧ rs.length = n ∧ ∀ r ∈ rs, RB m r
def FmX : Fm → Prop
  | .sg p s => PB 100 5 p ∧ Tr p ∧ SgX s
  | .bl m rs => 1 ≤ m ∧ m ≤ 2 ∧ 1 ≤ rs.length ∧ rs.length ≤ 5 ∧ ∀ r ∈ rs, RB m r
  | .no f => FmX f
  | .an f g => FmX f ∧ FmX g
  | .or f g => FmX f ∧ FmX g
/-- how many sign atoms, how many blocks -/
def nS : Fm → Nat
  | .sg _ _ => 1
  | .bl _ _ => 0
  | .no f => nS f
  | .an f g => nS f + nS g
  | .or f g => nS f + nS g
def nB : Fm → Nat
  | .sg _ _ => 0
  | .bl _ _ => 1
  | .no f => nB f
  | .an f g => nB f + nB g
  | .or f g => nB f + nB g
def IvB (a b : Int) : Prop := 0 ≤ a ∧ (0 ≤ b ∨ a = 0)
theorem poly_step10b {z b : Int} {n : Nat} {d : D} {ρ : Ev} (hn : n ≤ 100) (b0 : 5 ≤ b) (b1 : b ≤ 100) (h : PSb z b n ρ) : ∃ ρ', gTo (gSet 4) b__law_poly_k10_1 d ρ = .nx ρ' ∧ PSb z b (n + 1) ρ' := by
  obtain ⟨L, p, y4, y5, rfl, hL, hp⟩ := h
  obtain ⟨L1, v, u1, h1, v0, v1⟩ := take_ok hL
  have hl := hp.len
  have fl : p.length < sizeLine := Nat.lt_of_lt_of_le (by omega : p.length < 101) (by decide)
  have fd : fdivD (.int v) (.int 7) = some (.int (v.fdiv 7)) := r_fdivS (by decide) (by decide) (by decide)
  by_cases hv : v.fmod 7 = 0
  · obtain ⟨m0, m1⟩ := fmod_rng (a := v.fdiv 7) (b := 2) (by decide)
    have : (v.fdiv 7).fmod 2 = 0 ∨ (v.fdiv 7).fmod 2 = 1 := by omega
    rcases this with hm | hm
    · refine ⟨[.bo L1, .sh (.int z), .sh (.int b), .ow ((p ++ [b - 1]).map .int), .sh d, .sh (.int v)], ?_, L1, p ++ [b - 1], _, _, rfl, h1, fun c hc => ?_, by simp; omega⟩
      · have ix : ixD (.list [.int (b - 1), .int (1 - b)]) (.int 0) = some (.int (b - 1)) := by rw [r_ix_l]; exact r_at 0
        simp [b__law_poly_k10_1, u1, hv, fd, hm, ix, onOw, fl, -r_ix_l]
      · rcases List.mem_append.mp hc with hc | hc
        · exact hp.sz c hc
        · simp at hc; omega
    · refine ⟨[.bo L1, .sh (.int z), .sh (.int b), .ow ((p ++ [1 - b]).map .int), .sh d, .sh (.int v)], ?_, L1, p ++ [1 - b], _, _, rfl, h1, fun c hc => ?_, by simp; omega⟩
      · have ix : ixD (.list [.int (b - 1), .int (1 - b)]) (.int 1) = some (.int (1 - b)) := by rw [r_ix_l]; exact r_at 1
        simp [b__law_poly_k10_1, u1, hv, fd, hm, ix, onOw, fl, -r_ix_l]
      · rcases List.mem_append.mp hc with hc | hc
        · exact hp.sz c hc
        · simp at hc; omega
  · by_cases hv6 : v.fmod 7 = 6
    · obtain ⟨m0, m1⟩ := fmod_rng (a := v) (b := 2 * b - 1) (by omega)
      have mb : mulD (.int 2) (.int b) = some (.int (2 * b)) := r_mulS (by decide) (by decide) (by omega) (by omega)
      have nz : ¬ (2 * b - 1 = 0) := by omega
      refine ⟨[.bo L1, .sh (.int z), .sh (.int b), .ow ((p ++ [v.fmod (2 * b - 1) - b + 1]).map .int), .sh d, .sh (.int v)], ?_, L1, p ++ [v.fmod (2 * b - 1) - b + 1], _, _, rfl, h1, fun c hc => ?_, by simp; omega⟩
      · simp [b__law_poly_k10_1, u1, hv6, mb, nz, onOw, fl]
      · rcases List.mem_append.mp hc with hc | hc
        · exact hp.sz c hc
        · simp at hc; omega
    · obtain ⟨m0, m1⟩ := fmod_rng (a := v.fdiv 7) (b := 9) (by decide)
      refine ⟨[.bo L1, .sh (.int z), .sh (.int b), .ow ((p ++ [(v.fdiv 7).fmod 9 - 4]).map .int), .sh d, .sh (.int v)], ?_, L1, p ++ [(v.fdiv 7).fmod 9 - 4], _, _, rfl, h1, fun c hc => ?_, by simp; omega⟩
      · simp [b__law_poly_k10_1, u1, hv, hv6, fd, onOw, fl]
      · rcases List.mem_append.mp hc with hc | hc
        · exact hp.sz c hc
        · simp at hc; omega
theorem poly10_okb {L : List D} (h : PD L) {z b : Int} {n : Nat} (hz : z = n) (hn : n ≤ 10) (b0 : 5 ≤ b) (b1 : b ≤ 100) : ∃ L' p, m__law_poly_k10 L [.none, .int z, .int b] = .ok (.ow (p.map .int)) L' ∧ PD L' ∧ PB b (n + 1) p ∧ Tr p := by
  obtain ⟨L1, v, u1, h1, v0, v1⟩ := take_ok h
  obtain ⟨m0, m1⟩ := fmod_rng (a := v) (b := z + 2) (by omega)
  obtain ⟨s, hs⟩ : ∃ s : Nat, v.fmod (z + 2) = (s : Int) := ⟨(v.fmod (z + 2)).toNat, by omega⟩
  have hs2 : s ≤ n + 1 := by omega
  have nz : ¬ (z + 2 = 0) := by omega
  have rg : range1D [.int (s : Int)] = some (rngL 0 1 s) := by rw [range1_ok (by omega) (by omega)]; simp
  obtain ⟨ρ', e, ⟨L3, p, y4, y5, rfl, h3, hp⟩, _⟩ := forO_inv (F := gTo (gSet 4) b__law_poly_k10_1) (l := rngL 0 1 s) (fun i ρ => PSb z b i ρ ∧ i ≤ s)
    (ρ := [.bo L1, .sh (.int z), .sh (.int b), .ow [], .no, .no]) ⟨⟨L1, [], .no, .no, rfl, h1, by simp, by simp⟩, by omega⟩
    (fun i d ρ hd hi => by
      obtain ⟨hk, rfl⟩ := rng0_get hd
      obtain ⟨ρ', e, h⟩ := poly_step10b (d := .int (i : Nat)) (by omega) b0 b1 hi.1
      exact ⟨ρ', .inl e, h, by omega⟩)
  rw [rngL_length] at hp
  have hl := hp.len
  have fin : ∀ q : List Int, PB b (n + 1) q → Tr q → ∀ y, b__law_poly_k10_2 [.bo L3, .sh (.int z), .sh (.int b), .ow (p.map .int), y4, y5] = .rtB (.ow (q.map .int)) (.bo L3 :: y) →
      ∃ L' p, m__law_poly_k10 L [.none, .int z, .int b] = .ok (.ow (p.map .int)) L' ∧ PD L' ∧ PB b (n + 1) p ∧ Tr p := fun q hq tq y hy => by
    refine ⟨L3, q, ?_, h3, hq, tq⟩
    simp [m__law_poly_k10, c__law_poly_k10, u1, nz, hs, rg, e, hy]
  by_cases hn0 : p = []
  · subst hn0
    exact fin [] ⟨by simp, by simp⟩ tr_nil _ (by simp [b__law_poly_k10_2]; rfl)
  · obtain ⟨q, a, rfl⟩ : ∃ q a, p = q ++ [a] := ⟨p.dropLast, p.getLast hn0, (List.dropLast_concat_getLast hn0).symm⟩
    have lp : lenD [.list ((q ++ [a]).map .int)] = some (.int ((q.length : Int) + 1)) := by rw [r_len_l]; simp
    have ix : ixD (.list ((q ++ [a]).map .int)) (.int (q.length : Int)) = some (.int a) := by
      rw [r_ix_l, r_at, List.map_append]; simp
    have gt : (0 : Int) < (q.length : Int) + 1 := by omega
    have hll : ((q ++ [a]).map PyData.int).length = q.length + 1 := by simp
    have hst : ((q ++ [a]).map PyData.int).set q.length (.int 1) = (q ++ [1]).map .int := by
      rw [List.map_append, List.set_append_right _ _ (by simp)]; simp
    have ij : ixN (q.length + 1) (q.length : Int) = some q.length := ixN_nat (by omega)
    obtain ⟨M, hM⟩ : ∃ M, M = (q ++ [a]).map PyData.int := ⟨_, rfl⟩
    rw [← hM] at lp ix hll hst fin
    by_cases ha : a = 0
    · subst ha
      refine fin (q ++ [1]) ⟨fun c hc => ?_, by simp at hl ⊢; omega⟩ (tr_snoc q (by decide)) _ (by simp [b__law_poly_k10_2, lp, ix, gt, hll, ij, hst, onOw, -r_len_l, -r_ix_l, -Out.rtB.injEq] <;> rfl)
      rcases List.mem_append.mp hc with hc | hc
      · exact hp.sz c (by simp [hc])
      · simp at hc; omega
    · exact fin (q ++ [a]) ⟨hp.sz, by omega⟩ (tr_snoc q ha) _ (by simp [b__law_poly_k10_2, lp, ix, gt, ha, ← hM, -r_len_l, -r_ix_l, -Out.rtB.injEq] <;> rfl)
theorem signatom10_okb {L : List D} (h : PD L) : ∃ L' p s, m__law_sign_atom_k10 L [.none] = .ok (.sh (fmD (.sg p s))) L' ∧ PD L' ∧ FmX (.sg p s) := by
  obtain ⟨L1, w, u1, h1, w0, w1⟩ := take_ok h
  obtain ⟨m0, m1⟩ := fmod_rng (a := w) (b := 6) (by decide)
  obtain ⟨s, hs, hs6⟩ : ∃ s : Str, ixD (.list [.str "<", .str "<=", .str "=", .str "!=", .str ">=", .str ">"]) (.int (w.fmod 6)) = some (.str s) ∧ (s = "<" ∨ s = "<=" ∨ s = "=" ∨ s = "!=" ∨ s = ">=" ∨ s = ">") := by
    generalize w.fmod 6 = v at m0 m1
    have : v = 0 ∨ v = 1 ∨ v = 2 ∨ v = 3 ∨ v = 4 ∨ v = 5 := by omega
    rcases this with rfl | rfl | rfl | rfl | rfl | rfl
    · exact ⟨_, rfl, .inl rfl⟩
    · exact ⟨_, rfl, .inr (.inl rfl)⟩
    · exact ⟨_, rfl, .inr (.inr (.inl rfl))⟩
    · exact ⟨_, rfl, .inr (.inr (.inr (.inl rfl)))⟩
    · exact ⟨_, rfl, .inr (.inr (.inr (.inr (.inl rfl))))⟩
    · exact ⟨_, rfl, .inr (.inr (.inr (.inr (.inr rfl))))⟩
  obtain ⟨L2, p, u2, h2, hp, tp⟩ := poly10_okb h1 (z := 4) (b := 100) (n := 4) rfl (by decide) (by decide) (by decide)
  exact ⟨L2, p, s, by simp [fmD, m__law_sign_atom_k10, c__law_sign_atom_k10, u1, hs, u2, -r_ix_l], h2, hp, tp, hs6⟩
theorem block_step10b {m n : Nat} {d : D} {ρ : Ev} (hm : m ≤ 2) (hn : n ≤ 100) (h : BSb m n ρ) : ∃ ρ', gTo (gSet 3) b__law_block_k10_1 d ρ = .nx ρ' ∧ BSb m (n + 1) ρ' := by
  obtain ⟨L, rs, y3, y4, rfl, hL, hl, hr⟩ := h
  have rg : range1D [.int (m : Int)] = some (rngL 0 1 m) := by rw [range1_ok (by omega) (by omega)]; simp
  have bl : (rngL 0 1 m).length ≤ sizeLine := slB (by rw [rngL_length]; omega)
  obtain ⟨ys, ρ', f1, ⟨L', f2, rfl⟩, f3, f4⟩ := compX_all (step := compXS [5] (gSet 5) (xl (cst true)) (xCallB m__law_poly_k10 0 (xHere 0 (xCons (xl (cst (.int 2))) (xCons (xl (cst (.int 20))) (xl (cst []))))))) (fun ρ => ∃ L, PD L ∧ ρ = [.bo L, .sh (.int (m : Int)), .ow (rs.map rowD), .sh d, y4, .no]) (fun y => ∃ p, y = pD p ∧ (PB 20 3 p ∧ Tr p)) (l := rngL 0 1 m) (fun d' ρ _ hρ => by
    obtain ⟨L, hL, rfl⟩ := hρ
    obtain ⟨L', p, q1, q2, q3⟩ := poly10_okb hL (z := 2) (b := 20) (n := 2) rfl (by decide) (by decide) (by decide)
    exact ⟨_, _, by simp [compXS, wipeE, q1, -RX.ok.injEq] <;> rfl, ⟨L', q2, rfl⟩, p, rfl, q3⟩) ⟨L, hL, rfl⟩
  obtain ⟨ps, rfl, hps⟩ := list_of f4
  rw [List.length_map, rngL_length] at f3
  obtain ⟨L2, p, u2, h2, hp⟩ := poly10_okb f2 (z := 2) (b := 20) (n := 2) rfl (by decide) (by decide) (by decide)
  obtain ⟨L3, w, u3, h3, w0, w1⟩ := take_ok h2
  obtain ⟨m0, m1⟩ := fmod_rng (a := w) (b := 3) (by decide)
  obtain ⟨s, hs, hs6⟩ : ∃ s : Str, ixD (.list [.str "<", .str "<=", .str "="]) (.int (w.fmod 3)) = some (.str s) ∧ (s = "<" ∨ s = "<=" ∨ s = "=") := by
    generalize w.fmod 3 = v at m0 m1
    have : v = 0 ∨ v = 1 ∨ v = 2 := by omega
    rcases this with rfl | rfl | rfl
    · exact ⟨_, rfl, .inl rfl⟩
    · exact ⟨_, rfl, .inr (.inl rfl)⟩
    · exact ⟨_, rfl, .inr (.inr rfl)⟩
  have fl : rs.length < sizeLine := Nat.lt_of_lt_of_le (by omega : rs.length < 101) (by decide)
  have sn : (rs ++ [(⟨ps, p, s⟩ : Row)]).map rowD = rs.map rowD ++ [.tuple [.list (ps.map pD), pD p, .str s]] := by rw [List.map_append]; rfl
  refine ⟨[.bo L3, .sh (.int (m : Int)), .ow ((rs ++ [(⟨ps, p, s⟩ : Row)]).map rowD), .sh d, .sh (.list (ps.map pD)), .no], ?_, L3, _, _, _, rfl, h3, by simp; omega, fun e he => ?_⟩
  · have w5 : ∀ a b c e f g : SD, wipeE [a, b, c, e, f, g] [5] = [a, b, c, e, f, .no] := fun _ _ _ _ _ _ => rfl
    have fl' : (rs.map rowD).length < sizeLine := by rw [List.length_map]; exact fl
    rw [sn]
    simp [b__law_block_k10_1, rg, bl, w5, f1, u2, u3, hs, fl', -r_ix_l, -List.length_map, -List.map_map]
  · rcases List.mem_append.mp he with he | he
    · exact hr e he
    · rw [List.mem_singleton.mp he]
      exact ⟨f3, hps, hp, hs6⟩
theorem block10_okb {L : List D} (h : PD L) : ∃ L' m rs, m__law_block_k10 L [.none] = .ok (.sh (fmD (.bl m rs))) L' ∧ PD L' ∧ FmX (.bl m rs) := by
  obtain ⟨L1, v, u1, h1, v0, v1⟩ := take_ok h
  obtain ⟨m0, m1⟩ := fmod_rng (a := v) (b := 2) (by decide)
  obtain ⟨m, hm⟩ : ∃ m : Nat, 1 + v.fmod 2 = (m : Int) := ⟨(1 + v.fmod 2).toNat, by omega⟩
  obtain ⟨L2, w, u2, h2, w0, w1⟩ := take_ok h1
  obtain ⟨n0, n1⟩ := fmod_rng (a := w) (b := 5) (by decide)
  obtain ⟨s, hs⟩ : ∃ s : Nat, 1 + w.fmod 5 = (s : Int) := ⟨(1 + w.fmod 5).toNat, by omega⟩
  have rg : range1D [.int (s : Int)] = some (rngL 0 1 s) := by rw [range1_ok (by omega) (by omega)]; simp
  obtain ⟨ρ', e, ⟨L3, rs, y3, y4, rfl, h3, hl, hr⟩, _⟩ := forO_inv (F := gTo (gSet 3) b__law_block_k10_1) (l := rngL 0 1 s) (fun i ρ => BSb m i ρ ∧ i ≤ s)
    (ρ := [.bo L2, .sh (.int (m : Int)), .ow [], .no, .no, .no]) ⟨⟨L2, [], .no, .no, rfl, h2, rfl, by simp⟩, by omega⟩
    (fun i d ρ hd hi => by
      obtain ⟨hk, rfl⟩ := rng0_get hd
      obtain ⟨ρ', e, h⟩ := block_step10b (d := .int (i : Nat)) (by omega) (by omega) hi.1
      exact ⟨ρ', .inl e, h, by omega⟩)
  rw [rngL_length] at hl
  exact ⟨L3, m, rs, by simp [fmD, m__law_block_k10, c__law_block_k10, u1, hm, u2, hs, rg, e], h3, by omega, by omega, by omega, by omega, hr⟩
theorem form10_okb : ∀ (n k : Nat) (L : List D) (a b z : Int), PD L → k < n → z = (k : Int) → IvB a b → ∃ L' a' b' f, m__law_formula_k10 n L [.int a, .int b] [.int z] = .ok (.sh (fmD f)) L' [.int a', .int b'] ∧ PD L' ∧ FmX f ∧ f.dp ≤ k ∧ IvB a' b' ∧ a = a' + nS f ∧ b = b' + nB f
  | 0, k, _, _, _, _, _, h, _, _ => by omega
  | n + 1, k, L, a, b, z, hL, hk, hz, iv => by
    rw [m__law_formula_k10_succ]
    obtain ⟨L1, v, u1, h1, v0, v1⟩ := take_ok hL
    obtain ⟨m0, m1⟩ := fmod_rng (a := v) (b := 6) (by decide)
    have j0 : ixD (.list [.int a, .int b]) (.int 0) = some (.int a) := by rw [r_ix_l]; exact r_at 0
    have j1 : ixD (.list [.int a, .int b]) (.int 1) = some (.int b) := by rw [r_ix_l]; exact r_at 1
    have s0 : ixN 2 0 = some 0 := rfl
    have s1 : ixN 2 1 = some 1 := rfl
    have fd : fdivD (.int v) (.int 6) = some (.int (v.fdiv 6)) := r_fdivS (by decide) (by decide) (by decide)
    by_cases hlf : z = 0 ∨ v.fmod 6 < 2
    · have hc : ∀ ρ : Ev, ρ = [.bo L1, .bo [.int a, .int b], .sh (.int z), .sh (.int v), .sh (.int (v.fmod 6)), .no] → (eOr (e1 bOf (e2 eqD (eOwn 2) (cst (.int 0)))) (e1 bOf (e2 ltD (eOwn 4) (cst (.int 2))))) ρ = .ok true := fun ρ hρ => by
        subst hρ
        by_cases z0 : z = 0
        · simp [z0]
        · have : v.fmod 6 < 2 := by rcases hlf with h | h; exact (z0 h).elim; exact h
          simp [z0, this]
      have hc' := hc _ rfl
      by_cases hb : a = 0 ∨ ((v.fdiv 6).fmod 3 = 0 ∧ 0 < b)
      · obtain ⟨L2, m, rs, u2, h2, ok⟩ := block10_okb h1
        have hd' : (eOr (e1 bOf (e2 eqD (e2 ixD (eOwn 1) (cst (.int 0))) (cst (.int 0)))) (eAnd (e1 bOf (e2 eqD (e2 modD (e1 intD (eCons (e2 fdivD (eOwn 3) (cst (.int 6))) (cst []))) (cst (.int 3))) (cst (.int 0)))) (e1 bOf (e2 gtD (e2 ixD (eOwn 1) (cst (.int 1))) (cst (.int 0)))))) [.bo L1, .bo [.int a, .int b], .sh (.int z), .sh (.int v), .sh (.int (v.fmod 6)), .no] = .ok true := by
          by_cases a0 : a = 0
          · subst a0; simp [j0, -r_ix_l]
          · rcases hb with h | ⟨h3, h4⟩
            · exact (a0 h).elim
            · simp [j0, j1, a0, fd, h3, h4, -r_ix_l]
        refine ⟨L2, a, b - 1, .bl m rs, ?_, h2, ok, by simp [Fm.dp], ⟨iv.1, by rcases hb with h | ⟨_, h⟩; exact .inr h; exact .inl (by omega)⟩, by simp [nS], by simp [nB]⟩
        simp [c__law_formula_k10, u1, hc', hd', j1, s1, u2, -r_ix_l, -r_eOr]
      · obtain ⟨L2, p, s, u2, h2, ok⟩ := signatom10_okb h1
        have hd' : (eOr (e1 bOf (e2 eqD (e2 ixD (eOwn 1) (cst (.int 0))) (cst (.int 0)))) (eAnd (e1 bOf (e2 eqD (e2 modD (e1 intD (eCons (e2 fdivD (eOwn 3) (cst (.int 6))) (cst []))) (cst (.int 3))) (cst (.int 0)))) (e1 bOf (e2 gtD (e2 ixD (eOwn 1) (cst (.int 1))) (cst (.int 0)))))) [.bo L1, .bo [.int a, .int b], .sh (.int z), .sh (.int v), .sh (.int (v.fmod 6)), .no] = .ok false := by
          have a0 : ¬ a = 0 := fun h => hb (.inl h)
          by_cases h3 : (v.fdiv 6).fmod 3 = 0
          · have h4 : ¬ 0 < b := fun h => hb (.inr ⟨h3, h⟩)
            simp [j0, j1, a0, fd, h3, h4, -r_ix_l]
          · simp [j0, a0, fd, h3, -r_ix_l]
        have a00 : ¬ a = 0 := fun h => hb (.inl h)
        refine ⟨L2, a - 1, b, .sg p s, ?_, h2, ok, by simp [Fm.dp], ⟨by have := iv.1; omega, .inl (by rcases iv.2 with h | h; exact h; exact (a00 h).elim)⟩, by simp [nS], by simp [nB]⟩
        simp [c__law_formula_k10, u1, hc', hd', j0, s0, u2, -r_ix_l, -r_eOr]
    · have z0 : ¬ z = 0 := fun h => hlf (.inl h)
      have v2 : ¬ v.fmod 6 < 2 := fun h => hlf (.inr h)
      obtain ⟨j, rfl⟩ : ∃ j, k = j + 1 := ⟨k - 1, by omega⟩
      obtain ⟨L2, a2, b2, f, u2, h2, okf, df, iv2, c1, c2⟩ := form10_okb n j L1 a b (z - 1) h1 (by omega) (by omega) iv
      by_cases v4 : v.fmod 6 < 4
      · refine ⟨L2, a2, b2, .no f, ?_, h2, okf, by simp [Fm.dp]; omega, iv2, by simp [nS, c1], by simp [nB, c2]⟩
        simp [c__law_formula_k10, u1, z0, v2, v4, u2, fmD]
      · obtain ⟨L3, a3, b3, g, u3, h3, okg, dg, iv3, c3, c4⟩ := form10_okb n j L2 a2 b2 (z - 1) h2 (by omega) (by omega) iv2
        by_cases v5 : v.fmod 6 = 4
        · have ix : ixD (.list [.str "and", .str "or"]) (.int 0) = some (.str "and") := by rw [r_ix_l]; exact r_at 0
          refine ⟨L3, a3, b3, .an f g, ?_, h3, ⟨okf, okg⟩, by simp [Fm.dp]; omega, iv3, by simp [nS]; omega, by simp [nB]; omega⟩
          rw [← hz] at *
          simp [c__law_formula_k10, u1, z0, v5, u2, u3, ix, fmD, -r_ix_l]
        · have v6 : v.fmod 6 = 5 := by omega
          have ix : ixD (.list [.str "and", .str "or"]) (.int 1) = some (.str "or") := by rw [r_ix_l]; exact r_at 1
          refine ⟨L3, a3, b3, .or f g, ?_, h3, ⟨okf, okg⟩, by simp [Fm.dp]; omega, iv3, by simp [nS]; omega, by simp [nB]; omega⟩
          simp [c__law_formula_k10, u1, z0, v6, u2, u3, ix, fmD, -r_ix_l]
/-! ### what is drawn lets itself be read, and checked -/
def fa : Fm → Fa
  | .sg p s => .lf (fmD (.sg p s))
  | .bl m rs => .lf (fmD (.bl m rs))
  | .no f => .no (fa f)
  | .an f g => .an (fa f) (fa g)
  | .or f g => .or (fa f) (fa g)
theorem PB.p35 {b : Int} {n : Nat} {p : List Int} (h : PB b n p) (hb : b ≤ 100) : P35 n p := ⟨fun c hc => by have := h.sz c hc; omega, h.len⟩
theorem RB.r35 {m : Nat} {r : Row} (h : RB m r) : R35 m r := ⟨h.len, fun p hp => ⟨(h.ps p hp).1.p35 (by decide), (h.ps p hp).2⟩, ⟨h.q.1.p35 (by decide), h.q.2⟩, h.s⟩
theorem FmX.fa : ∀ {f : Fm}, FmX f → FaX (fa f)
  | .sg p s, h => .inl ⟨p, s, rfl, h.1.p35 (by decide), h.2.1, h.2.2⟩
  | .bl m rs, h => .inr ⟨m, rs, rfl, h.1, h.2.1, h.2.2.1, h.2.2.2.1, fun r hr => (h.2.2.2.2 r hr).r35⟩
  | .no f, h => FmX.fa (f := f) h
  | .an f g, h => ⟨FmX.fa (f := f) h.1, FmX.fa (f := g) h.2⟩
  | .or f g, h => ⟨FmX.fa (f := f) h.1, FmX.fa (f := g) h.2⟩
theorem tr_last {p : List Int} (h : Tr p) : p.getLast? ≠ some 0 := fun e => by
  rcases List.eq_nil_or_concat p with z | ⟨q, a, z⟩
  · rw [z] at e; cases e
  · rw [z, List.concat_eq_append] at e h
    have : a = 0 := by simpa using e
    subst this
    exact h q.length (by simp) (by simp [cf])
theorem PB.pw {b : Int} {n : Nat} {p : List Int} (h : PB b n p) (hb : b ≤ 1000) (hn : n ≤ 12) : PW p := ⟨by have := h.len; omega, fun c hc => by have := h.sz c hc; omega⟩
theorem sg6_tl {s : Str} (h : SgX s) : tl s ∈ SG6 := by
  rcases h with rfl | rfl | rfl | rfl | rfl | rfl <;> decide +kernel
theorem sg3_tl {s : Str} (h : s = "<" ∨ s = "<=" ∨ s = "=") : tl s ∈ SG3 := by
  rcases h with rfl | rfl | rfl <;> decide +kernel
theorem RB.s' {m : Nat} {r : Row} (h : RB m r) : RowS m r := ⟨h.len, fun p hp => by
  rcases List.mem_append.mp hp with hp | hp
  · exact ⟨(h.ps p hp).1.pw (by decide) (by decide), tr_last (h.ps p hp).2⟩
  · rw [List.mem_singleton.mp hp]; exact ⟨h.q.1.pw (by decide) (by decide), tr_last h.q.2⟩, sg3_tl h.s⟩
theorem FmX.s : ∀ {f : Fm}, FmX f → FmS f
  | .sg p s, h => ⟨⟨h.1.pw (by decide) (by decide), tr_last h.2.1⟩, sg6_tl h.2.2⟩
  | .bl m rs, h => ⟨h.1, h.2.1, h.2.2.1, h.2.2.2.1, fun r hr => (h.2.2.2.2 r hr).s'⟩
  | .no f, h => FmX.s (f := f) h
  | .an f g, h => ⟨FmX.s (f := f) h.1, FmX.s (f := g) h.2⟩
  | .or f g, h => ⟨FmX.s (f := f) h.1, FmX.s (f := g) h.2⟩
theorem txl3 {c : Int} (h1 : -100 < c) (h2 : c < 100) : (txl c).length ≤ 3 := by
  have k : ∀ n < 100, (numL n).length ≤ 2 := by decide +kernel
  by_cases h : 0 ≤ c
  · obtain ⟨n, rfl⟩ : ∃ n : Nat, c = n := ⟨c.toNat, by omega⟩
    rw [txl_nat]
    have := k n (by omega); omega
  · obtain ⟨n, rfl⟩ : ∃ n : Nat, c = -(n : Int) := ⟨(-c).toNat, by omega⟩
    rw [txl_neg n (by omega)]
    have := k n (by omega)
    simp; omega
theorem pwl24 {b : Int} {n : Nat} {p : List Int} (h : PB b n p) (hb : b ≤ 100) (hn : n ≤ 6) : (pwl p).length ≤ 24 := by
  unfold pwl
  split
  · simp
  · have := joinL_len (t := 44) (B := 3) (p.map txl) fun w hw => by
      obtain ⟨c, hc, rfl⟩ := List.mem_map.mp hw
      have := h.sz c hc
      exact txl3 (by omega) (by omega)
    rw [List.length_map] at this
    have := h.len
    omega
theorem num24 {n : Nat} (h : n ≤ 9) : (numL n).length ≤ 24 := by
  have : ∀ n < 10, (numL n).length ≤ 24 := by decide +kernel
  exact this n (by omega)
theorem s24 {s : List Nat} (h : s ∈ SG6 ∨ s ∈ SG3 ∨ s ∈ WF5) : s.length ≤ 24 := by
  have a : ∀ s ∈ SG6, s.length ≤ 24 := by decide
  have b : ∀ s ∈ SG3, s.length ≤ 24 := by decide
  have c : ∀ s ∈ WF5, s.length ≤ 24 := by decide
  rcases h with h | h | h
  · exact a s h
  · exact b s h
  · exact c s h
theorem wl24 : ∀ (f : Fm), FmX f → ∀ w ∈ wF f, w.length ≤ 24
  | .sg p s, h, w, hw => by
    simp only [wF, List.mem_cons, List.not_mem_nil, or_false] at hw
    rcases hw with rfl | rfl | rfl
    · decide
    · exact pwl24 h.1 (by decide) (by decide)
    · exact s24 (.inl (sg6_tl h.2.2))
  | .bl m rs, h, w, hw => by
    obtain ⟨m1, m2, r1, r5, hr⟩ := h
    simp only [wF, List.mem_cons] at hw
    rcases hw with rfl | rfl | rfl | hw
    · decide
    · exact num24 (by omega)
    · exact num24 (by omega)
    · obtain ⟨r, hr', hw⟩ := List.mem_flatMap.mp hw
      rcases List.mem_append.mp hw with hw | hw
      · obtain ⟨p, hp, rfl⟩ := List.mem_map.mp hw
        rcases List.mem_append.mp hp with hp | hp
        · exact pwl24 ((hr r hr').ps p hp).1 (by decide) (by decide)
        · rw [List.mem_singleton.mp hp]; exact pwl24 (hr r hr').q.1 (by decide) (by decide)
      · rw [List.mem_singleton.mp hw]; exact s24 (.inr (.inl (sg3_tl (hr r hr').s)))
  | .no f, h, w, hw => by
    rcases List.mem_cons.mp hw with rfl | hw
    · decide
    · exact wl24 f h w hw
  | .an f g, h, w, hw => by
    rcases List.mem_cons.mp hw with rfl | hw
    · decide
    · rcases List.mem_append.mp hw with hw | hw
      · exact wl24 f h.1 w hw
      · exact wl24 g h.2 w hw
  | .or f g, h, w, hw => by
    rcases List.mem_cons.mp hw with rfl | hw
    · decide
    · rcases List.mem_append.mp hw with hw | hw
      · exact wl24 f h.1 w hw
      · exact wl24 g h.2 w hw
theorem rw_len {m : Nat} (hm : m ≤ 2) : ∀ {rs : List Row}, (∀ r ∈ rs, r.ps.length = m) → (rs.flatMap wR).length ≤ rs.length * 4
  | [], _ => by simp
  | r :: rs, h => by
    have := rw_len hm (rs := rs) fun x hx => h x (by simp [hx])
    have h1 := h r (by simp)
    have h2 : (wR r).length = r.ps.length + 2 := by simp [wR]
    rw [List.flatMap_cons, List.length_append, List.length_cons, h2]
    omega
theorem wn_le : ∀ (f : Fm), FmX f → 1 ≤ nS f + nB f ∧ (wF f).length ≤ (23 + f.dp) * (nS f + nB f)
  | .sg p s, h => by simp [nS, nB, wF, Fm.dp]
  | .bl m rs, h => by
    obtain ⟨m1, m2, r1, r5, hr⟩ := h
    have := rw_len m2 fun r hr' => (hr r hr').len
    simp only [nS, nB, wF, Fm.dp, List.length_cons]; omega
  | .no f, h => by
    obtain ⟨a, b⟩ := wn_le f h
    simp only [nS, nB, wF, Fm.dp, List.length_cons]
    refine ⟨a, ?_⟩
    have : (23 + (f.dp + 1)) * (nS f + nB f) = (23 + f.dp) * (nS f + nB f) + (nS f + nB f) := by rw [← Nat.add_assoc, Nat.succ_mul]
    omega
  | .an f g, h => by
    obtain ⟨a, b⟩ := wn_le f h.1
    obtain ⟨c, d⟩ := wn_le g h.2
    simp only [nS, nB, wF, Fm.dp, List.length_cons, List.length_append]
    refine ⟨by omega, ?_⟩
    have e1 : (23 + f.dp) * (nS f + nB f) ≤ (23 + max f.dp g.dp) * (nS f + nB f) := Nat.mul_le_mul_right _ (by omega)
    have e2 : (23 + g.dp) * (nS g + nB g) ≤ (23 + max f.dp g.dp) * (nS g + nB g) := Nat.mul_le_mul_right _ (by omega)
    have e3 : (23 + (max f.dp g.dp + 1)) * (nS f + nS g + (nB f + nB g)) = (23 + max f.dp g.dp) * (nS f + nB f) + (23 + max f.dp g.dp) * (nS g + nB g) + (nS f + nS g + (nB f + nB g)) := by
      rw [← Nat.add_assoc, Nat.succ_mul, show nS f + nS g + (nB f + nB g) = (nS f + nB f) + (nS g + nB g) from by omega, Nat.mul_add]
    omega
  | .or f g, h => by
    obtain ⟨a, b⟩ := wn_le f h.1
    obtain ⟨c, d⟩ := wn_le g h.2
    simp only [nS, nB, wF, Fm.dp, List.length_cons, List.length_append]
    refine ⟨by omega, ?_⟩
    have e1 : (23 + f.dp) * (nS f + nB f) ≤ (23 + max f.dp g.dp) * (nS f + nB f) := Nat.mul_le_mul_right _ (by omega)
    have e2 : (23 + g.dp) * (nS g + nB g) ≤ (23 + max f.dp g.dp) * (nS g + nB g) := Nat.mul_le_mul_right _ (by omega)
    have e3 : (23 + (max f.dp g.dp + 1)) * (nS f + nS g + (nB f + nB g)) = (23 + max f.dp g.dp) * (nS f + nB f) + (23 + max f.dp g.dp) * (nS g + nB g) + (nS f + nS g + (nB f + nB g)) := by
      rw [← Nat.add_assoc, Nat.succ_mul, show nS f + nS g + (nB f + nB g) = (nS f + nB f) + (nS g + nB g) from by omega, Nat.mul_add]
    omega
theorem line_le {f : Fm} (h : FmX f) (hd : f.dp ≤ 6) (hn : nS f + nB f ≤ 9) : (wF f).length ≤ 261 ∧ (lineF f).length ≤ 6525 := by
  obtain ⟨a, b⟩ := wn_le f h
  have c : (23 + f.dp) * (nS f + nB f) ≤ 29 * 9 := Nat.mul_le_mul (by omega) hn
  have d := joinL_len (t := 32) (wF f) (wl24 f h)
  unfold lineF
  omega
theorem PB.polyW {b : Int} {n : Nat} {p : List Int} (h : PB b n p) (hb : b ≤ 100) (hn : n ≤ 9) : PolyW (pD p) := ⟨p.map .int, rfl, by have := h.len; simp; omega, fun x hx => by
  obtain ⟨c, hc, rfl⟩ := List.mem_map.mp hx
  have := h.sz c hc
  exact .inl ⟨c, rfl, .of 200 (by omega) (by omega) (by decide)⟩⟩
theorem PB.polE {b : Int} {n most : Nat} {p : List Int} (h : PB b n p) (tp : Tr p) (hn : n ≤ most + 1) : polE most b (pD p) = "" := by
  have hl := h.len
  have al : (p.map PyData.int).all (okV b) = true := by
    rw [List.all_eq_true]
    intro x hx
    obtain ⟨c, hc, rfl⟩ := List.mem_map.mp hx
    have := h.sz c hc
    simp [okV, this]
  have lz : lastZ (p.map PyData.int) = false := by
    have := tr_last tp
    unfold lastZ
    rw [List.getLast?_map]
    cases q : p.getLast? with
    | none => rfl
    | some a =>
      rw [q] at this
      show decide (a = 0) = false
      exact decide_eq_false fun z => this (by rw [z])
  show exnE (dueS (p.map PyData.int) most b) = ""
  unfold dueS
  rw [if_neg (by rw [List.length_map]; omega), if_pos al, if_neg (by rw [lz]; decide)]
  decide +kernel
theorem RB.frow {m : Nat} {r : Row} (h : RB m r) (hm : m ≤ 2) : FRow (rowD r) := ⟨r.ps.map pD, pD r.q, r.s, rfl, by simp [h.len]; omega, fun p hp => by
  obtain ⟨q, hq, rfl⟩ := List.mem_map.mp hp
  exact (h.ps q hq).1.polyW (by decide) (by decide), h.q.1.polyW (by decide) (by decide), by
    rcases h.s with h | h | h
    · exact .inl h
    · exact .inr (.inl h)
    · exact .inr (.inr (.inl h))⟩
theorem fstE_nil : ∀ {l : List Str}, (∀ s ∈ l, s = "") → fstE l = ""
  | [], _ => rfl
  | s :: l, h => by
    show (if s = "" then fstE l else s) = ""
    rw [if_pos (h s (by simp))]
    exact fstE_nil fun x hx => h x (by simp [hx])
theorem RB.rowE {m : Nat} {r : Row} (h : RB m r) : rowE (m : Int) (rowD r) = "" := by
  show (if ((r.ps.map pD).length : Int) = m then (if fstE ((r.ps.map pD ++ [pD r.q]).map (W.polE 2 20)) = "" then sg3 r.s else fstE ((r.ps.map pD ++ [pD r.q]).map (W.polE 2 20))) else "BadSize") = ""
  have e : fstE ((r.ps.map pD ++ [pD r.q]).map (W.polE 2 20)) = "" := fstE_nil fun s hs => by
    obtain ⟨d, hd, rfl⟩ := List.mem_map.mp hs
    rcases List.mem_append.mp hd with hd | hd
    · obtain ⟨p, hp, rfl⟩ := List.mem_map.mp hd
      exact (h.ps p hp).1.polE (most := 2) (h.ps p hp).2 (by decide)
    · rw [List.mem_singleton.mp hd]
      exact h.q.1.polE (most := 2) h.q.2 (by decide)
  rw [if_pos (by rw [List.length_map, h.len]), if_pos e]
  exact if_pos h.s
theorem fm_tup (f : Fm) : ∃ l, fmD f = .tuple l := by cases f <;> exact ⟨_, rfl⟩
theorem FmX.sp : ∀ {f : Fm}, FmX f → Sp (fmD f)
  | .sg p s, h => .sign (h.1.polyW (by decide) (by decide)) (by
    rcases h.2.2 with h | h | h | h | h | h
    · exact .inl h
    · exact .inr (.inl h)
    · exact .inr (.inr (.inl h))
    · exact .inr (.inr (.inr (.inl h)))
    · exact .inr (.inr (.inr (.inr (.inl h))))
    · exact .inr (.inr (.inr (.inr (.inr (.inl h))))))
  | .bl m rs, h => .some (by
    have : m = 1 ∨ m = 2 := by have := h.1; have := h.2.1; omega
    rcases this with rfl | rfl
    · exact .inr (.inl rfl)
    · exact .inr (.inr (.inl rfl))) (by have := h.2.2.2.1; simp; omega) fun r hr => by
      obtain ⟨x, hx, rfl⟩ := List.mem_map.mp hr
      exact (h.2.2.2.2 x hx).frow h.2.1
  | .no f, h => .no (FmX.sp (f := f) h)
  | .an f g, h => .an (FmX.sp (f := f) h.1) (FmX.sp (f := g) h.2)
  | .or f g, h => .or (FmX.sp (f := f) h.1) (FmX.sp (f := g) h.2)
theorem FmX.due : ∀ {f : Fm} (n : Nat) (k : Int), FmX f → f.dp < n → (f.dp : Int) + k ≤ 6 → dueF n (fmD f) k = ""
  | f, 0, k, _, hn, _ => by omega
  | .sg p s, n + 1, k, h, _, hk => by
    have h6 : ¬ 6 < k := by simp [Fm.dp] at hk; omega
    show (if 6 < k then ("TooDeep" : Str) else if ("sign" : Str) = "sign" then sigE (pD p) s else ("BadForm" : Str)) = ""
    rw [if_neg h6, if_pos rfl]
    unfold sigE
    have e : W.polE 4 100 (pD p) = "" := h.1.polE (most := 4) h.2.1 (by decide)
    rw [if_pos e]
    exact if_pos h.2.2
  | .bl m rs, n + 1, k, h, _, hk => by
    have h6 : ¬ 6 < k := by simp [Fm.dp] at hk; omega
    show (if 6 < k then ("TooDeep" : Str) else if ("some" : Str) = "some" then blkE (.int (m : Int)) (rs.map rowD) else ("BadForm" : Str)) = ""
    rw [if_neg h6, if_pos rfl]
    show (if ((m : Int) = 1 ∨ (m : Int) = 2) ∧ 1 ≤ (rs.map rowD).length ∧ (rs.map rowD).length ≤ 5 then fstE ((rs.map rowD).map (W.rowE (m : Int))) else "BadSize") = ""
    obtain ⟨m1, m2, r1, r5, hr⟩ := h
    rw [if_pos ⟨by omega, by rw [List.length_map]; exact r1, by rw [List.length_map]; exact r5⟩]
    refine fstE_nil fun s hs => ?_
    obtain ⟨d, hd, rfl⟩ := List.mem_map.mp hs
    obtain ⟨r, hr', rfl⟩ := List.mem_map.mp hd
    exact (hr r hr').rowE
  | .no f, n + 1, k, h, hn, hk => by
    simp only [Fm.dp] at hn hk
    have h6 : ¬ 6 < k := by omega
    have ih := FmX.due (f := f) n (k + 1) h (by omega) (by omega)
    show (if 6 < k then ("TooDeep" : Str) else if ("not" : Str) = "not" then fstE [dueF n (fmD f) (k + 1)] else ("BadForm" : Str)) = ""
    rw [if_neg h6, if_pos rfl, ih]; rfl
  | .an f g, n + 1, k, h, hn, hk => by
    simp only [Fm.dp] at hn hk
    have h6 : ¬ 6 < k := by omega
    have ih := FmX.due (f := f) n (k + 1) h.1 (by omega) (by omega)
    have ih2 := FmX.due (f := g) n (k + 1) h.2 (by omega) (by omega)
    obtain ⟨l, hl⟩ := fm_tup g
    show dueF (n + 1) (.tuple [.str "and", fmD f, fmD g]) k = ""
    rw [hl] at ih2 ⊢
    show (if 6 < k then ("TooDeep" : Str) else if ("and" : Str) = "and" ∨ ("and" : Str) = "or" then fstE [dueF n (fmD f) (k + 1), dueF n (.tuple l) (k + 1)] else ("BadForm" : Str)) = ""
    rw [if_neg h6, if_pos (.inl rfl), ih, ih2]; rfl
  | .or f g, n + 1, k, h, hn, hk => by
    simp only [Fm.dp] at hn hk
    have h6 : ¬ 6 < k := by omega
    have ih := FmX.due (f := f) n (k + 1) h.1 (by omega) (by omega)
    have ih2 := FmX.due (f := g) n (k + 1) h.2 (by omega) (by omega)
    obtain ⟨l, hl⟩ := fm_tup g
    show dueF (n + 1) (.tuple [.str "or", fmD f, fmD g]) k = ""
    rw [hl] at ih2 ⊢
    show (if 6 < k then ("TooDeep" : Str) else if ("or" : Str) = "and" ∨ ("or" : Str) = "or" then fstE [dueF n (fmD f) (k + 1), dueF n (.tuple l) (k + 1)] else ("BadForm" : Str)) = ""
    rw [if_neg h6, if_pos (.inr rfl), ih, ih2]; rfl
end W

set_option Elab.async false
set_option linter.all false
set_option maxRecDepth 100000
set_option autoImplicit false
set_option maxHeartbeats 4000000
namespace W
open PySem PySem.Spec PyProof.Rows L2 VL
open TL (tl spl spl_nil numL joinL)
noncomputable def c__law_poly_text : Ev → Out := sSeq (sIf (e1 bOf (e2 eqD (e1 lenD (eCons (eOwn 0) (cst []))) (cst (.int 0)))) (sRet (cst (.str "0"))) (sNil)) (sRet (eStr joinD (cst (.str ",")) (eLst (eComp [1] (e1 seqD (eVar 0)) (gSet 1) (cst true) (e1 strD (eCons (eOwn 1) (cst [])))))))
noncomputable def m__law_poly_text : List D → R SD := runD 1 2 c__law_poly_text
/-! ### the law's own words of a formula -/
theorem pt_ok {p : List Int} (h : PW p) : m__law_poly_text [pD p] = .ok (.sh (.str (mk (pwl p)))) := by
  have hl := h.len
  rw [← pw_mk]
  by_cases hp : p = []
  · subst hp
    have z : pw [] = "0" := if_pos rfl
    rw [z]; simp [m__law_poly_text, c__law_poly_text]
  · have j1 := join_tx h hp (f := cst .none) fun _ _ _ _ _ => trivial
    have f := fun c hc => tx_fm (c := c) (h.sz c hc).1 (h.sz c hc).2
    have mm : (p.map fun c => (.str (tx c) : D)) = (p.map tx).map fun w => (.str w : D) := by rw [List.map_map]; rfl
    have c2 := compR_map' (step := compS [1] (gSet 1) (cst true) (e1 strD (eCons (eOwn 1) (cst []))) [.sh (pD p), .no]) (F := PyData.int) (φ := fun c => (.str (tx c) : D)) (l := p) fun c hc => by
      have := (f c hc).2.1
      simp [compS, wipeE, this]
    rw [mm] at c2
    have bl : (p.map PyData.int).length ≤ sizeLine := slB (by rw [List.length_map]; omega)
    have ej : ∀ ρ : Ev, ρ = [.sh (pD p), .no] → eStr joinD (cst (.str ",")) (eLst (eComp [1] (e1 seqD (eVar 0)) (gSet 1) (cst true) (e1 strD (eCons (eOwn 1) (cst []))))) ρ = .ok (.str (pw p)) := fun ρ hρ => by
      subst hρ
      rw [r_eStrE (a := ",") (y := .list ((p.map tx).map fun w => (.str w : D))) _ _ _ _ rfl (by simp only [r_eLst, r_eComp, r_e1, r_eVar]; simp [bl, c2, -List.map_map, -List.length_map]), j1]; rfl
    have nz : ¬ p.length = 0 := fun z => hp (List.length_eq_zero_iff.mp z)
    simp [m__law_poly_text, c__law_poly_text, nz, hp, ej]
abbrev tsD (W : List (List Nat)) : List D := W.map fun w => (.str (mk w) : D)
theorem tsD_app (a b : List (List Nat)) : tsD (a ++ b) = tsD a ++ tsD b := List.map_append
theorem wSign_eq : ("sign" : Str) = mk wSign := by decide +kernel
theorem wNot_eq : ("not" : Str) = mk wNot := by decide +kernel
theorem wAnd_eq : ("and" : Str) = mk wAnd := by decide +kernel
theorem wOr_eq : ("or" : Str) = mk wOr := by decide +kernel
theorem tx_nat {n : Nat} : tx (n : Int) = mk (numL n) := by rw [tx_mk, txl_nat]
end W

set_option Elab.async false
set_option linter.all false
set_option maxRecDepth 100000
set_option autoImplicit false
set_option maxHeartbeats 4000000
namespace W
open PySem PySem.Spec PyProof.Rows L2 VL
open TL (tl spl spl_nil numL joinL)
/-! ### what the program writes -/
end W

set_option Elab.async false
set_option linter.all false
set_option maxRecDepth 100000
set_option autoImplicit false
set_option maxHeartbeats 4000000
/-! a.index(b) for a list of truths. -/
namespace VL
open PySem PySem.Spec PyProof.Rows L2
def boolsOf : List D → Option (List Bool)
  | [] => some []
  | .bool a :: l => (boolsOf l).map (a :: ·)
  | _ => none
def lidxD (l : List D) : D → Option D
  | .bool k => (boolsOf l).bind fun ys => if k ∈ ys then some (.int ((ys.idxOf k : Nat) : Int)) else none
  | _ => none
def eLix (f g : Ev → R D) : Ev → R D := fun ρ => (f ρ).bind fun x => match x with
  | .list l => (g ρ).bind fun y => ofO (lidxD l y)
  | _ => .bad
section
variable {X : Cx} {W : WX} {o e : Expr} {apos pos : Pos} {f g : Ev → R D}
end
@[simp] theorem r_eLix (f g : Ev → R D) (ρ : Ev) : eLix f g ρ = (f ρ).bind fun x => match x with
  | .list l => (g ρ).bind fun y => ofO (lidxD l y)
  | _ => .bad := id rfl
end VL

set_option Elab.async false
set_option linter.all false
set_option maxRecDepth 100000
set_option autoImplicit false
set_option maxHeartbeats 4000000
/-! a, b, c = x, y, z -/
namespace VL
open PySem PySem.Spec PyProof.Rows L2
section
variable {X : Cx} {W : WX} {a b c : Expr} {pos : Pos} {fl : Ev → R (List D)}
def sPar3 (i j l : Nat) (fl : Ev → R (List D)) : Ev → Out := fun ρ => liftE (fl ρ) ρ fun ds => match ds with
  | [d, d', d''] => .nx (((ρ.set i (.sh d)).set j (.sh d')).set l (.sh d''))
  | _ => .bad
theorem vs_par3 {i j l : Nat} {x y z : Str} {px py pz pt : Pos} {kt k2 pt2} (hc : X.calm = true) (hN : X.N.Nodup) (hi : X.N[i]? = some x) (hj : X.N[j]? = some y) (hl : X.N[l]? = some z) (hij : i ≠ j) (hil : i ≠ l) (hjl : j ≠ l)
    (hx : X.env.scope.names.lookup x = some .local) (hy : X.env.scope.names.lookup y = some .local) (hz : X.env.scope.names.lookup z = some .local) (ha : VA X W [a, b, c] fl)
    (hw : swappedStores [.Tuple [.Name x px, .Name y py, .Name z pz] kt pt] (.Tuple [a, b, c] k2 pt2) X.env = pure (some [x, y, z]))
    (hs : swapsWithSole [.Tuple [.Name x px, .Name y py, .Name z pz] kt pt] (.Tuple [a, b, c] k2 pt2) pos.line X.env = pure false := by rfl) :
    VS X W (.Assign [.Tuple [.Name x px, .Name y py, .Name z pz] kt pt] (.Tuple [a, b, c] k2 pt2) pos) (sPar3 i j l fl) := PS.imp (ps_par3 hc hN hi hj hl hij hil hjl hx hy hz ha hw hs) fun D σ H ⟨S, G, Hs, ρ, r, h⟩ => by
  refine ⟨S, G, Hs, ρ, r, (lift_post r h).imp fun ds Hs' H' e q vs hv => ?_⟩
  cases hv with
  | nil => exact q.elim
  | cons h1 hv =>
    cases hv with
    | nil => exact q.elim
    | cons h2 hv =>
      cases hv with
      | nil => exact q.elim
      | cons h3 hv =>
        cases hv with
        | cons _ _ => exact q.elim
        | nil => exact ⟨_, _, _, rfl, q Hs' H' _ (.refl _) ((((r.step e).set h1).set h2).set h3)⟩
end
@[simp] theorem r_sPar3 (i j l : Nat) (fl : Ev → R (List D)) (ρ : Ev) : sPar3 i j l fl ρ = liftE (fl ρ) ρ fun ds => match ds with
  | [d, d', d''] => .nx (((ρ.set i (.sh d)).set j (.sh d')).set l (.sh d''))
  | _ => .bad := id rfl
end VL

set_option Elab.async false
set_option linter.all false
set_option maxRecDepth 100000
set_option autoImplicit false
set_option maxHeartbeats 4000000
namespace W
open PySem PySem.Spec PyProof.Rows L2 VL
noncomputable def b__law_words_k12_1 (mf : List D → R SD) : Ev → Out := sSetO 2 (e2 addO (e2 addD (eOwn 2) (eLst (eComp [6] (e1 seqD (eVar 3)) (gSet 6) (cst true) (eCall m__law_poly_text (eCons (eVar 6) (cst [])))))) (eLst (e1 lim (eCons (eCall m__law_poly_text (eCons (eVar 4) (cst []))) (eCons (eVar 5) (cst []))))))
noncomputable def b__law_words_k12_2 (mf : List D → R SD) : Ev → Out := sSetO 2 (e2 addO (eOwn 2) (eCall mf (eCons (eVar 7) (cst []))))
noncomputable def c__law_words_k12 (mf : List D → R SD) : Ev → Out := sSeq (sSet 1 (e2 ixD (eOwn 0) (cst (.int 0)))) (sSeq (sIf (e1 bOf (e2 eqD (eOwn 1) (cst (.str "sign")))) (sRetO (e1 lim (eCons (cst (.str "sign")) (eCons (eCall m__law_poly_text (eCons (e2 ixD (eOwn 0) (cst (.int 1))) (cst []))) (eCons (e2 ixD (eOwn 0) (cst (.int 2))) (cst [])))))) (sNil)) (sSeq (sIf (e1 bOf (e2 eqD (eOwn 1) (cst (.str "some")))) (sSeq (sSetO 2 (e1 lim (eCons (cst (.str "some")) (eCons (e1 strD (eCons (e2 ixD (eOwn 0) (cst (.int 1))) (cst []))) (eCons (e1 strD (eCons (e1 lenD (eCons (e2 ixD (eOwn 0) (cst (.int 2))) (cst []))) (cst []))) (cst [])))))) (sSeq (sFor (e1 seqD (e2 ixD (eOwn 0) (cst (.int 2)))) (gTupD 3 (gsCons (gSet 3) (gsCons (gSet 4) (gsCons (gSet 5) (gsNil))))) (b__law_words_k12_1 mf)) (sRetV 2))) (sNil)) (sSeq (sSetO 2 (e1 lim (eCons (eVar 1) (cst [])))) (sSeq (sFor (e1 seqD (e3 sliceD (eOwn 0) (e1 intOf (cst (.int 1))) (pNo))) (gSet 7) (b__law_words_k12_2 mf)) (sRetV 2)))))
noncomputable def m__law_words_k12 (n : Nat) : List D → R SD := Nat.rec (runD 1 8 fun _ => .bad) (fun _ mf => runD 1 8 (c__law_words_k12 mf)) n
theorem m__law_words_k12_succ (n : Nat) : m__law_words_k12 (n + 1) = runD 1 8 (c__law_words_k12 (m__law_words_k12 n)) := rfl
noncomputable def b__law_column_1 : Ev → Out := sSet 2 (e2 addD (e2 addD (eOwn 2) (e1 lenD (eCons (eOwn 3) (cst [])))) (cst (.int 1)))
noncomputable def c__law_column : Ev → Out := sSeq (sSet 2 (cst (.int 1))) (sSeq (sFor (e1 seqD (e3 sliceD (eOwn 0) (pNo) (e1 intOf (eVar 1)))) (gSet 3) b__law_column_1) (sRet (eVar 2)))
noncomputable def m__law_column : List D → R SD := runD 2 4 c__law_column
noncomputable def b_law_1 : Ev → Out := sSeq (sTryF "BadText" 9 (sDrop (eCall m_read_formula (eCons (e2 addD (eStr joinD (cst (.str " ")) (eOwn 3)) (eOwn 8)) (cst [])))) (fun a dd => sSeq (sIf (eOr (eNot (e1 truD (eIsF "BadText" a dd true (eOwn 9)))) (eOr (eNot (e1 truD (eIsF "BadText" a dd true (eOwn 9)))) (e1 truD (eIsF "BadText" a dd false (eOwn 9))))) (sRet (cst (.bool false))) (sNil)) (sSeq (sIf (eOr (eNot (e1 truD (eCall m__law_is_whole (eCons (eXf "BadText" "line" a dd (eOwn 9)) (cst []))))) (eNot (e1 truD (eCall m__law_is_whole (eCons (eXf "BadText" "column" a dd (eOwn 9)) (cst [])))))) (sRet (cst (.bool false))) (sNil)) (sRet (eAndV (e2 eqD (eXf "BadText" "line" a dd (eOwn 9)) (eOwn 6)) (e2 eqD (eXf "BadText" "column" a dd (eOwn 9)) (eOwn 7))))))) (sRet (cst (.bool false)))
noncomputable def b_law_2 : Ev → Out := sSeq (sIf (e1 bOf (e2 ltD (eOwn 5) (cst (.int 2)))) (sStore 3 (eVar 4) (e2 ixD (eLst (e1 lim (eCons (cst (.str "A")) (eCons (cst (.str "")) (eCons (cst (.str "1,")) (eCons (cst (.str "==")) (eCons (cst (.str "-")) (eCons (cst (.str "1,0")) (eCons (cst (.str "nots")) (cst [])))))))))) (e2 modD (e1 intD (eCons (e2 ixD (eOwn 2) (cst (.int 2))) (cst []))) (cst (.int 7))))) (sIf (eAnd (e1 bOf (e2 eqD (eOwn 5) (cst (.int 2)))) (e1 bOf (e2 gtD (eOwn 4) (cst (.int 0))))) (sSeq (sSetO 3 (e3 sliceO (eOwn 3) (pNo) (e1 intOf (eVar 4)))) (sSet 7 (e2 addD (e1 lenD (eCons (eStr joinD (cst (.str " ")) (eOwn 3)) (cst []))) (cst (.int 1))))) (sIf (e1 bOf (e2 eqD (eOwn 5) (cst (.int 3)))) (sSeq (sSet 7 (e2 addD (e1 lenD (eCons (eStr joinD (cst (.str " ")) (eOwn 3)) (cst []))) (cst (.int 2)))) (sApp 3 (e2 ixD (eLst (e1 lim (eCons (cst (.str "x")) (eCons (cst (.str "0")) (eCons (cst (.str "sign")) (eCons (cst (.str "<")) (cst []))))))) (e2 modD (e1 intD (eCons (e2 ixD (eOwn 2) (cst (.int 2))) (cst []))) (cst (.int 4)))))) (sIf (e1 bOf (e2 eqD (eOwn 5) (cst (.int 4)))) (sPar 7 3 (eCons (cst (.int 1)) (eCons (e2 addD (eLst (e1 lim (eCons (e2 addD (cst (.str "\n")) (e2 ixD (eOwn 3) (cst (.int 0)))) (cst [])))) (e3 sliceD (eOwn 3) (e1 intOf (cst (.int 1))) (pNo))) (cst [])))) (sIf (e1 bOf (e2 eqD (eOwn 5) (cst (.int 5)))) (sPar3 6 7 8 (eCons (cst (.int 2)) (eCons (cst (.int 1)) (eCons (e2 ixD (eLst (e1 lim (eCons (cst (.str "\n\n")) (eCons (cst (.str "\nsign 0 =\n")) (eCons (cst (.str "\nx")) (cst [])))))) (e2 modD (e1 intD (eCons (e2 ixD (eOwn 2) (cst (.int 2))) (cst []))) (cst (.int 3)))) (cst []))))) (sIf (e1 bOf (e2 eqD (eOwn 5) (cst (.int 6)))) (sPar3 7 3 8 (eCons (cst (.int 1)) (eCons (eLst (e1 lim (cst []))) (eCons (cst (.str "")) (cst []))))) (sPar 7 8 (eCons (e2 addD (e1 lenD (eCons (eStr joinD (cst (.str " ")) (eOwn 3)) (cst []))) (cst (.int 1))) (eCons (cst (.str "")) (cst [])))))))))) (b_law_1)
noncomputable def b_law_3 : Ev → Out := sSeq (sIf (eAnd (e1 bOf (e2 ltD (eOwn 5) (cst (.int 2)))) (e1 bOf (e2 eqD (e2 modD (e1 intD (eCons (e2 ixD (eOwn 2) (cst (.int 3))) (cst []))) (cst (.int 2))) (cst (.int 1))))) (sSetO 3 (e2 addO (eOwn 3) (eLst (e1 lim (eCons (cst (.str "A")) (eCons (cst (.str "")) (cst []))))))) (sNil)) (b_law_2)
noncomputable def c_law : Ev → Out := sSeq (sSet 1 (eCall m__law_draws (eCons (eVar 0) (eCons (cst (.int 310)) (cst []))))) (sSeq (sSet 2 (e3 sliceD (eOwn 1) (e1 intOf (cst (.int 300))) (pNo))) (sSeq (sSetO 3 (eCallO (m__law_words_k12 12) (eCons (eCallCT (m__law_formula_k10 12) (e3 sliceO (eOwn 1) (pNo) (e1 intOf (cst (.int 300)))) (e1 lim (eCons (cst (.int 6)) (eCons (cst (.int 3)) (cst [])))) (eCons (cst (.int 3)) (cst []))) (cst [])))) (sSeq (sSet 4 (e2 modD (e1 intD (eCons (e2 ixD (eOwn 2) (cst (.int 0))) (cst []))) (e1 lenD (eCons (eOwn 3) (cst []))))) (sSeq (sSet 5 (e2 modD (e1 intD (eCons (e2 ixD (eOwn 2) (cst (.int 1))) (cst []))) (cst (.int 8)))) (sSeq (sPar3 6 7 8 (eCons (cst (.int 1)) (eCons (eThaw 3 (eCall m__law_column (eCons (eVar 3) (eCons (eVar 4) (cst []))))) (eCons (cst (.str "\n")) (cst []))))) (b_law_3))))))
noncomputable def m_law : List D → R SD := runD 1 10 c_law
open TL (tl spl joinL numL)
/-! ### wrong words -/
theorem rl_pre : ∀ (a : List (List Nat)) (c : Int) (ws : List (List Nat)) (due : List Kd) (acc : List (Kd × Vl)), rl (cols c (a ++ ws)) due acc = match rl (cols c a) due acc with
    | .ok due' acc' => rl (cols (c + lenW a) ws) due' acc'
    | .bad z => .bad z
  | [], c, ws, due, acc => by simp [cols, rl, lenW]
  | w :: a, c, ws, [], acc => rfl
  | w :: a, c, ws, k :: due, acc => by
    have ih := fun v => rl_pre a (c + w.length + 1) ws (bh k v ++ due) (acc ++ [(k, v)])
    show (match vo k w with | none => RL.bad c | some v => rl (cols (c + w.length + 1) (a ++ ws)) (bh k v ++ due) (acc ++ [(k, v)])) = match (match vo k w with | none => RL.bad c | some v => rl (cols (c + w.length + 1) a) (bh k v ++ due) (acc ++ [(k, v)])) with
      | .ok due' acc' => rl (cols (c + lenW (w :: a)) ws) due' acc'
      | .bad z => .bad z
    cases vo k w with
    | none => rfl
    | some v =>
      simp only
      rw [ih, lenW_cons, show c + (w.length + 1 + lenW a) = c + w.length + 1 + lenW a from by omega]
theorem rl_part {f : Fm} (h : FmS f) {a b : List (List Nat)} (e : wF f = a ++ b) (hb : b ≠ []) : ∃ k due acc, rl (cols 1 a) [.formula] [] = .ok (k :: due) acc := by
  have full := rl_fm f 1 [] [] [] h
  rw [List.append_nil, e] at full
  have p := rl_pre a 1 b [.formula] []
  rw [full] at p
  cases q : rl (cols 1 a) [.formula] [] with
  | bad z => rw [q] at p; cases p
  | ok due acc =>
    cases due with
    | cons k due => exact ⟨k, due, acc, rfl⟩
    | nil =>
      rw [q] at p
      cases b with
      | nil => exact absurd rfl hb
      | cons w b => cases p
def BW : List (List Nat) := [[65], [], [49, 44], [61, 61], [45], [49, 44, 48], [110, 111, 116, 115]]
theorem bw_none : ∀ w ∈ BW, ∀ k : Kd, vo k w = none := by
  have h : ∀ w ∈ BW, ∀ k ∈ ([.poly, .many, .rows false, .rows true, .formula, .sign, .rsign] : List Kd), vo k w = none := by decide +kernel
  intro w hw k
  refine h w hw k ?_
  match k with
  | .poly => simp
  | .many => simp
  | .rows false => simp
  | .rows true => simp
  | .formula => simp
  | .sign => simp
  | .rsign => simp
theorem rl_wrong {f : Fm} (h : FmS f) {a b : List (List Nat)} (e : wF f = a ++ b) (hb : b ≠ []) {w : List Nat} (hw : w ∈ BW) (r : List (List Nat)) : rl (cols 1 (a ++ w :: r)) [.formula] [] = .bad (1 + lenW a) := by
  obtain ⟨k, due, acc, q⟩ := rl_part h e hb
  rw [rl_pre, q]
  show (match vo k w with | none => RL.bad (1 + lenW a) | some v => _) = _
  rw [bw_none w hw k]
theorem rl_more {f : Fm} (h : FmS f) (w : List Nat) (r : List (List Nat)) : rl (cols 1 (wF f ++ w :: r)) [.formula] [] = .bad (1 + lenW (wF f)) := by
  rw [rl_fm f 1 (w :: r) [] [] h]; rfl
theorem lenW_join : ∀ (l : List (List Nat)), l ≠ [] → lenW l = ((joinL [32] l).length : Int) + 1
  | [], h => absurd rfl h
  | [p], _ => by simp [lenW, joinL]
  | p :: q :: r, _ => by
    have ih := lenW_join (q :: r) (by simp)
    rw [lenW_cons, ih]
    show _ = ((p ++ ([32] ++ joinL [32] (q :: r))).length : Int) + 1
    simp; omega
/-- what read_line answers for words without spaces -/
theorem rline_bad {W : List (List Nat)} (hW : W ≠ []) (h32 : ∀ w ∈ W, 32 ∉ w) {z : Int} (h : rl (cols 1 W) [.formula] [] = .bad z) (e : Bool) : RLine (joinL [32] W) e = .ex (badX 1 z) := by
  unfold RLine
  have : wds (joinL [32] W) = W := TL.spl_join hW h32
  rw [this, h]
theorem rline_due {W : List (List Nat)} (hW : W ≠ []) (h32 : ∀ w ∈ W, 32 ∉ w) {k : Kd} {due : List Kd} {acc : List (Kd × Vl)} (h : rl (cols 1 W) [.formula] [] = .ok (k :: due) acc) (e : Bool) : RLine (joinL [32] W) e = .ex (badX 1 ((joinL [32] W).length + 1)) := by
  unfold RLine
  have : wds (joinL [32] W) = W := TL.spl_join hW h32
  rw [this, h]
  simp
theorem rline_open {f : Fm} (h : FmS f) : RLine (lineF f) false = .ex (badX 1 ((lineF f).length + 1)) := by
  unfold RLine
  rw [rl_line h]
  simp
/-! ### reading raw texts -/
theorem starL_1 (a : D) (r : List D) : starL 1 2 .list (a :: r) = [a, .list r] := by
  unfold starL
  simp
theorem strOk_of {w : List Nat} (h : ∀ c ∈ w, c < 128) : PyData.strOk (mk w) = true := by
  unfold PyData.strOk
  rw [Array.all_eq_true']
  intro c hc
  have := h c (by simpa using hc)
  simp; omega
theorem okD_ts {W : List (List Nat)} (h : ∀ w ∈ W, ∀ c ∈ w, c < 128) : okD 64 (.list (tsD W)) = true := okL_iff.mpr fun d hd => by
  obtain ⟨w, hw, rfl⟩ := List.mem_map.mp hd
  exact strOk_of (h w hw)
theorem ne_nil {W : List (List Nat)} (h : ∀ w ∈ W, ∀ c ∈ w, c < 128) : neD (.list (tsD W)) (.list []) = some (.bool (decide (W ≠ []))) := by
  rw [r_neD (okD_ts h) rfl]
  cases W <;> rfl
theorem read_raise {t l : List Nat} {rest : List (List Nat)} {x : Xn} (ht : t ≠ []) (hl : t.length ≤ 80000) (hs : spl [10] 0 [] t = l :: rest) (hr : ∀ w ∈ rest, ∀ c ∈ w, c < 128) (h : m_read_line [.str (mk l), .bool (decide (rest ≠ []))] = .ex x) : m_read_formula [.str (mk t)] = .ex x := by
  have e0 : ("" : Str) = mk [] := by decide +kernel
  have en : ("\n" : Str) = mk [10] := by decide +kernel
  have sp := split_mk 10 "\n" en (by decide) t (by omega)
  rw [hs, List.map_cons] at sp
  have sp : splitD (mk t) (.str "\n") = some (.str (mk l) :: tsD rest) := sp
  have ne := ne_nil hr
  have s1 := starL_1 (.str (mk l)) (tsD rest)
  generalize tsD rest = A at *
  generalize (decide (rest ≠ [])) = bb at *
  simp [m_read_formula, c_read_formula, e0, mk_eq, ht, sp, sStarA, s1, ne, eCall, h]
theorem read_second {t l : List Nat} {rest : List (List Nat)} {L : List D} (ht : t ≠ []) (hl : t.length ≤ 80000) (hs : spl [10] 0 [] t = l :: rest) (hr : rest ∈ ([[[], []], [[115, 105, 103, 110, 32, 48, 32, 61], []], [[120]]] : List (List (List Nat)))) (h : m_read_line [.str (mk l), .bool true] = .ok (.ow L)) : m_read_formula [.str (mk t)] = .ex (badX 2 1) := by
  have e0 : ("" : Str) = mk [] := by decide +kernel
  have en : ("\n" : Str) = mk [10] := by decide +kernel
  have sp := split_mk 10 "\n" en (by decide) t (by omega)
  rw [hs, List.map_cons] at sp
  have sp : splitD (mk t) (.str "\n") = some (.str (mk l) :: tsD rest) := sp
  have ne : neD (.list (tsD rest)) (.list []) = some (.bool true) ∧ neD (.list (tsD rest)) (.list [.str (mk [])]) = some (.bool true) := by
    have hr' : ∀ rest ∈ ([[[], []], [[115, 105, 103, 110, 32, 48, 32, 61], []], [[120]]] : List (List (List Nat))), (∀ w ∈ rest, ∀ c ∈ w, c < 128) := by decide
    have ok := okD_ts (hr' rest hr)
    have ok2 : okD 64 (.list [(.str (mk []) : D)]) = true := by decide +kernel
    rw [r_neD ok rfl, r_neD ok ok2]
    simp only [List.mem_cons, List.not_mem_nil, or_false] at hr
    rcases hr with rfl | rfl | rfl <;> exact ⟨rfl, rfl⟩
  obtain ⟨n1, n2⟩ := ne
  have s1 := starL_1 (.str (mk l)) (tsD rest)
  generalize tsD rest = A at *
  simp [m_read_formula, c_read_formula, e0, mk_eq, ht, sp, sStarA, s1, n1, n2, eCall, h, toD, r_raiseF, zipR, badX]
theorem read_empty : m_read_formula [.str (mk [])] = .ex (badX 1 1) := by
  have e0 : ("" : Str) = mk [] := by decide +kernel
  simp [m_read_formula, c_read_formula, e0, mk_eq, r_raiseF, zipR, badX]
/-! ### the error as it is asked -/
theorem try12 (x0 x1 x2 x4 x5 : SD) {s3 : SD} {A : List D} {J en t : List Nat} {l z : Int} (h3 : s3 = .ow A ∨ s3 = .sh (.list A)) (hj : joinD " " (.list A) = some (.str (mk J))) (ha : addD (.str (mk J)) (.str (mk en)) = some (.str (mk t)))
    (hr : m_read_formula [.str (mk t)] = .ex (badX l z)) :
    (sTryF "BadText" 9 (sDrop (eCall m_read_formula (eCons (e2 addD (eStr joinD (cst (.str " ")) (eOwn 3)) (eOwn 8)) (cst [])))) (fun a dd => sSeq (sIf (eOr (eNot (e1 truD (eIsF "BadText" a dd true (eOwn 9)))) (eOr (eNot (e1 truD (eIsF "BadText" a dd true (eOwn 9)))) (e1 truD (eIsF "BadText" a dd false (eOwn 9))))) (sRet (cst (.bool false))) (sNil)) (sSeq (sIf (eOr (eNot (e1 truD (eCall m__law_is_whole (eCons (eXf "BadText" "line" a dd (eOwn 9)) (cst []))))) (eNot (e1 truD (eCall m__law_is_whole (eCons (eXf "BadText" "column" a dd (eOwn 9)) (cst [])))))) (sRet (cst (.bool false))) (sNil)) (sRet (eAndV (e2 eqD (eXf "BadText" "line" a dd (eOwn 9)) (eOwn 6)) (e2 eqD (eXf "BadText" "column" a dd (eOwn 9)) (eOwn 7))))))) [x0, x1, x2, s3, x4, x5, .sh (.int l), .sh (.int z), .sh (.str (mk en)), .no] = .rt (.sh (.bool true)) := by
  have ks : ("line" : Str) ≠ "column" := by decide +kernel
  have w1 : ∀ z : Int, m__law_is_whole [.int z] = .ok (.sh (.bool true)) := fun z => by simp [m__law_is_whole, c__law_is_whole]
  have ej : ∀ ρ : Ev, eOwn 3 ρ = .ok (.list A) → eStr joinD (cst (.str " ")) (eOwn 3) ρ = .ok (.str (mk J)) := fun ρ hρ => by
    rw [r_eStrE (a := " ") (y := .list A) _ _ _ _ rfl hρ, hj]; rfl
  have e3 : eOwn 3 [x0, x1, x2, s3, x4, x5, .sh (.int l), .sh (.int z), .sh (.str (mk en)), .no] = .ok (.list A) := by rcases h3 with rfl | rfl <;> rfl
  have e4 := ej _ e3
  refine tryF_ex (ρ' := [x0, x1, x2, s3, x4, x5, .sh (.int l), .sh (.int z), .sh (.str (mk en)), .no]) (fl := [("column", .int z), ("line", .int l)]) (by simp [sDrop, eCall, e4, ha, hr, badX]) (by simp) fun a dd => ?_
  have x1 : exfSel "BadText" "line" a dd (exfD "BadText" a dd ["column", "line"] [.int z, .int l]) = some (.int l) := by simp [exfSel, exfD, keysOf, selF, ks]
  have x2 : exfSel "BadText" "column" a dd (exfD "BadText" a dd ["column", "line"] [.int z, .int l]) = some (.int z) := by simp [exfSel, exfD, keysOf, selF, ks]
  simp [eCall, x1, x2, w1, toD, offO]
theorem fin12 (x0 x1 x2 x4 x5 : SD) {s3 : SD} {A : List D} {J en t : List Nat} {l z : Int} (h3 : s3 = .ow A ∨ s3 = .sh (.list A)) (hj : joinD " " (.list A) = some (.str (mk J))) (ha : addD (.str (mk J)) (.str (mk en)) = some (.str (mk t)))
    (hr : m_read_formula [.str (mk t)] = .ex (badX l z)) : b_law_1 [x0, x1, x2, s3, x4, x5, .sh (.int l), .sh (.int z), .sh (.str (mk en)), .no] = .rt (.sh (.bool true)) := by
  have h := try12 x0 x1 x2 x4 x5 h3 hj ha hr
  unfold b_law_1
  show seqO _ _ = _
  rw [h]; rfl
/-! ### columns -/
theorem col_loop (x0 x1 : SD) : ∀ (W : List (List Nat)) (z : Int) (y3 : SD), (∀ w ∈ W, w.length ≤ 1000) → ∃ y3', forO (gTo (gSet 3) b__law_column_1) (tsD W) [x0, x1, .sh (.int z), y3] = .nx [x0, x1, .sh (.int (z + lenW W)), y3']
  | [], z, y3, _ => ⟨y3, by simp [forO, lenW]⟩
  | w :: W, z, y3, h => by
    obtain ⟨y3', ih⟩ := col_loop x0 x1 W (z + w.length + 1) (.sh (.str (mk w))) fun v hv => h v (by simp [hv])
    have ln : lenD [.str (mk w)] = some (.int (w.length : Int)) := if_pos (slB (by rw [mk_len]; have := h w (by simp); omega))
    have st : gTo (gSet 3) b__law_column_1 (.str (mk w)) [x0, x1, .sh (.int z), y3] = .nx [x0, x1, .sh (.int (z + w.length + 1)), .sh (.str (mk w))] := by
      simp [b__law_column_1, ln]
    refine ⟨y3', ?_⟩
    rw [tsD, List.map_cons, forO, st, lenW_cons, show z + (w.length + 1 + lenW W) = z + w.length + 1 + lenW W from by omega]
    exact ih
theorem column_ok {W : List (List Nat)} {p : Nat} (hp : p ≤ W.length) (h : ∀ w ∈ W, w.length ≤ 1000) (hl : W.length ≤ 20000) : m__law_column [.list (tsD W), .int (p : Int)] = .ok (.sh (.int (1 + lenW (W.take p)))) := by
  obtain ⟨y, e⟩ := col_loop (.sh (.list (tsD W))) (.sh (.int (p : Int))) (W.take p) 1 .no fun w hw => h w (List.mem_of_mem_take hw)
  have ct : cutL (tsD W) none (some (p : Int)) = tsD (W.take p) := by
    rw [cut_to _ _ (by rw [List.length_map]; exact hp)]; unfold tsD; rw [List.map_take]
  generalize tsD (W.take p) = B at *
  generalize tsD W = A at *
  simp [m__law_column, c__law_column, ct, e]
/-! ### the eight deeds -/
structure OkV (V : List (List Nat)) : Prop where
  len : V.length ≤ 300
  ok : ∀ w ∈ V, 32 ∉ w ∧ 10 ∉ w ∧ w.length ≤ 24
theorem OkV.jl {V : List (List Nat)} (h : OkV V) : (joinL [32] V).length ≤ 7500 := by
  have a := joinL_len (t := 32) (B := 24) V fun w hw => (h.ok w hw).2.2
  have := h.len
  omega
theorem OkV.j10 {V : List (List Nat)} (h : OkV V) : 10 ∉ joinL [32] V := fun hm => by
  rcases joinL_mem hm with z | ⟨w, hw, hx⟩
  · omega
  · exact (h.ok w hw).2.1 hx
theorem join12 {V : List (List Nat)} (hl : V.length ≤ 300) (h : ∀ w ∈ V, w.length ≤ 25) : joinD " " (.list (tsD V)) = some (.str (mk (joinL [32] V))) := by
  have mm : tsD V = (V.map mk).map fun w => (.str w : D) := by rw [List.map_map]; rfl
  obtain ⟨j1, j2⟩ := join_ok' (B := 25) " " (V.map mk) sp_len (fun w hw => by
    obtain ⟨x, hx, rfl⟩ := List.mem_map.mp hw
    exact h x hx) (by rw [List.length_map]; omega)
  rw [mm, j1]
  congr 2
  refine TL.ext_tl ?_
  rw [TL.join_eq, TL.tl_join, List.map_map, show (tl ∘ mk) = id from rfl, List.map_id, sp_eq]
theorem okV_join {V : List (List Nat)} (h : OkV V) : joinD " " (.list (tsD V)) = some (.str (mk (joinL [32] V))) := join12 h.len fun w hw => by have := (h.ok w hw).2.2; omega
theorem ad12 {a b : List Nat} (h : a.length + b.length ≤ 50000) : addD (.str (mk a)) (.str (mk b)) = some (.str (mk (a ++ b))) := by
  show (if (mk a).length + (mk b).length ≤ sizeLine then some (PyData.str (mk a ++ mk b)) else none) = _
  rw [if_pos (slB (by rw [mk_len, mk_len]; omega)), mk_app]
theorem fm_okV {f : Fm} (h : FmX f) (hd : f.dp ≤ 6) (hn : nS f + nB f ≤ 9) : OkV (wF f) := ⟨by have := (line_le h hd hn).1; omega, fun w hw => ⟨(wOk_F f h.s w hw).1, (wOk_F f h.s w hw).2.1, wl24 f h w hw⟩⟩
theorem nl12 : ("\n" : Str) = mk [10] := by decide +kernel
/-- a line that is ended, read_line raises -/
theorem end_nl (x0 x1 x2 x4 x5 : SD) {s3 : SD} {V : List (List Nat)} (h : OkV V) (h3 : s3 = .ow (tsD V) ∨ s3 = .sh (.list (tsD V))) {l z : Int} (hr : RLine (joinL [32] V) true = .ex (badX l z)) :
    b_law_1 [x0, x1, x2, s3, x4, x5, .sh (.int l), .sh (.int z), .sh (.str "\n"), .no] = .rt (.sh (.bool true)) := by
  have jl := h.jl
  rw [nl12]
  refine fin12 x0 x1 x2 x4 x5 (en := [10]) h3 (okV_join h) (ad12 (by simp; omega)) ?_
  refine read_raise (rest := [[]]) (by simp) (by simp; omega) (spl_last10 _ [] h.j10) (by simp) ?_
  have := read_line_ok (l := joinL [32] V) (by omega) true
  rw [hr] at this
  exact this
theorem spl_no : ∀ (l acc : List Nat), 10 ∉ l → spl [10] 0 acc l = [acc ++ l]
  | [], acc, _ => by rw [TL.spl_nil, List.append_nil]
  | c :: l, acc, h => by
    rw [spl_c, if_neg (fun z => h (by simp [z])), spl_no l _ (fun z => h (by simp [z]))]
    simp
/-- a line that is not ended -/
theorem end_open (x0 x1 x2 x4 x5 : SD) {s3 : SD} {V : List (List Nat)} (h : OkV V) (hne : joinL [32] V ≠ []) (h3 : s3 = .ow (tsD V) ∨ s3 = .sh (.list (tsD V))) {l z : Int} (hr : RLine (joinL [32] V) false = .ex (badX l z)) :
    b_law_1 [x0, x1, x2, s3, x4, x5, .sh (.int l), .sh (.int z), .sh (.str ""), .no] = .rt (.sh (.bool true)) := by
  have jl := h.jl
  have e0 : ("" : Str) = mk [] := by decide +kernel
  rw [e0]
  refine fin12 x0 x1 x2 x4 x5 (en := []) h3 (okV_join h) (ad12 (by simp; omega)) ?_
  rw [List.append_nil]
  refine read_raise (rest := []) hne (by omega) (by have := spl_no (joinL [32] V) [] h.j10; simpa using this) (by simp) ?_
  have := read_line_ok (l := joinL [32] V) (by omega) false
  rw [hr] at this
  exact this
theorem spl_mid : ∀ (l acc r : List Nat), 10 ∉ l → spl [10] 0 acc (l ++ 10 :: r) = (acc ++ l) :: spl [10] 0 [] r
  | [], acc, r, _ => by rw [List.nil_append, spl_c, if_pos rfl, List.append_nil]
  | c :: l, acc, r, h => by
    rw [List.cons_append, spl_c, if_neg (fun z => h (by simp [z])), spl_mid l _ r (fun z => h (by simp [z]))]
    simp
/-- a second line -/
theorem end_second (x0 x1 x2 x4 x5 : SD) {s3 : SD} {f : Fm} (hf : FmS f) (h : OkV (wF f)) (h3 : s3 = .ow (tsD (wF f)) ∨ s3 = .sh (.list (tsD (wF f)))) {r : List Nat} (hr : r ∈ ([[10], [115, 105, 103, 110, 32, 48, 32, 61, 10], [120]] : List (List Nat))) :
    b_law_1 [x0, x1, x2, s3, x4, x5, .sh (.int 2), .sh (.int 1), .sh (.str (mk (10 :: r))), .no] = .rt (.sh (.bool true)) := by
  have jl := h.jl
  have rl : r.length ≤ 9 := by
    have : ∀ r ∈ ([[10], [115, 105, 103, 110, 32, 48, 32, 61, 10], [120]] : List (List Nat)), r.length ≤ 9 := by decide
    exact this r hr
  refine fin12 x0 x1 x2 x4 x5 (en := 10 :: r) h3 (okV_join h) (ad12 (by simp; omega)) ?_
  have rd := read_line_ok (l := joinL [32] (wF f)) (by omega) true
  have rl1 : RLine (joinL [32] (wF f)) true = .ok (.ow ((kvF f).map fD)) := by
    show RLine (lineF f) true = _
    unfold RLine
    rw [rl_line hf]
    simp
  rw [rl1] at rd
  refine read_second (rest := spl [10] 0 [] r) (by simp) (by simp; omega) (spl_mid _ [] r h.j10) ?_ rd
  have : ∀ r ∈ ([[10], [115, 105, 103, 110, 32, 48, 32, 61, 10], [120]] : List (List Nat)), spl [10] 0 [] r ∈ ([[[], []], [[115, 105, 103, 110, 32, 48, 32, 61], []], [[120]]] : List (List (List Nat))) := by decide
  exact this r hr
/-- an empty first line -/
theorem end_first (x0 x1 x2 x4 x5 : SD) {s3 : SD} {w : List Nat} {V : List (List Nat)} (h : OkV (w :: V)) (hc : ∀ v ∈ w :: V, ∀ c ∈ v, c < 128) (h3 : s3 = .ow (tsD ((10 :: w) :: V)) ∨ s3 = .sh (.list (tsD ((10 :: w) :: V)))) :
    b_law_1 [x0, x1, x2, s3, x4, x5, .sh (.int 1), .sh (.int 1), .sh (.str "\n"), .no] = .rt (.sh (.bool true)) := by
  have jl := h.jl
  rw [nl12]
  have jj : joinL [32] ((10 :: w) :: V) = 10 :: joinL [32] (w :: V) := by cases V <;> rfl
  have jn : joinD " " (.list (tsD ((10 :: w) :: V))) = some (.str (mk (10 :: joinL [32] (w :: V)))) := by
    rw [← jj]
    refine join12 (by have := h.len; simpa using this) fun v hv => ?_
    rcases List.mem_cons.mp hv with rfl | hv
    · have := (h.ok w (by simp)).2.2; simp; omega
    · have := (h.ok v (by simp [hv])).2.2; omega
  refine fin12 x0 x1 x2 x4 x5 (en := [10]) h3 jn (ad12 (by simp; omega)) ?_
  refine read_raise (l := []) (rest := [joinL [32] (w :: V), []]) (by simp) (by simp; omega) ?_ ?_ ?_
  · show spl [10] 0 [] ([] ++ 10 :: (joinL [32] (w :: V) ++ [10])) = _
    rw [spl_mid _ _ _ (by simp), spl_last10 _ [] h.j10]; rfl
  · intro v hv c hcv
    simp at hv
    rcases hv with rfl | rfl
    · rcases joinL_mem hcv with z | ⟨u, hu, hx⟩
      · omega
      · exact hc u hu c hx
    · simp at hcv
  · have := read_line_ok (l := []) (by simp) true
    have r0 : rl (cols 1 (wds [])) [.formula] [] = .bad 1 := by decide +kernel
    have r1 : RLine [] true = .ex (badX 1 1) := by unfold RLine; rw [r0]
    rw [r1] at this
    exact this
/-- nothing -/
theorem end_none (x0 x1 x2 x4 x5 : SD) {s3 : SD} (h3 : s3 = .ow [] ∨ s3 = .sh (.list [])) : b_law_1 [x0, x1, x2, s3, x4, x5, .sh (.int 1), .sh (.int 1), .sh (.str ""), .no] = .rt (.sh (.bool true)) := by
  have e0 : ("" : Str) = mk [] := by decide +kernel
  rw [e0]
  have jn : joinD " " (.list []) = some (.str (mk [])) := by
    have := okV_join (V := []) ⟨by simp, by simp⟩
    exact this
  exact fin12 x0 x1 x2 x4 x5 (en := []) h3 jn (ad12 (by simp)) read_empty
theorem bw_ix (z : Int) : ∃ B ∈ BW, ixD (.list [.str "A", .str "", .str "1,", .str "==", .str "-", .str "1,0", .str "nots"]) (.int (z.fmod 7)) = some (.str (mk B)) := by
  obtain ⟨h0, h1⟩ := fmod_rng (a := z) (b := 7) (by decide)
  generalize z.fmod 7 = v at h0 h1
  have : v = 0 ∨ v = 1 ∨ v = 2 ∨ v = 3 ∨ v = 4 ∨ v = 5 ∨ v = 6 := by omega
  rcases this with rfl | rfl | rfl | rfl | rfl | rfl | rfl
  · exact ⟨[65], by decide, rfl⟩
  · exact ⟨[], by decide, rfl⟩
  · exact ⟨[49, 44], by decide, rfl⟩
  · exact ⟨[61, 61], by decide, rfl⟩
  · exact ⟨[45], by decide, rfl⟩
  · exact ⟨[49, 44, 48], by decide, rfl⟩
  · exact ⟨[110, 111, 116, 115], by decide, rfl⟩
theorem more_ix (z : Int) : ∃ B ∈ ([[120], [48], [115, 105, 103, 110], [60]] : List (List Nat)), ixD (.list [.str "x", .str "0", .str "sign", .str "<"]) (.int (z.fmod 4)) = some (.str (mk B)) := by
  obtain ⟨h0, h1⟩ := fmod_rng (a := z) (b := 4) (by decide)
  generalize z.fmod 4 = v at h0 h1
  have : v = 0 ∨ v = 1 ∨ v = 2 ∨ v = 3 := by omega
  rcases this with rfl | rfl | rfl | rfl
  · exact ⟨[120], by decide, rfl⟩
  · exact ⟨[48], by decide, rfl⟩
  · exact ⟨[115, 105, 103, 110], by decide, rfl⟩
  · exact ⟨[60], by decide, rfl⟩
theorem end_ix (z : Int) : ∃ r ∈ ([[10], [115, 105, 103, 110, 32, 48, 32, 61, 10], [120]] : List (List Nat)), ixD (.list [.str "\n\n", .str "\nsign 0 =\n", .str "\nx"]) (.int (z.fmod 3)) = some (.str (mk (10 :: r))) := by
  obtain ⟨h0, h1⟩ := fmod_rng (a := z) (b := 3) (by decide)
  generalize z.fmod 3 = v at h0 h1
  have : v = 0 ∨ v = 1 ∨ v = 2 := by omega
  rcases this with rfl | rfl | rfl
  · exact ⟨[10], by decide, rfl⟩
  · exact ⟨[115, 105, 103, 110, 32, 48, 32, 61, 10], by decide, rfl⟩
  · exact ⟨[120], by decide, rfl⟩
theorem bw_ok : ∀ B ∈ BW, 32 ∉ B ∧ 10 ∉ B ∧ B.length ≤ 24 := by decide
/-- a word replaced -/
theorem deed01 (x0 x1 : SD) {f : Fm} (hf : FmS f) (h : OkV (wF f)) {p : Nat} (hp : p < (wF f).length) (hl : (wF f).length ≤ 290) {d : Int} (hd : d < 2) {ys : List Int} {g2 : Int} (i2 : ixD (pD ys) (.int 2) = some (.int g2)) (E : List (List Nat)) (hE : E = [] ∨ E = [[65], []]) :
    b_law_2 [x0, x1, .sh (pD ys), .ow (tsD (wF f ++ E)), .sh (.int (p : Int)), .sh (.int d), .sh (.int 1), .sh (.int (1 + lenW ((wF f).take p))), .sh (.str "\n"), .no] = .rt (.sh (.bool true)) := by
  obtain ⟨B, hB, ix⟩ := bw_ix g2
  have m2 : modD (.int g2) (.int 7) = some (.int (g2.fmod 7)) := r_mod (by decide)
  have hs : (tsD (wF f ++ E)).set p (.str (mk B)) = tsD ((wF f).take p ++ B :: ((wF f).drop (p + 1) ++ E)) := by
    have e1 : (tsD (wF f ++ E)).set p (.str (mk B)) = tsD ((wF f ++ E).set p B) := by unfold tsD; rw [List.map_set]
    rw [e1, List.set_eq_take_append_cons_drop, if_pos (by rw [List.length_append]; omega), List.take_append_of_le_length (by omega), List.drop_append_of_le_length (by omega)]
  have V : OkV ((wF f).take p ++ B :: ((wF f).drop (p + 1) ++ E)) := ⟨by
    have : E.length ≤ 2 := by rcases hE with rfl | rfl <;> simp
    simp; omega, fun w hw => by
    rcases List.mem_append.mp hw with hw | hw
    · exact h.ok w (List.mem_of_mem_take hw)
    · rcases List.mem_cons.mp hw with rfl | hw
      · exact bw_ok w hB
      · rcases List.mem_append.mp hw with hw | hw
        · exact h.ok w (List.mem_of_mem_drop hw)
        · rcases hE with rfl | rfl
          · simp at hw
          · have : ∀ w ∈ ([[65], []] : List (List Nat)), 32 ∉ w ∧ 10 ∉ w ∧ w.length ≤ 24 := by decide
            exact this w hw⟩
  have rw1 := rl_wrong hf (a := (wF f).take p) (b := (wF f).drop p) (List.take_append_drop p _).symm (by simp; omega) hB ((wF f).drop (p + 1) ++ E)
  have rb := rline_bad (by simp) (fun w hw => (V.ok w hw).1) rw1 true
  have en := end_nl x0 x1 (.sh (pD ys)) (.sh (.int (p : Int))) (.sh (.int d)) V (.inl rfl) rb
  have nx : ixN (tsD (wF f ++ E)).length (p : Int) = some p := ixN_nat (by rw [List.length_map, List.length_append]; omega)
  rw [← hs] at en
  generalize tsD (wF f ++ E) = A at *
  simp [b_law_2, hd, i2, m2, ix, nx, en, sStore, -r_ix_l]

theorem wF_2 : ∀ f : Fm, 2 ≤ (wF f).length
  | .sg p s => by simp [wF]
  | .bl m rs => by simp [wF]
  | .no f => by have := List.length_pos_iff.mpr (wF_ne f); simp [wF]; omega
  | .an f g => by have := List.length_pos_iff.mpr (wF_ne f); simp [wF]; omega
  | .or f g => by have := List.length_pos_iff.mpr (wF_ne f); simp [wF]; omega
theorem ch_num {n : Nat} (h : n ≤ 9) : ∀ c ∈ numL n, c < 128 := by
  have : ∀ n < 10, ∀ c ∈ numL n, c < 128 := by decide +kernel
  exact this n (by omega)
theorem ch_poly {p : List Int} (h : PW p) : ∀ c ∈ pwl p, c < 128 := fun c hm => by
  unfold pwl at hm
  by_cases hp : p = []
  · rw [if_pos hp] at hm; simp at hm; omega
  · rw [if_neg hp] at hm
    rcases joinL_mem hm with z | ⟨w, hw, hx⟩
    · omega
    · obtain ⟨z, hz, rfl⟩ := List.mem_map.mp hw
      rcases (txl_ok (h.sz z hz).1 (h.sz z hz).2).ok _ hx with e | e
      · omega
      · obtain ⟨a, ha, rfl⟩ := dig_le e; omega
theorem ch_F : ∀ (f : Fm), FmS f → ∀ w ∈ wF f, ∀ c ∈ w, c < 128
  | .sg p s, h, w, hw => by
    have s6 : ∀ s ∈ SG6, ∀ c ∈ s, c < 128 := by decide
    simp only [wF, List.mem_cons, List.not_mem_nil, or_false] at hw
    rcases hw with rfl | rfl | rfl
    · decide
    · exact ch_poly h.1.1
    · exact s6 _ h.2
  | .bl m rs, h, w, hw => by
    have s3 : ∀ s ∈ SG3, ∀ c ∈ s, c < 128 := by decide
    obtain ⟨m1, m2, r1, r5, hr⟩ := h
    simp only [wF, List.mem_cons] at hw
    rcases hw with rfl | rfl | rfl | hw
    · decide
    · exact ch_num (by omega)
    · exact ch_num (by omega)
    · obtain ⟨r, hr', hw⟩ := List.mem_flatMap.mp hw
      rcases List.mem_append.mp hw with hw | hw
      · obtain ⟨p, hp, rfl⟩ := List.mem_map.mp hw
        exact ch_poly ((hr r hr').ps p hp).1
      · rw [List.mem_singleton.mp hw]; exact s3 _ (hr r hr').s
  | .no f, h, w, hw => by
    rcases List.mem_cons.mp hw with rfl | hw
    · decide
    · exact ch_F f h w hw
  | .an f g, h, w, hw => by
    rcases List.mem_cons.mp hw with rfl | hw
    · decide
    · rcases List.mem_append.mp hw with hw | hw
      · exact ch_F f h.1 w hw
      · exact ch_F g h.2 w hw
  | .or f g, h, w, hw => by
    rcases List.mem_cons.mp hw with rfl | hw
    · decide
    · rcases List.mem_append.mp hw with hw | hw
      · exact ch_F f h.1 w hw
      · exact ch_F g h.2 w hw
theorem len12 {l : List Nat} (h : l.length ≤ 90000) : lenD [.str (mk l)] = some (.int (l.length : Int)) := if_pos (slB (by rw [mk_len]; omega))
theorem deeds (x0 x1 : SD) {f : Fm} (hf : FmS f) (h : OkV (wF f)) (hch : ∀ w ∈ wF f, ∀ c ∈ w, c < 128) {p : Nat} (hp : p < (wF f).length) (hl : (wF f).length ≤ 290) {d : Int} (d2 : 2 ≤ d) (d8 : d < 8) {ys : List Int} {g2 : Int} (i2 : ixD (pD ys) (.int 2) = some (.int g2)) :
    b_law_2 [x0, x1, .sh (pD ys), .ow (tsD (wF f)), .sh (.int (p : Int)), .sh (.int d), .sh (.int 1), .sh (.int (1 + lenW ((wF f).take p))), .sh (.str "\n"), .no] = .rt (.sh (.bool true)) := by
  have nd : ¬ d < 2 := by omega
  have jl := h.jl
  have ej := okV_join h
  have ln := len12 (l := joinL [32] (wF f)) (by omega)
  have hne : joinL [32] (wF f) ≠ [] := by
    have := lenW_join (wF f) (wF_ne f)
    intro z
    rw [z] at this
    have l2 : 2 ≤ lenW (wF f) := by
      have l3 : 2 ≤ (wF f).length := wF_2 f
      have l4 : ∀ l : List (List Nat), (l.length : Int) ≤ lenW l := fun l => by
        induction l with
        | nil => simp [lenW]
        | cons a l ih => rw [lenW_cons]; simp; omega
      have := l4 (wF f); omega
    simp at this; omega
  have eopen := end_open x0 x1 (.sh (pD ys)) (.sh (.int (p : Int))) (.sh (.int d)) h hne (.inl rfl) (l := 1) (z := ((joinL [32] (wF f)).length : Int) + 1) (rline_open hf)
  by_cases h2 : d = 2
  · subst h2
    by_cases hp0 : p = 0
    · subst hp0
      generalize tsD (wF f) = A at *
      simp [b_law_2, ej, ln]
      exact eopen
    · have hpp : (0 : Int) < (p : Int) := by omega
      have V : OkV ((wF f).take p) := ⟨by rw [List.length_take]; omega, fun w hw => h.ok w (List.mem_of_mem_take hw)⟩
      obtain ⟨k, due, acc, q⟩ := rl_part hf (a := (wF f).take p) (b := (wF f).drop p) (List.take_append_drop p _).symm (by simp; omega)
      have rb := rline_due (by intro z; rw [List.take_eq_nil_iff] at z; rcases z with z | z; omega; exact wF_ne f z) (fun w hw => (V.ok w hw).1) q true
      have en := end_nl x0 x1 (.sh (pD ys)) (.sh (.int (p : Int))) (.sh (.int 2)) V (.inl rfl) rb
      have ej2 := okV_join V
      have hpn : 0 < p := by omega
      have ln2 := len12 (l := joinL [32] ((wF f).take p)) (by have := V.jl; omega)
      have ct : cutL (tsD (wF f)) none (some (p : Int)) = tsD ((wF f).take p) := by
        rw [cut_to _ _ (by rw [List.length_map]; omega)]; unfold tsD; rw [List.map_take]
      generalize tsD ((wF f).take p) = B at *
      generalize tsD (wF f) = A at *
      simp [b_law_2, ct, ej2, ln2, en, hpp, hpn]
  by_cases h3 : d = 3
  · subst h3
    obtain ⟨B, hB, ix⟩ := more_ix g2
    have m2 : modD (.int g2) (.int 4) = some (.int (g2.fmod 4)) := r_mod (by decide)
    have V : OkV (wF f ++ [B]) := ⟨by simp; omega, fun w hw => by
      rcases List.mem_append.mp hw with hw | hw
      · exact h.ok w hw
      · have : ∀ B ∈ ([[120], [48], [115, 105, 103, 110], [60]] : List (List Nat)), 32 ∉ B ∧ 10 ∉ B ∧ B.length ≤ 24 := by decide
        rw [List.mem_singleton.mp hw]; exact this B hB⟩
    have rb := rline_bad (by simp) (fun w hw => (V.ok w hw).1) (rl_more hf B []) true
    rw [lenW_join _ (wF_ne f), show 1 + (((joinL [32] (wF f)).length : Int) + 1) = ((joinL [32] (wF f)).length : Int) + 2 from by omega] at rb
    have en := end_nl x0 x1 (.sh (pD ys)) (.sh (.int (p : Int))) (.sh (.int 3)) V (.inl rfl) rb
    rw [tsD_app] at en
    have fl : (tsD (wF f)).length < sizeLine := Nat.lt_of_lt_of_le (by rw [List.length_map]; omega : _ < 1000) (by decide)
    have e1 : tsD [B] = [.str (mk B)] := rfl
    rw [e1] at en
    generalize tsD (wF f) = A at *
    simp [b_law_2, ej, ln, i2, m2, ix, onOw, fl, en, -r_ix_l]
  by_cases h4 : d = 4
  · subst h4
    obtain ⟨w, V, hwV⟩ : ∃ w V, wF f = w :: V := by
      cases q : wF f with
      | nil => exact absurd q (wF_ne f)
      | cons w V => exact ⟨w, V, rfl⟩
    rw [hwV] at h hch ⊢
    have en := end_first x0 x1 (.sh (pD ys)) (.sh (.int (p : Int))) (.sh (.int 4)) h hch (.inr rfl)
    have lw := (h.ok w (by simp)).2.2
    have lV := h.len
    have a1 : addD (.str "\n") (.str (mk w)) = some (.str (mk (10 :: w))) := by rw [nl12, ad12 (by simp; omega)]; rfl
    have i0 : ixD (.list (tsD (w :: V))) (.int 0) = some (.str (mk w)) := ixl_0 _ _
    have ct : cutL (tsD (w :: V)) (some 1) none = tsD V := cut_1 _ _
    have ca : catD [.str (mk (10 :: w))] (tsD V) = some (tsD ((10 :: w) :: V)) := r_cat (slB (by simp at lV ⊢; omega))
    generalize tsD ((10 :: w) :: V) = C at *
    generalize tsD (w :: V) = A at *
    generalize tsD V = B at *
    simp [b_law_2, a1, i0, ct, ca, en, -r_ix_l]
  by_cases h5 : d = 5
  · subst h5
    obtain ⟨r, hr, ix⟩ := end_ix g2
    have m2 : modD (.int g2) (.int 3) = some (.int (g2.fmod 3)) := r_mod (by decide)
    have en := end_second x0 x1 (.sh (pD ys)) (.sh (.int (p : Int))) (.sh (.int 5)) hf h (.inl rfl) hr
    generalize tsD (wF f) = A at *
    simp [b_law_2, m2, i2, ix, en, -r_ix_l]
  by_cases h6 : d = 6
  · subst h6
    have en := end_none x0 x1 (.sh (pD ys)) (.sh (.int (p : Int))) (.sh (.int 6)) (.inr rfl)
    generalize tsD (wF f) = A at *
    simp [b_law_2, en]
  · have h7 : d = 7 := by omega
    subst h7
    generalize tsD (wF f) = A at *
    simp [b_law_2, ej, ln, eopen]
theorem lrows_O {m : Nat} (hm : m ≤ 2) {mf : List D → R SD} (x0 x1 x7 : SD) : ∀ (rs : List Row) (W : List (List Nat)) (y3 y4 y5 : SD), (∀ r ∈ rs, RowS m r) → W.length + rs.length * 4 ≤ 1000 →
    ∃ y3' y4' y5', forO (gTo (gTupD 3 (gsCons (gSet 3) (gsCons (gSet 4) (gsCons (gSet 5) (gsNil))))) (b__law_words_k12_1 mf)) (rs.map rowD) [x0, x1, .ow (tsD W), y3, y4, y5, .no, x7] = .nx [x0, x1, .ow (tsD (W ++ rs.flatMap wR)), y3', y4', y5', .no, x7]
  | [], W, y3, y4, y5, _, _ => ⟨y3, y4, y5, by simp [forO]⟩
  | r :: rs, W, y3, y4, y5, hr, hl => by
    have h := hr r (by simp)
    have hlen := h.len
    have l1 : (wR r).length ≤ 4 := by simp [wR, hlen]; omega
    obtain ⟨y3', y4', y5', ih⟩ := lrows_O hm (mf := mf) x0 x1 x7 rs (W ++ wR r) (.sh (.list (r.ps.map pD))) (.sh (pD r.q)) (.sh (.str r.s)) (fun q hq => hr q (by simp [hq])) (by simp at hl ⊢; omega)
    refine ⟨y3', y4', y5', ?_⟩
    have e : rowD r = .tuple [.list (r.ps.map pD), pD r.q, .str r.s] := rfl
    have cm := fun ρ : Ev => fun (hρ : 6 < ρ.length) => compR_map' (step := compS [6] (gSet 6) (cst true) (eCall m__law_poly_text (eCons (eVar 6) (cst []))) ρ) (F := pD) (φ := fun p => (.str (mk (pwl p)) : D)) (l := r.ps) fun p hp' => by
      have := pt_ok (h.ps p (by simp [hp'])).1
      simp [compS, wipeE, hρ, this]
    have mm : (r.ps.map fun p => (.str (mk (pwl p)) : D)) = tsD (r.ps.map pwl) := by unfold tsD; rw [List.map_map]; rfl
    rw [mm] at cm
    have cc := cm [x0, x1, .ow (tsD W), .sh (.list (r.ps.map pD)), .sh (pD r.q), .sh (.str r.s), .no, x7] (by simp)
    have cq := pt_ok (h.ps r.q (by simp)).1
    have bl : (r.ps.map pD).length ≤ sizeLine := slB (by rw [List.length_map, hlen]; omega)
    have c1 : catD (tsD W) (tsD (r.ps.map pwl)) = some (tsD (W ++ r.ps.map pwl)) := by
      rw [r_cat (slB (by simp at hl ⊢; rw [hlen]; omega)), tsD_app]
    have c2 : catD (tsD (W ++ r.ps.map pwl)) [.str (mk (pwl r.q)), .str r.s] = some (tsD (W ++ wR r)) := by
      rw [r_cat (slB (by simp at hl ⊢; rw [hlen]; omega))]
      unfold tsD wR
      simp [mk_tl]
    have st : gTo (gTupD 3 (gsCons (gSet 3) (gsCons (gSet 4) (gsCons (gSet 5) (gsNil))))) (b__law_words_k12_1 mf) (rowD r) [x0, x1, .ow (tsD W), y3, y4, y5, .no, x7] = .nx [x0, x1, .ow (tsD (W ++ wR r)), .sh (.list (r.ps.map pD)), .sh (pD r.q), .sh (.str r.s), .no, x7] := by
      rw [e]
      generalize tsD W = A at *
      generalize tsD (r.ps.map pwl) = B at *
      generalize tsD (W ++ r.ps.map pwl) = C at *
      generalize tsD (W ++ wR r) = E at *
      simp [b__law_words_k12_1, bl, cc, cq, c1, c2, -List.map_map, -List.length_map]
    rw [List.map_cons, forO, st, List.flatMap_cons, ← List.append_assoc]
    exact ih
theorem words_O : ∀ (f : Fm) (n : Nat), FmS f → f.dp < n → (wF f).length ≤ 20000 → m__law_words_k12 n [fmD f] = .ok (.ow (tsD (wF f)))
  | f, 0, _, h, _ => by omega
  | .sg p s, n + 1, h, hd, hl => by
    have p2 := pt_ok h.1.1
    have e : tsD (wF (.sg p s)) = [.str "sign", .str (mk (pwl p)), .str s] := by
      show ([.str (mk wSign), .str (mk (pwl p)), .str (mk (tl s))] : List D) = _
      rw [wSign_eq, mk_tl]
    rw [m__law_words_k12_succ, e]
    simp [c__law_words_k12, fmD, ixt_0, ixt_1, ixt_2, p2, -r_ix_t]
  | .bl m rs, n + 1, h, hd, hl => by
    obtain ⟨m1, m2, r1, r5, hr⟩ := h
    obtain ⟨_, t2, _⟩ := tx_fm (c := (m : Int)) (by omega) (by omega)
    obtain ⟨_, n2, _⟩ := tx_fm (c := (rs.length : Int)) (by omega) (by omega)
    have ln : lenD [.list (rs.map rowD)] = some (.int (rs.length : Int)) := by rw [r_len_l, List.length_map]
    obtain ⟨z3, z4, z5, e'⟩ := lrows_O m2 (mf := m__law_words_k12 n) (.sh (.tuple [.str "some", .int (m : Int), .list (rs.map rowD)])) (.sh (.str "some")) .no rs [wSome, numL m, numL rs.length] .no .no .no hr (by simp; omega)
    have s3 : tsD [wSome, numL m, numL rs.length] = [.str "some", .str (tx m), .str (tx rs.length)] := by rw [tx_nat, tx_nat, wSome_eq]; rfl
    rw [s3] at e'
    have hW : [wSome, numL m, numL rs.length] ++ rs.flatMap wR = wF (.bl m rs) := rfl
    rw [hW] at e'
    rw [m__law_words_k12_succ]
    generalize tsD (wF (.bl m rs)) = A at *
    simp [c__law_words_k12, fmD, ixt_0, ixt_1, ixt_2, t2, n2, ln, e', -r_ix_t, -r_len_l]
  | .no f, n + 1, h, hd, hl => by
    simp only [wF, List.length_cons] at hl
    have w2 := words_O f n h (by simp [Fm.dp] at hd; omega) (by omega)
    have ca : catD [.str "not"] (tsD (wF f)) = some (.str "not" :: tsD (wF f)) := r_cat (slB (by simp; omega))
    rw [m__law_words_k12_succ]
    have mm : tsD (wF (.no f)) = .str "not" :: tsD (wF f) := by rw [wNot_eq]; rfl
    rw [mm]
    generalize tsD (wF f) = A at *
    simp [c__law_words_k12, fmD, ixt_0, cut_1, forO, b__law_words_k12_2, w2, toD, ca, -r_ix_t]
  | .an f g, n + 1, h, hd, hl => by
    simp only [wF, List.length_cons, List.length_append] at hl
    have w2 := words_O f n h.1 (by simp [Fm.dp] at hd; omega) (by omega)
    have v2 := words_O g n h.2 (by simp [Fm.dp] at hd; omega) (by omega)
    have ca : catD [.str "and"] (tsD (wF f)) = some (.str "and" :: tsD (wF f)) := r_cat (slB (by simp; omega))
    have cb : catD (.str "and" :: tsD (wF f)) (tsD (wF g)) = some (.str "and" :: tsD (wF f) ++ tsD (wF g)) := r_cat (slB (by simp; omega))
    have mm : tsD (wF (.an f g)) = .str "and" :: tsD (wF f) ++ tsD (wF g) := by rw [wAnd_eq]; simp [wF]
    rw [m__law_words_k12_succ, mm]
    generalize tsD (wF f) = A at *
    generalize tsD (wF g) = B at *
    simp [c__law_words_k12, fmD, ixt_0, cut_1, forO, b__law_words_k12_2, w2, v2, toD, ca, cb, -r_ix_t]
    try (simp at cb; exact cb)
  | .or f g, n + 1, h, hd, hl => by
    simp only [wF, List.length_cons, List.length_append] at hl
    have w2 := words_O f n h.1 (by simp [Fm.dp] at hd; omega) (by omega)
    have v2 := words_O g n h.2 (by simp [Fm.dp] at hd; omega) (by omega)
    have ca : catD [.str "or"] (tsD (wF f)) = some (.str "or" :: tsD (wF f)) := r_cat (slB (by simp; omega))
    have cb : catD (.str "or" :: tsD (wF f)) (tsD (wF g)) = some (.str "or" :: tsD (wF f) ++ tsD (wF g)) := r_cat (slB (by simp; omega))
    have mm : tsD (wF (.or f g)) = .str "or" :: tsD (wF f) ++ tsD (wF g) := by rw [wOr_eq]; simp [wF]
    rw [m__law_words_k12_succ, mm]
    generalize tsD (wF f) = A at *
    generalize tsD (wF g) = B at *
    simp [c__law_words_k12, fmD, ixt_0, cut_1, forO, b__law_words_k12_2, w2, v2, toD, ca, cb, -r_ix_t]
    try (simp at cb; exact cb)
theorem leaves_le : ∀ f : Fm, nS f + nB f ≤ 2 ^ f.dp
  | .sg p s => by simp [nS, nB, Fm.dp]
  | .bl m rs => by simp [nS, nB, Fm.dp]
  | .no f => by
    have := leaves_le f
    simp only [nS, nB, Fm.dp, Nat.pow_succ]; omega
  | .an f g => by
    have a := leaves_le f
    have b := leaves_le g
    have c : 2 ^ f.dp ≤ 2 ^ max f.dp g.dp := Nat.pow_le_pow_right (by decide) (by omega)
    have d : 2 ^ g.dp ≤ 2 ^ max f.dp g.dp := Nat.pow_le_pow_right (by decide) (by omega)
    simp only [nS, nB, Fm.dp, Nat.pow_succ]; omega
  | .or f g => by
    have a := leaves_le f
    have b := leaves_le g
    have c : 2 ^ f.dp ≤ 2 ^ max f.dp g.dp := Nat.pow_le_pow_right (by decide) (by omega)
    have d : 2 ^ g.dp ≤ 2 ^ max f.dp g.dp := Nat.pow_le_pow_right (by decide) (by omega)
    simp only [nS, nB, Fm.dp, Nat.pow_succ]; omega
theorem law_true (ns : List Int) (hn : ns.length ≤ 63) (hb : ∀ z ∈ ns, Builtin.Int.intBits z ≤ 1048576) : m_law [.list (ns.map .int)] = .ok (.sh (.bool true)) := by
  obtain ⟨xs, u0, h⟩ := draws_ok ns hn hb 310 310 rfl (by decide)
  have u0' : m__law_draws [pD ns, .int 310] = .ok (.ow (xs.map .int)) := u0
  have pd : PD ((xs.take 300).map .int) := ⟨xs.take 300, rfl, fun c hc => ⟨h.lo c (List.mem_of_mem_take hc), h.hi c (List.mem_of_mem_take hc)⟩⟩
  obtain ⟨L', a', b', f, fo, hL, hf, hd, iv, n1, n2⟩ := form10_okb 12 3 _ 6 3 3 pd (by decide) rfl ⟨by decide, .inl (by decide)⟩
  have le8 : nS f + nB f ≤ 8 := Nat.le_trans (leaves_le f) (Nat.le_trans (Nat.pow_le_pow_right (by decide) hd) (by decide))
  have V := fm_okV hf (by omega) (by omega)
  obtain ⟨l1, l2⟩ := line_le hf (by omega) (by omega)
  have w2 := words_O f 12 hf.s (by omega) (by omega)
  have hxl : xs.length = 310 := h.len
  have hys : ∃ ys : List Int, ys = xs.drop 300 := ⟨_, rfl⟩
  obtain ⟨ys, hys⟩ := hys
  have c1 : cutL (xs.map PyData.int) (some 300) none = ys.map .int := by
    rw [cut_from _ 300 300 rfl (by rw [List.length_map]; omega), hys, List.map_drop]
  have c2 : cutL (xs.map PyData.int) none (some 300) = (xs.take 300).map .int := by
    have := cut_to (xs.map PyData.int) 300 (by rw [List.length_map]; omega)
    rw [List.map_take]; exact this
  have dy : IsDraws 10 ys := ⟨by rw [hys, List.length_drop, hxl], fun c hc => h.lo c (by rw [hys] at hc; exact List.mem_of_mem_drop hc), fun c hc => h.hi c (by rw [hys] at hc; exact List.mem_of_mem_drop hc)⟩
  have i0 : ixD (pD ys) (.int 0) = some (.int (gI ys 0)) := dr_ix dy 0 rfl (by omega)
  have i1 : ixD (pD ys) (.int 1) = some (.int (gI ys 1)) := dr_ix dy 1 rfl (by omega)
  have i2 : ixD (pD ys) (.int 2) = some (.int (gI ys 2)) := dr_ix dy 2 rfl (by omega)
  have i3 : ixD (pD ys) (.int 3) = some (.int (gI ys 3)) := dr_ix dy 3 rfl (by omega)
  have w2l := wF_2 f
  obtain ⟨q0, q1⟩ := fmod_rng (a := gI ys 0) (b := ((wF f).length : Int)) (by omega)
  obtain ⟨p, hp⟩ : ∃ p : Nat, (gI ys 0).fmod ((wF f).length : Int) = (p : Int) := ⟨((gI ys 0).fmod ((wF f).length : Int)).toNat, by omega⟩
  have hpl : p < (wF f).length := by omega
  have m0 : modD (.int (gI ys 0)) (.int ((wF f).length : Int)) = some (.int (p : Int)) := by rw [r_mod (by omega), hp]
  obtain ⟨e0, e1⟩ := fmod_rng (a := gI ys 1) (b := 8) (by decide)
  have m1 : modD (.int (gI ys 1)) (.int 8) = some (.int ((gI ys 1).fmod 8)) := r_mod (by decide)
  have m3 : modD (.int (gI ys 3)) (.int 2) = some (.int ((gI ys 3).fmod 2)) := r_mod (by decide)
  generalize (gI ys 1).fmod 8 = d at e0 e1 m1
  have co := column_ok (W := wF f) (p := p) (by omega) (fun w hw => by have := wl24 f hf w hw; omega) (by omega)
  have ln : lenD [.list (tsD (wF f))] = some (.int ((wF f).length : Int)) := by rw [r_len_l, List.length_map]
  have ds := fun h2 : 2 ≤ d => deeds (.sh (pD ns)) (.sh (pD xs)) hf.s V (ch_F f hf.s) hpl (by omega) h2 e1 i2
  have d0 := fun (h2 : d < 2) => deed01 (.sh (pD ns)) (.sh (pD xs)) hf.s V hpl (by omega) h2 i2 [] (.inl rfl)
  have d1 := fun (h2 : d < 2) => deed01 (.sh (pD ns)) (.sh (pD xs)) hf.s V hpl (by omega) h2 i2 [[65], []] (.inr rfl)
  rw [List.append_nil] at d0
  have ca : catD (tsD (wF f)) [.str "A", .str ""] = some (tsD (wF f ++ [[65], []])) := by
    rw [r_cat (slB (by simp; omega)), tsD_app]
    have : ([.str "A", .str ""] : List D) = tsD [[65], []] := rfl
    rw [this]
  have b3 : b_law_3 [.sh (pD ns), .sh (pD xs), .sh (pD ys), .ow (tsD (wF f)), .sh (.int (p : Int)), .sh (.int d), .sh (.int 1), .sh (.int (1 + lenW ((wF f).take p))), .sh (.str "\n"), .no] = .rt (.sh (.bool true)) := by
    generalize tsD (wF f ++ [[65], []]) = B at *
    generalize tsD (wF f) = A at *
    by_cases h2 : d < 2
    · by_cases h3 : (gI ys 3).fmod 2 = 1
      · simp [b_law_3, h2, i3, m3, h3, ca, d1, -r_ix_l]
      · simp [b_law_3, h2, i3, m3, h3, d0, -r_ix_l]
    · simp [b_law_3, h2, ds (by omega), -r_ix_l]
  have sl1 : sliceD (pD xs) (some 300) none = some (pD ys) := by show some (PyData.list (cutL (xs.map PyData.int) (some 300) none)) = _; rw [c1]; rfl
  have sl2 : sliceO (pD xs) none (some 300) = some ((xs.map PyData.int).take 300) := by show some (cutL (xs.map PyData.int) none (some 300)) = _; rw [c2, List.map_take]
  rw [List.map_take] at fo
  have u1 : m__law_draws [pD ns, .int 310] = .ok (.ow (xs.map .int)) := u0
  show m_law [pD ns] = _
  generalize tsD (wF f) = A at *
  simp [m_law, c_law, u1, eCall, eCallO, toD, toL, sl1, sl2, eCallCT, fo, w2, i0, ln, m0, i1, m1, eThaw, co, thawR, noLst, b3, -r_ix_l]

end W

namespace W
open PySem PySem.Spec PyProof.Rows L2 VL
def topS (i : Nat) : Stmt := PySem.Challenge.pw_wheretrue_k12_the_first_wrong_word.main.body.getD i (.Pass ⟨0, 0, 0, 0⟩)
/-! _law_draws -/
abbrev ws__law_draws : Stmt := topS 45
abbrev wN__law_draws : List Str := ["_law_script", "_law_count", "_law_rests", "_law_cell", "_law_draws_here", "_law_k", "_law_value", "_law_at", "_law_mixed"]
theorem wsc__law_draws : FnScope wN__law_draws ["_law_script", "_law_count"] (defScope ws__law_draws) := ⟨rfl, rfl, rfl, by decide +kernel, rfl, by decide +kernel, by decide +kernel⟩
theorem wd__law_draws {P : Program} {w : World} {K : Fg} {mg : Str → Option Value} {base : Heap} (Fn : Df K mg "_law_draws" ws__law_draws ["_law_script", "_law_count"]) (z_range : mg "range" = none) (z_len : mg "len" = none) (z_int : mg "int" = none) : Cl P w K mg base 1 "_law_draws" ["_law_script", "_law_count"] m__law_draws :=
  cl_ok Fn wsc__law_draws fun f cdv A outer s H E I => by
    unfold c__law_draws b__law_draws_1
    exact (vss_cons (vs_compO (own := [("_law_cell", 3)]) (ts := [3]) (i := 2) rfl wsc__law_draws.nd rfl rfl (sw_true rfl rfl rfl (by decide +kernel)) (vi_seq (ve_var 0 (pv 0))) (blkOk_by (N := wN__law_draws) (sc := defScope ws__law_draws) (by decide +kernel)) (fun _ _ _ _ _ => vg_name (pg_name (i := 3) wsc__law_draws.nd rfl (by first | exact Or.inl rfl | exact Or.inr rfl))) (fun _ _ _ _ _ => vts_nil) (fun _ _ _ _ _ => ve_var 3 (pv 3))) (vss_cons (vs_setO (i := 4) wsc__law_draws.nd rfl (by first | exact Or.inl rfl | exact Or.inr rfl) (vo_lst (va_nil))) (vss_cons (vs_for I.hp rfl (vi_range1 rfl z_range (vap_cons (vp_var 1 (pv 1)) (vap_nil))) (vg_name (pg_name (i := 5) wsc__law_draws.nd rfl (by first | exact Or.inl rfl | exact Or.inr rfl))) (vss_cons (vs_set (i := 6) wsc__law_draws.nd rfl (by first | exact Or.inl rfl | exact Or.inr rfl) (ve_int)) (vss_cons (vs_if (t_cmp d_gt (VE.vp (v_blt c_len rfl z_len b_len (vap_cons (vp_var 2 (pv 2)) (vap_nil)))) (VE.vp (ve_int))) (vss_cons (vs_set (i := 7) wsc__law_draws.nd rfl (by first | exact Or.inl rfl | exact Or.inr rfl) (v_op d_mod (VE.vp (v_typ c_int rfl z_int b_int (vap_cons (vp_var 5 (pv 5)) (vap_nil)))) (VE.vp (v_blt c_len rfl z_len b_len (vap_cons (vp_var 2 (pv 2)) (vap_nil)))))) (vss_one (vs_if (t_cmp d_ge (VE.vp (v_ix d_ix (vp_var 2 (pv 2)) (vp_var 7 (pv 7)))) (VE.vp (v_op d_pow (VE.vp (ve_int)) (VE.vp (ve_int))))) (vss_cons (vs_set (i := 6) wsc__law_draws.nd rfl (by first | exact Or.inl rfl | exact Or.inr rfl) (v_op d_mod (VE.vp (v_typ c_int rfl z_int b_int (vap_cons (VE.vp (v_ix d_ix (vp_var 2 (pv 2)) (vp_var 7 (pv 7)))) (vap_nil)))) (VE.vp (ve_int)))) (vss_one (vs_store 2 (pv 2) (ve_var 7 (pv 7)) (v_op d_fdiv (VE.vp (v_ix d_ix (vp_var 2 (pv 2)) (vp_var 7 (pv 7)))) (VE.vp (ve_int)))))) (vss_cons (vs_set (i := 8) wsc__law_draws.nd rfl (by first | exact Or.inl rfl | exact Or.inr rfl) (v_op d_mod (VE.vp (v_typ c_int rfl z_int b_int (vap_cons (VE.vp (v_op d_add (VE.vp (v_op d_add (VE.vp (v_op d_mul (VE.vp (v_ix d_ix (vp_var 2 (pv 2)) (vp_var 7 (pv 7)))) (VE.vp (ve_int)))) (VE.vp (v_op d_mul (vp_var 5 (pv 5)) (VE.vp (ve_int)))))) (VE.vp (ve_int)))) (vap_nil)))) (VE.vp (ve_int)))) (vss_cons (vs_set (i := 8) wsc__law_draws.nd rfl (by first | exact Or.inl rfl | exact Or.inr rfl) (v_op d_mod (VE.vp (v_typ c_int rfl z_int b_int (vap_cons (VE.vp (v_op d_add (VE.vp (v_op d_mul (vp_var 8 (pv 8)) (VE.vp (ve_int)))) (vp_var 7 (pv 7)))) (vap_nil)))) (VE.vp (ve_int)))) (vss_one (vs_set (i := 6) wsc__law_draws.nd rfl (by first | exact Or.inl rfl | exact Or.inr rfl) (v_op d_mod (VE.vp (v_typ c_int rfl z_int b_int (vap_cons (VE.vp (v_op d_fdiv (vp_var 8 (pv 8)) (VE.vp (ve_int)))) (vap_nil)))) (VE.vp (ve_int)))))))))) (vss_nil)) (vss_one (vs_app 4 (pv 4) (ve_var 6 (pv 6))))))) (vss_one (vs_retV 4 (pv 4))))))
/-! _law_poly_text -/
abbrev ws__law_poly_text : Stmt := topS 51
abbrev wN__law_poly_text : List Str := ["_law_polynomial", "_law_one"]
theorem wsc__law_poly_text : FnScope wN__law_poly_text ["_law_polynomial"] (defScope ws__law_poly_text) := ⟨rfl, rfl, rfl, by decide +kernel, rfl, by decide +kernel, by decide +kernel⟩
theorem wd__law_poly_text {P : Program} {w : World} {K : Fg} {mg : Str → Option Value} {base : Heap} (Fn : Df K mg "_law_poly_text" ws__law_poly_text ["_law_polynomial"]) (z_len : mg "len" = none) (z_str : mg "str" = none) : Cl P w K mg base 1 "_law_poly_text" ["_law_polynomial"] m__law_poly_text :=
  cl_ok Fn wsc__law_poly_text fun f cdv A outer s H E I => by
    unfold c__law_poly_text
    exact (vss_cons (vs_if (t_cmp (d_eq I.hr.units) (VE.vp (v_blt c_len rfl z_len b_len (vap_cons (vp_var 0 (pv 0)) (vap_nil)))) (VE.vp (ve_int))) (vss_one (vs_ret (ve_str))) (vss_nil)) (vss_one (vs_ret (v_join (VE.vp (ve_str)) (VE.vp (VO.ve (vo_comp (own := [("_law_one", 1)]) (ts := [1]) rfl wsc__law_poly_text.nd (vi_seq (ve_var 0 (pv 0))) (blkOk_by (N := wN__law_poly_text) (sc := defScope ws__law_poly_text) (by decide +kernel)) (fun _ _ _ _ _ => vg_name (pg_name (i := 1) wsc__law_poly_text.nd rfl (by first | exact Or.inl rfl | exact Or.inr rfl))) (fun _ _ _ _ _ => vts_nil) (fun _ _ _ _ _ => v_typ c_str rfl z_str b_str (vap_cons (vp_var 1 (pv 1)) (vap_nil))))))))))
/-! _law_words -/
abbrev ws__law_words : Stmt := topS 52
abbrev wN__law_words : List Str := ["_law_formula_here", "_law_kind", "_law_words_here", "_law_coefficients", "_law_constant", "_law_sign", "_law_one", "_law_part"]
theorem wsc__law_words : FnScope wN__law_words ["_law_formula_here"] (defScope ws__law_words) := ⟨rfl, rfl, rfl, by decide +kernel, rfl, by decide +kernel, by decide +kernel⟩
theorem wd__law_words {P : Program} {w : World} {K : Fg} {mg : Str → Option Value} {base : Heap} (Fn : Df K mg "_law_words" ws__law_words ["_law_formula_here"]) (C__law_poly_text : Cl P w K mg base 1 "_law_poly_text" ["_law_polynomial"] m__law_poly_text) (z_str : mg "str" = none) (z_len : mg "len" = none) (n : Nat) : Cl P w K mg base (2 + n) "_law_words" ["_law_formula_here"] (m__law_words_k12 n) := by
  induction n with
  | zero => exact cl_ok (k := 1) (N := wN__law_words) (F := fun _ => .bad) Fn wsc__law_words fun f cdv A outer s H E I => vss_bad
  | succ n C__law_words =>
    rw [m__law_words_k12_succ n]
    refine cl_ok (k := 2 + n) (N := wN__law_words) (F := c__law_words_k12 (m__law_words_k12 n)) Fn wsc__law_words fun f cdv A outer s H E I => ?_
    unfold c__law_words_k12 b__law_words_k12_2 b__law_words_k12_1
    exact (vss_cons (vs_set (i := 1) wsc__law_words.nd rfl (by first | exact Or.inl rfl | exact Or.inr rfl) (v_ix d_ix (vp_var 0 (pv 0)) (VE.vp (ve_int)))) (vss_cons (vs_if (t_cmp (d_eq I.hr.units) (vp_var 1 (pv 1)) (VE.vp (ve_str))) (vss_one (vs_retO (vo_lst (va_cons (ve_str) (va_cons (v_calC C__law_poly_text I.hr I.gd I.tk (va_cons (v_ix d_ix (vp_var 0 (pv 0)) (VE.vp (ve_int))) (va_nil)) (hj := by omega)) (va_cons (v_ix d_ix (vp_var 0 (pv 0)) (VE.vp (ve_int))) (va_nil))))))) (vss_nil)) (vss_cons (vs_if (t_cmp (d_eq I.hr.units) (vp_var 1 (pv 1)) (VE.vp (ve_str))) (vss_cons (vs_setO (i := 2) wsc__law_words.nd rfl (by first | exact Or.inl rfl | exact Or.inr rfl) (vo_lst (va_cons (ve_str) (va_cons (v_typ c_str rfl z_str b_str (vap_cons (VE.vp (v_ix d_ix (vp_var 0 (pv 0)) (VE.vp (ve_int)))) (vap_nil))) (va_cons (v_typ c_str rfl z_str b_str (vap_cons (VE.vp (v_blt c_len rfl z_len b_len (vap_cons (VE.vp (v_ix d_ix (vp_var 0 (pv 0)) (VE.vp (ve_int)))) (vap_nil)))) (vap_nil))) (va_nil)))))) (vss_cons (vs_for I.hp rfl (vi_seq (v_ix d_ix (vp_var 0 (pv 0)) (VE.vp (ve_int)))) (vg_tup rfl (vgs_cons (vg_name (pg_name (i := 3) wsc__law_words.nd rfl (by first | exact Or.inl rfl | exact Or.inr rfl))) (vgs_cons (vg_name (pg_name (i := 4) wsc__law_words.nd rfl (by first | exact Or.inl rfl | exact Or.inr rfl))) (vgs_cons (vg_name (pg_name (i := 5) wsc__law_words.nd rfl (by first | exact Or.inl rfl | exact Or.inr rfl))) (vgs_nil))))) (vss_one (vs_setO (i := 2) wsc__law_words.nd rfl (by first | exact Or.inl rfl | exact Or.inr rfl) (v_opO d_addO (VE.vp (v_op d_add (vp_var 2 (pv 2)) (VE.vp (VO.ve (vo_comp (own := [("_law_one", 6)]) (ts := [6]) rfl wsc__law_words.nd (vi_seq (ve_var 3 (pv 3))) (blkOk_by (N := wN__law_words) (sc := defScope ws__law_words) (by decide +kernel)) (fun _ _ _ _ _ => vg_name (pg_name (i := 6) wsc__law_words.nd rfl (by first | exact Or.inl rfl | exact Or.inr rfl))) (fun _ _ _ _ _ => vts_nil) (fun _ _ _ _ _ => v_calC C__law_poly_text I.hr I.gd (show L2N.Takes _ WF from fun _ _ ⟨_, _, _, _, _, _, _, _, _, _, _, _, _, _, _, _, w⟩ => w.elim) (va_cons (ve_var 6 (pv 6)) (va_nil)) (hj := by omega))))))) (VE.vp (VO.ve (vo_lst (va_cons (v_calC C__law_poly_text I.hr I.gd I.tk (va_cons (ve_var 4 (pv 4)) (va_nil)) (hj := by omega)) (va_cons (ve_var 5 (pv 5)) (va_nil)))))))))) (vss_one (vs_retV 2 (pv 2))))) (vss_nil)) (vss_cons (vs_setO (i := 2) wsc__law_words.nd rfl (by first | exact Or.inl rfl | exact Or.inr rfl) (vo_lst (va_cons (ve_var 1 (pv 1)) (va_nil)))) (vss_cons (vs_for I.hp rfl (vi_seq (v_slice (vp_var 0 (pv 0)) (vpo_some (ve_int)) (vpo_none))) (vg_name (pg_name (i := 7) wsc__law_words.nd rfl (by first | exact Or.inl rfl | exact Or.inr rfl))) (vss_one (vs_setO (i := 2) wsc__law_words.nd rfl (by first | exact Or.inl rfl | exact Or.inr rfl) (v_opO d_addO (vp_var 2 (pv 2)) (VE.vp (v_calC C__law_words I.hr I.gd I.tk (va_cons (ve_var 7 (pv 7)) (va_nil)) (hj := by omega))))))) (vss_one (vs_retV 2 (pv 2))))))))
/-! _law_take -/
abbrev ws__law_take : Stmt := topS 46
abbrev wN__law_take : List Str := ["_law_draws_here"]
theorem wsc__law_take : FnScope wN__law_take ["_law_draws_here"] (defScope ws__law_take) := ⟨rfl, rfl, rfl, by decide +kernel, rfl, by decide +kernel, by decide +kernel⟩
theorem wd__law_take {P : Program} {w : World} {K : Fg} {mg : Str → Option Value} {base : Heap} (Fn : Df K mg "_law_take" ws__law_take ["_law_draws_here"]) (z_len : mg "len" = none) : ClB P w K mg base 1 "_law_take" ["_law_draws_here"] 0 m__law_take :=
  clB_ok Fn wsc__law_take fun f cdv A outer s H E I => by
    unfold c__law_take
    exact (vss_cons (vs_if (t_cmp (d_eq I.hr.units) (VE.vp (v_blt c_len rfl z_len b_len (vap_cons (vp_var 0 (pv 0)) (vap_nil)))) (VE.vp (ve_int))) (vss_one (y_retB (x_e (W := WF) (ve_int)))) (vss_nil)) (vss_one (y_retB (x_pop 0 (pv 0)))))
/-! _law_poly -/
abbrev ws__law_poly : Stmt := topS 47
abbrev wN__law_poly : List Str := ["_law_draws_here", "_law_most", "_law_bound", "_law_found", "_law_k", "_law_draw"]
theorem wsc__law_poly : FnScope wN__law_poly ["_law_draws_here", "_law_most", "_law_bound"] (defScope ws__law_poly) := ⟨rfl, rfl, rfl, by decide +kernel, rfl, by decide +kernel, by decide +kernel⟩
theorem wd__law_poly {P : Program} {w : World} {K : Fg} {mg : Str → Option Value} {base : Heap} (Fn : Df K mg "_law_poly" ws__law_poly ["_law_draws_here", "_law_most", "_law_bound"]) (C__law_take : ClB P w K mg base 1 "_law_take" ["_law_draws_here"] 0 m__law_take) (z_range : mg "range" = none) (z_int : mg "int" = none) (z_len : mg "len" = none) : ClB P w K mg base 2 "_law_poly" ["_law_draws_here", "_law_most", "_law_bound"] 0 m__law_poly_k10 :=
  clB_ok Fn wsc__law_poly fun f cdv A outer s H E I => by
    unfold c__law_poly_k10 b__law_poly_k10_2 b__law_poly_k10_1
    exact (vss_cons (vs_setO (i := 3) wsc__law_poly.nd rfl (by first | exact Or.inl rfl | exact Or.inr rfl) (vo_lst (va_nil))) (vss_cons (y_for I.hp rfl (xi_range1 rfl z_range (xa_cons (x_op d_mod (x_typ c_int rfl z_int b_int (xa_cons (x_callB C__law_take I.hr I.gd I.tk (xb_here (pv 0) (xa_nil))) (xa_nil))) (x_e (W := WF) (v_op d_add (vp_var 1 (pv 1)) (VE.vp (ve_int))))) (xa_nil))) (vg_name (pg_name (i := 4) wsc__law_poly.nd rfl (by first | exact Or.inl rfl | exact Or.inr rfl))) (vss_cons (y_set (i := 5) wsc__law_poly.nd rfl (by first | exact Or.inl rfl | exact Or.inr rfl) (x_typ c_int rfl z_int b_int (xa_cons (x_callB C__law_take I.hr I.gd I.tk (xb_here (pv 0) (xa_nil))) (xa_nil)))) (vss_one (vs_if (t_cmp (d_eq I.hr.units) (VE.vp (v_op d_mod (VE.vp (v_typ c_int rfl z_int b_int (vap_cons (vp_var 5 (pv 5)) (vap_nil)))) (VE.vp (ve_int)))) (VE.vp (ve_int))) (vss_one (vs_app 3 (pv 3) (v_ix d_ix (VE.vp (VO.ve (vo_lst (va_cons (v_op d_sub (vp_var 2 (pv 2)) (VE.vp (ve_int))) (va_cons (v_op d_sub (VE.vp (ve_int)) (vp_var 2 (pv 2))) (va_nil)))))) (VE.vp (v_op d_mod (VE.vp (v_typ c_int rfl z_int b_int (vap_cons (VE.vp (v_op d_fdiv (vp_var 5 (pv 5)) (VE.vp (ve_int)))) (vap_nil)))) (VE.vp (ve_int))))))) (vss_one (vs_if (t_cmp (d_eq I.hr.units) (VE.vp (v_op d_mod (VE.vp (v_typ c_int rfl z_int b_int (vap_cons (vp_var 5 (pv 5)) (vap_nil)))) (VE.vp (ve_int)))) (VE.vp (ve_int))) (vss_one (vs_app 3 (pv 3) (v_op d_add (VE.vp (v_op d_sub (VE.vp (v_op d_mod (VE.vp (v_typ c_int rfl z_int b_int (vap_cons (vp_var 5 (pv 5)) (vap_nil)))) (VE.vp (v_op d_sub (VE.vp (v_op d_mul (VE.vp (ve_int)) (vp_var 2 (pv 2)))) (VE.vp (ve_int)))))) (vp_var 2 (pv 2)))) (VE.vp (ve_int))))) (vss_one (vs_app 3 (pv 3) (v_op d_sub (VE.vp (v_op d_mod (VE.vp (v_typ c_int rfl z_int b_int (vap_cons (VE.vp (v_op d_fdiv (vp_var 5 (pv 5)) (VE.vp (ve_int)))) (vap_nil)))) (VE.vp (ve_int)))) (VE.vp (ve_int))))))))))) (vss_cons (vs_if (VW.vt (vw_and (t_cmp d_gt (VE.vp (v_blt c_len rfl z_len b_len (vap_cons (vp_var 3 (pv 3)) (vap_nil)))) (VE.vp (ve_int))) (vw_and1 (t_cmp (d_eq I.hr.units) (VE.vp (v_ix d_ix (vp_var 3 (pv 3)) (VE.vp (v_op d_sub (VE.vp (v_blt c_len rfl z_len b_len (vap_cons (vp_var 3 (pv 3)) (vap_nil)))) (VE.vp (ve_int)))))) (VE.vp (ve_int)))))) (vss_one (vs_store 3 (pv 3) (v_op d_sub (VE.vp (v_blt c_len rfl z_len b_len (vap_cons (vp_var 3 (pv 3)) (vap_nil)))) (VE.vp (ve_int))) (ve_int))) (vss_nil)) (vss_one (y_retVB 3 (pv 3))))))
/-! _law_sign_atom -/
abbrev ws__law_sign_atom : Stmt := topS 48
abbrev wN__law_sign_atom : List Str := ["_law_draws_here", "_law_sign"]
theorem wsc__law_sign_atom : FnScope wN__law_sign_atom ["_law_draws_here"] (defScope ws__law_sign_atom) := ⟨rfl, rfl, rfl, by decide +kernel, rfl, by decide +kernel, by decide +kernel⟩
theorem wd__law_sign_atom {P : Program} {w : World} {K : Fg} {mg : Str → Option Value} {base : Heap} (Fn : Df K mg "_law_sign_atom" ws__law_sign_atom ["_law_draws_here"]) (C__law_take : ClB P w K mg base 1 "_law_take" ["_law_draws_here"] 0 m__law_take) (C__law_poly : ClB P w K mg base 2 "_law_poly" ["_law_draws_here", "_law_most", "_law_bound"] 0 m__law_poly_k10) (z_int : mg "int" = none) : ClB P w K mg base 3 "_law_sign_atom" ["_law_draws_here"] 0 m__law_sign_atom_k10 :=
  clB_ok Fn wsc__law_sign_atom fun f cdv A outer s H E I => by
    unfold c__law_sign_atom_k10
    exact (vss_cons (y_set (i := 1) wsc__law_sign_atom.nd rfl (by first | exact Or.inl rfl | exact Or.inr rfl) (x_ix d_ix (x_e (W := WF) (VO.ve (vo_lst (va_cons (ve_str) (va_cons (ve_str) (va_cons (ve_str) (va_cons (ve_str) (va_cons (ve_str) (va_cons (ve_str) (va_nil)))))))))) (x_op d_mod (x_typ c_int rfl z_int b_int (xa_cons (x_callB C__law_take I.hr I.gd I.tk (xb_here (pv 0) (xa_nil))) (xa_nil))) (x_e (W := WF) (ve_int))))) (vss_one (y_retB (x_tup (xa_cons (x_e (W := WF) (ve_str)) (xa_cons (x_callB C__law_poly I.hr I.gd I.tk (xb_here (pv 0) (xa_cons (x_e (W := WF) (ve_int)) (xa_cons (x_e (W := WF) (ve_int)) (xa_nil))))) (xa_cons (x_e (W := WF) (ve_var 1 (pv 1))) (xa_nil))))))))
/-! _law_block -/
abbrev ws__law_block : Stmt := topS 49
abbrev wN__law_block : List Str := ["_law_draws_here", "_law_many", "_law_rows", "_law_k", "_law_coefficients", "_law_j"]
theorem wsc__law_block : FnScope wN__law_block ["_law_draws_here"] (defScope ws__law_block) := ⟨rfl, rfl, rfl, by decide +kernel, rfl, by decide +kernel, by decide +kernel⟩
theorem wd__law_block {P : Program} {w : World} {K : Fg} {mg : Str → Option Value} {base : Heap} (Fn : Df K mg "_law_block" ws__law_block ["_law_draws_here"]) (C__law_take : ClB P w K mg base 1 "_law_take" ["_law_draws_here"] 0 m__law_take) (C__law_poly : ClB P w K mg base 2 "_law_poly" ["_law_draws_here", "_law_most", "_law_bound"] 0 m__law_poly_k10) (z_int : mg "int" = none) (z_range : mg "range" = none) : ClB P w K mg base 3 "_law_block" ["_law_draws_here"] 0 m__law_block_k10 :=
  clB_ok Fn wsc__law_block fun f cdv A outer s H E I => by
    unfold c__law_block_k10 b__law_block_k10_1
    exact (vss_cons (y_set (i := 1) wsc__law_block.nd rfl (by first | exact Or.inl rfl | exact Or.inr rfl) (x_op d_add (x_e (W := WF) (ve_int)) (x_op d_mod (x_typ c_int rfl z_int b_int (xa_cons (x_callB C__law_take I.hr I.gd I.tk (xb_here (pv 0) (xa_nil))) (xa_nil))) (x_e (W := WF) (ve_int))))) (vss_cons (vs_setO (i := 2) wsc__law_block.nd rfl (by first | exact Or.inl rfl | exact Or.inr rfl) (vo_lst (va_nil))) (vss_cons (y_for I.hp rfl (xi_range1 rfl z_range (xa_cons (x_op d_add (x_e (W := WF) (ve_int)) (x_op d_mod (x_typ c_int rfl z_int b_int (xa_cons (x_callB C__law_take I.hr I.gd I.tk (xb_here (pv 0) (xa_nil))) (xa_nil))) (x_e (W := WF) (ve_int)))) (xa_nil))) (vg_name (pg_name (i := 3) wsc__law_block.nd rfl (by first | exact Or.inl rfl | exact Or.inr rfl))) (vss_cons (y_compO (own := [("_law_j", 5)]) (ts := [5]) (i := 4) rfl wsc__law_block.nd rfl rfl (sw_true rfl rfl rfl (by decide +kernel)) (x_i (W := WF) (vi_range1 rfl z_range (vap_cons (vp_var 1 (pv 1)) (vap_nil)))) (blkOk_by (N := wN__law_block) (sc := defScope ws__law_block) (by decide +kernel)) (fun _ _ _ _ _ => vg_name (pg_name (i := 5) wsc__law_block.nd rfl (by first | exact Or.inl rfl | exact Or.inr rfl))) (fun _ _ _ _ _ => xts_nil) (fun _ _ _ _ _ => x_callB C__law_poly I.hr I.gd (show L2N.Takes _ WF from fun _ _ ⟨_, _, _, _, _, _, _, _, _, _, _, _, _, _, _, _, w⟩ => w.elim) (xb_here (pv 0) (xa_cons (x_e (W := WF) (ve_int)) (xa_cons (x_e (W := WF) (ve_int)) (xa_nil)))))) (vss_fz 4 (vss_one (y_app 2 (pv 2) (x_tup (xa_cons (x_e (W := WF) (ve_var 4 (pv 4))) (xa_cons (x_callB C__law_poly I.hr I.gd I.tk (xb_here (pv 0) (xa_cons (x_e (W := WF) (ve_int)) (xa_cons (x_e (W := WF) (ve_int)) (xa_nil))))) (xa_cons (x_ix d_ix (x_e (W := WF) (VO.ve (vo_lst (va_cons (ve_str) (va_cons (ve_str) (va_cons (ve_str) (va_nil))))))) (x_op d_mod (x_typ c_int rfl z_int b_int (xa_cons (x_callB C__law_take I.hr I.gd I.tk (xb_here (pv 0) (xa_nil))) (xa_nil))) (x_e (W := WF) (ve_int)))) (xa_nil)))))))))) (vss_one (vs_fz 2 (y_retB (x_e (W := WF) (ve_tup (va_cons (ve_str) (va_cons (ve_var 1 (pv 1)) (va_cons (ve_var 2 (pv 2)) (va_nil))))))))))))
/-! _law_formula -/
abbrev ws__law_formula : Stmt := topS 50
abbrev wN__law_formula : List Str := ["_law_draws_here", "_law_left", "_law_depth", "_law_draw", "_law_kind", "_law_first"]
theorem wsc__law_formula : FnScope wN__law_formula ["_law_draws_here", "_law_left", "_law_depth"] (defScope ws__law_formula) := ⟨rfl, rfl, rfl, by decide +kernel, rfl, by decide +kernel, by decide +kernel⟩
theorem wd__law_formula {P : Program} {w : World} {K : Fg} {mg : Str → Option Value} {base : Heap} (Fn : Df K mg "_law_formula" ws__law_formula ["_law_draws_here", "_law_left", "_law_depth"]) (C__law_take : ClB P w K mg base 1 "_law_take" ["_law_draws_here"] 0 m__law_take) (C__law_block : ClB P w K mg base 3 "_law_block" ["_law_draws_here"] 0 m__law_block_k10) (C__law_sign_atom : ClB P w K mg base 3 "_law_sign_atom" ["_law_draws_here"] 0 m__law_sign_atom_k10) (z_int : mg "int" = none) (n : Nat) : ClC P w K mg base (4 + n) "_law_formula" ["_law_draws_here", "_law_left", "_law_depth"] (m__law_formula_k10 n) := by
  induction n with
  | zero => exact clC_ok (k := 3) (N := wN__law_formula) (F := fun _ => .bad) Fn wsc__law_formula fun f cdv A outer s H E I => vss_bad
  | succ n C__law_formula =>
    rw [m__law_formula_k10_succ n]
    refine clC_ok (k := 4 + n) (N := wN__law_formula) (F := c__law_formula_k10 (m__law_formula_k10 n)) Fn wsc__law_formula fun f cdv A outer s H E I => ?_
    unfold c__law_formula_k10
    exact (vss_cons (y_set (i := 3) wsc__law_formula.nd rfl (by first | exact Or.inl rfl | exact Or.inr rfl) (x_typ c_int rfl z_int b_int (xa_cons (x_callB C__law_take I.hr I.gd I.tk (xb_here (pv 0) (xa_nil)) (hj := by omega)) (xa_nil)))) (vss_cons (vs_set (i := 4) wsc__law_formula.nd rfl (by first | exact Or.inl rfl | exact Or.inr rfl) (v_op d_mod (VE.vp (v_typ c_int rfl z_int b_int (vap_cons (vp_var 3 (pv 3)) (vap_nil)))) (VE.vp (ve_int)))) (vss_cons (vs_if (VW.vt (vw_or (t_cmp (d_eq I.hr.units) (vp_var 2 (pv 2)) (VE.vp (ve_int))) (vw_or1 (t_cmp d_lt (vp_var 4 (pv 4)) (VE.vp (ve_int)))))) (vss_cons (vs_if (VW.vt (vw_or (t_cmp (d_eq I.hr.units) (VE.vp (v_ix d_ix (vp_var 1 (pv 1)) (VE.vp (ve_int)))) (VE.vp (ve_int))) (vw_or1 (VW.vt (vw_and (t_cmp (d_eq I.hr.units) (VE.vp (v_op d_mod (VE.vp (v_typ c_int rfl z_int b_int (vap_cons (VE.vp (v_op d_fdiv (vp_var 3 (pv 3)) (VE.vp (ve_int)))) (vap_nil)))) (VE.vp (ve_int)))) (VE.vp (ve_int))) (vw_and1 (t_cmp d_gt (VE.vp (v_ix d_ix (vp_var 1 (pv 1)) (VE.vp (ve_int)))) (VE.vp (ve_int))))))))) (vss_cons (y_store 1 (pv 1) (x_e (W := WF) (ve_int)) (x_e (W := WF) (v_op d_sub (VE.vp (v_ix d_ix (vp_var 1 (pv 1)) (VE.vp (ve_int)))) (VE.vp (ve_int))))) (vss_one (y_retB (x_callB C__law_block I.hr I.gd I.tk (xb_here (pv 0) (xa_nil)) (hj := by omega))))) (vss_nil)) (vss_cons (y_store 1 (pv 1) (x_e (W := WF) (ve_int)) (x_e (W := WF) (v_op d_sub (VE.vp (v_ix d_ix (vp_var 1 (pv 1)) (VE.vp (ve_int)))) (VE.vp (ve_int))))) (vss_one (y_retB (x_callB C__law_sign_atom I.hr I.gd I.tk (xb_here (pv 0) (xa_nil)) (hj := by omega)))))) (vss_nil)) (vss_cons (vs_if (t_cmp d_lt (vp_var 4 (pv 4)) (VE.vp (ve_int))) (vss_one (y_retB (x_tup (xa_cons (x_e (W := WF) (ve_str)) (xa_cons (x_callC C__law_formula I.hr I.gd I.tk (xc_here (pv 0) (pv 1) (xa_cons (x_e (W := WF) (v_op d_sub (vp_var 2 (pv 2)) (VE.vp (ve_int)))) (xa_nil))) (hj := by omega)) (xa_nil)))))) (vss_nil)) (vss_cons (y_set (i := 5) wsc__law_formula.nd rfl (by first | exact Or.inl rfl | exact Or.inr rfl) (x_callC C__law_formula I.hr I.gd I.tk (xc_here (pv 0) (pv 1) (xa_cons (x_e (W := WF) (v_op d_sub (vp_var 2 (pv 2)) (VE.vp (ve_int)))) (xa_nil))) (hj := by omega))) (vss_one (y_retB (x_tup (xa_cons (x_e (W := WF) (v_ix d_ix (VE.vp (VO.ve (vo_lst (va_cons (ve_str) (va_cons (ve_str) (va_nil)))))) (VE.vp (v_op d_sub (vp_var 4 (pv 4)) (VE.vp (ve_int)))))) (xa_cons (x_e (W := WF) (ve_var 5 (pv 5))) (xa_cons (x_callC C__law_formula I.hr I.gd I.tk (xc_here (pv 0) (pv 1) (xa_cons (x_e (W := WF) (v_op d_sub (vp_var 2 (pv 2)) (VE.vp (ve_int)))) (xa_nil))) (hj := by omega)) (xa_nil))))))))))))
/-! _law_column -/
abbrev ws__law_column : Stmt := topS 54
abbrev wN__law_column : List Str := ["_law_words_here", "_law_place", "_law_column_here", "_law_word"]
theorem wsc__law_column : FnScope wN__law_column ["_law_words_here", "_law_place"] (defScope ws__law_column) := ⟨rfl, rfl, rfl, by decide +kernel, rfl, by decide +kernel, by decide +kernel⟩
theorem wd__law_column {P : Program} {w : World} {K : Fg} {mg : Str → Option Value} {base : Heap} (Fn : Df K mg "_law_column" ws__law_column ["_law_words_here", "_law_place"]) (z_len : mg "len" = none) : Cl P w K mg base 1 "_law_column" ["_law_words_here", "_law_place"] m__law_column :=
  cl_ok Fn wsc__law_column fun f cdv A outer s H E I => by
    unfold c__law_column b__law_column_1
    exact (vss_cons (vs_set (i := 2) wsc__law_column.nd rfl (by first | exact Or.inl rfl | exact Or.inr rfl) (ve_int)) (vss_cons (vs_for I.hp rfl (vi_seq (v_slice (vp_var 0 (pv 0)) (vpo_none) (vpo_some (ve_var 1 (pv 1))))) (vg_name (pg_name (i := 3) wsc__law_column.nd rfl (by first | exact Or.inl rfl | exact Or.inr rfl))) (vss_one (vs_set (i := 2) wsc__law_column.nd rfl (by first | exact Or.inl rfl | exact Or.inr rfl) (v_op d_add (VE.vp (v_op d_add (vp_var 2 (pv 2)) (VE.vp (v_blt c_len rfl z_len b_len (vap_cons (vp_var 3 (pv 3)) (vap_nil)))))) (VE.vp (ve_int)))))) (vss_one (vs_ret (ve_var 2 (pv 2))))))
/-! words_of -/
abbrev ws_words_of : Stmt := topS 34
abbrev wN_words_of : List Str := ["line", "found", "column", "word"]
theorem wsc_words_of : FnScope wN_words_of ["line"] (defScope ws_words_of) := ⟨rfl, rfl, rfl, by decide +kernel, rfl, by decide +kernel, by decide +kernel⟩
theorem wd_words_of {P : Program} {w : World} {K : Fg} {mg : Str → Option Value} {base : Heap} (Fn : Df K mg "words_of" ws_words_of ["line"]) (z_len : mg "len" = none) : Cl P w K mg base 1 "words_of" ["line"] m_words_of :=
  cl_ok Fn wsc_words_of fun f cdv A outer s H E I => by
    unfold c_words_of b_words_of_1
    exact (vss_cons (vs_setO (i := 1) wsc_words_of.nd rfl (by first | exact Or.inl rfl | exact Or.inr rfl) (vo_lst (va_nil))) (vss_cons (vs_set (i := 2) wsc_words_of.nd rfl (by first | exact Or.inl rfl | exact Or.inr rfl) (ve_int)) (vss_cons (vs_for I.hp rfl (vi_seq (VO.ve (v_splitO (vp_var 0 (pv 0)) (VE.vp (ve_str))))) (vg_name (pg_name (i := 3) wsc_words_of.nd rfl (by first | exact Or.inl rfl | exact Or.inr rfl))) (vss_cons (vs_app 1 (pv 1) (ve_tup (va_cons (ve_var 2 (pv 2)) (va_cons (ve_var 3 (pv 3)) (va_nil))))) (vss_one (vs_aug (i := 2) wsc_words_of.nd rfl (by first | exact Or.inl rfl | exact Or.inr rfl) (VE.vp (v_op d_add (VE.vp (v_blt c_len rfl z_len b_len (vap_cons (vp_var 3 (pv 3)) (vap_nil)))) (VE.vp (ve_int)))) dip_add)))) (vss_one (vs_retV 1 (pv 1))))))
/-! read_whole -/
abbrev ws_read_whole : Stmt := topS 35
abbrev wN_read_whole : List Str := ["word", "digits", "sign"]
theorem wsc_read_whole : FnScope wN_read_whole ["word"] (defScope ws_read_whole) := ⟨rfl, rfl, rfl, by decide +kernel, rfl, by decide +kernel, by decide +kernel⟩
theorem wd_read_whole {P : Program} {w : World} {K : Fg} {mg : Str → Option Value} {base : Heap} {cT PT : Addr} (Fn : DfC K mg "read_whole" ws_read_whole ["word"] cT) (TB : GxR.TabB base mg cT PT) (TI : TabI K "read_whole" cT PT) (z_all : mg "all" = none) (z_len : mg "len" = none) (z_int : mg "int" = none) (G_DIGITS : VL.Gc K mg "DIGITS" (.str "0123456789")) (G_MOST_DIGITS : VL.Gc K mg "MOST_DIGITS" (.int 3)) : Cl P w K mg base 1 "read_whole" ["word"] m_read_whole :=
  clG_ok Fn wsc_read_whole fun f A outer s H E I => by
    unfold c_read_whole
    exact (vss_cons (vs_set (i := 1) wsc_read_whole.nd rfl (by first | exact Or.inl rfl | exact Or.inr rfl) (v_rmp (vp_var 0 (pv 0)) (VE.vp (ve_str)))) (vss_cons (vs_if (VW.vt (vw_or (t_cmp (d_eq I.hr.units) (vp_var 1 (pv 1)) (VE.vp (ve_str))) (vw_or (t_cmp d_gt (VE.vp (v_blt c_len rfl z_len b_len (vap_cons (vp_var 1 (pv 1)) (vap_nil)))) (VE.vp (v_gl G_MOST_DIGITS))) (vw_or1 (vt_not (t_tru (VE.vp (v_allG I.hr TB TI rfl z_all (gs_mk rfl rfl (by decide) rfl rfl (by decide)) (pv 1) (fun hb => sgn_in G_DIGITS hb rfl rfl rfl))))))))) (vss_one (vs_ret (ve_non))) (vss_nil)) (vss_cons (vs_if (VW.vt (vw_and (t_cmp (d_eq I.hr.units) (VE.vp (v_ix d_ix (vp_var 1 (pv 1)) (VE.vp (ve_int)))) (VE.vp (ve_str))) (vw_and1 (t_cmp (d_ne I.hr.units) (vp_var 0 (pv 0)) (VE.vp (ve_str)))))) (vss_one (vs_ret (ve_non))) (vss_nil)) (vss_one (vs_ret (v_typ c_intT rfl z_int b_int (vap_cons (vp_var 0 (pv 0)) (vap_nil))))))))
/-! read_polynomial -/
abbrev ws_read_polynomial : Stmt := topS 36
abbrev wN_read_polynomial : List Str := ["word", "coefficients", "part"]
theorem wsc_read_polynomial : FnScope wN_read_polynomial ["word"] (defScope ws_read_polynomial) := ⟨rfl, rfl, rfl, by decide +kernel, rfl, by decide +kernel, by decide +kernel⟩
theorem wd_read_polynomial {P : Program} {w : World} {K : Fg} {mg : Str → Option Value} {base : Heap} (Fn : Df K mg "read_polynomial" ws_read_polynomial ["word"]) (C_read_whole : Cl P w K mg base 1 "read_whole" ["word"] m_read_whole) (z_len : mg "len" = none) (G_MOST_COEFFICIENTS : VL.Gc K mg "MOST_COEFFICIENTS" (.int 12)) : Cl P w K mg base 2 "read_polynomial" ["word"] m_read_polynomial :=
  cl_ok Fn wsc_read_polynomial fun f cdv A outer s H E I => by
    unfold c_read_polynomial
    exact (vss_cons (vs_if (t_cmp (d_eq I.hr.units) (vp_var 0 (pv 0)) (VE.vp (ve_str))) (vss_one (vs_retO (vo_lst (va_nil)))) (vss_nil)) (vss_cons (vs_compO (own := [("part", 2)]) (ts := [2]) (i := 1) rfl wsc_read_polynomial.nd rfl rfl (sw_true rfl rfl rfl (by decide +kernel)) (vi_seq (VO.ve (v_splitO (vp_var 0 (pv 0)) (VE.vp (ve_str))))) (blkOk_by (N := wN_read_polynomial) (sc := defScope ws_read_polynomial) (by decide +kernel)) (fun _ _ _ _ _ => vg_name (pg_name (i := 2) wsc_read_polynomial.nd rfl (by first | exact Or.inl rfl | exact Or.inr rfl))) (fun _ _ _ _ _ => vts_nil) (fun _ _ _ _ _ => v_calC C_read_whole I.hr I.gd (show L2N.Takes _ WF from fun _ _ ⟨_, _, _, _, _, _, _, _, _, _, _, _, _, _, _, _, w⟩ => w.elim) (va_cons (ve_var 2 (pv 2)) (va_nil)))) (vss_fz 1 (vss_cons (vs_if (VW.vt (vw_or (t_cmp (d_in (u65 I.hr)) (VE.vp (ve_non)) (vp_var 1 (pv 1))) (vw_or (t_cmp d_gt (VE.vp (v_blt c_len rfl z_len b_len (vap_cons (vp_var 1 (pv 1)) (vap_nil)))) (VE.vp (v_gl G_MOST_COEFFICIENTS))) (vw_or1 (t_cmp (d_eq I.hr.units) (VE.vp (v_ix d_ix (vp_var 1 (pv 1)) (VE.vp (v_un d_neg (VE.vp (ve_int)))))) (VE.vp (ve_int))))))) (vss_one (vs_ret (ve_non))) (vss_nil)) (vss_one (vs_ret (ve_var 1 (pv 1))))))))
/-! count_in -/
abbrev ws_count_in : Stmt := topS 37
abbrev wN_count_in : List Str := ["word", "most", "found"]
theorem wsc_count_in : FnScope wN_count_in ["word", "most"] (defScope ws_count_in) := ⟨rfl, rfl, rfl, by decide +kernel, rfl, by decide +kernel, by decide +kernel⟩
theorem wd_count_in {P : Program} {w : World} {K : Fg} {mg : Str → Option Value} {base : Heap} (Fn : Df K mg "count_in" ws_count_in ["word", "most"]) (C_read_whole : Cl P w K mg base 1 "read_whole" ["word"] m_read_whole) : Cl P w K mg base 2 "count_in" ["word", "most"] m_count_in :=
  cl_ok Fn wsc_count_in fun f cdv A outer s H E I => by
    unfold c_count_in
    exact (vss_cons (vs_set (i := 2) wsc_count_in.nd rfl (by first | exact Or.inl rfl | exact Or.inr rfl) (v_calC C_read_whole I.hr I.gd I.tk (va_cons (ve_var 0 (pv 0)) (va_nil)))) (vss_one (vs_ret (ve_ifExp (VW.vt (vw_and (t_cmp d_isnot (vp_var 2 (pv 2)) (VE.vp (ve_non))) (vw_and1 (t_chain d_le d_le (VE.vp (ve_int)) (vp_var 2 (pv 2)) (vp_var 1 (pv 1)))))) (ve_var 2 (pv 2)) (ve_non)))))
/-! value_of -/
abbrev ws_value_of : Stmt := topS 38
abbrev wN_value_of : List Str := ["kind", "word", "signs"]
theorem wsc_value_of : FnScope wN_value_of ["kind", "word"] (defScope ws_value_of) := ⟨rfl, rfl, rfl, by decide +kernel, rfl, by decide +kernel, by decide +kernel⟩
theorem wd_value_of {P : Program} {w : World} {K : Fg} {mg : Str → Option Value} {base : Heap} (Fn : Df K mg "value_of" ws_value_of ["kind", "word"]) (C_read_polynomial : Cl P w K mg base 2 "read_polynomial" ["word"] m_read_polynomial) (C_count_in : Cl P w K mg base 2 "count_in" ["word", "most"] m_count_in) (z_list : mg "list" = none) (G_MOST_ROWS : VL.Gc K mg "MOST_ROWS" (.int 5)) (G_ROW_SIGNS : VL.Gc K mg "ROW_SIGNS" (.tuple [(.str "<"), (.str "<="), (.str "=")])) (GK_WORDS : VL.GK K w mg "WORDS" ["sign", "some", "not", "and", "or"]) (GK_OPPOSITE : VL.GK K w mg "OPPOSITE" ["<", ">=", "<=", ">", "=", "!="]) : Cl P w K mg base 3 "value_of" ["kind", "word"] m_value_of :=
  cl_ok Fn wsc_value_of fun f cdv A outer s H E I => by
    unfold c_value_of
    exact (vss_cons (vs_if (t_cmp (d_eq I.hr.units) (vp_var 0 (pv 0)) (VE.vp (ve_str))) (vss_one (vs_ret (v_calC C_read_polynomial I.hr I.gd I.tk (va_cons (ve_var 1 (pv 1)) (va_nil))))) (vss_nil)) (vss_cons (vs_if (t_cmp (d_eq I.hr.units) (vp_var 0 (pv 0)) (VE.vp (ve_str))) (vss_one (vs_ret (v_calC C_count_in I.hr I.gd I.tk (va_cons (ve_var 1 (pv 1)) (va_cons (ve_int) (va_nil)))))) (vss_nil)) (vss_cons (vs_if (VW.vt (vw_or (t_cmp (d_eq I.hr.units) (vp_var 0 (pv 0)) (VE.vp (ve_str))) (vw_or1 (t_cmp (d_eq I.hr.units) (vp_var 0 (pv 0)) (VE.vp (ve_str)))))) (vss_one (vs_ret (v_calC C_count_in I.hr I.gd I.tk (va_cons (ve_var 1 (pv 1)) (va_cons (v_gl G_MOST_ROWS) (va_nil)))))) (vss_nil)) (vss_cons (vs_if (t_cmp (d_eq I.hr.units) (vp_var 0 (pv 0)) (VE.vp (ve_str))) (vss_one (vs_ret (ve_ifExp (t_ginA GK_WORDS (vp_var 1 (pv 1))) (ve_var 1 (pv 1)) (ve_non)))) (vss_nil)) (vss_cons (vs_set (i := 2) wsc_value_of.nd rfl (by first | exact Or.inl rfl | exact Or.inr rfl) (ve_ifExp (t_cmp (d_eq I.hr.units) (vp_var 0 (pv 0)) (VE.vp (ve_str))) (VO.ve (v_listK GK_OPPOSITE rfl z_list b_list)) (VO.ve (v_typO c_listO rfl z_list b_list (vap_cons (VE.vp (v_gl G_ROW_SIGNS)) (vap_nil)))))) (vss_one (vs_ret (ve_ifExp (t_cmp (d_in (u65 I.hr)) (vp_var 1 (pv 1)) (vp_var 2 (pv 2))) (ve_var 1 (pv 1)) (ve_non)))))))))
/-! behind -/
abbrev ws_behind : Stmt := topS 39
abbrev wN_behind : List Str := ["kind", "value"]
theorem wsc_behind : FnScope wN_behind ["kind", "value"] (defScope ws_behind) := ⟨rfl, rfl, rfl, by decide +kernel, rfl, by decide +kernel, by decide +kernel⟩
theorem wd_behind {P : Program} {w : World} {K : Fg} {mg : Str → Option Value} {base : Heap} (Fn : Df K mg "behind" ws_behind ["kind", "value"]) (z_list : mg "list" = none) (G_WORDS : VL.GD K w mg "WORDS" ["sign", "some", "not", "and", "or"] [(.tuple [(.str "polynomial"), (.str "sign")]), (.tuple [(.str "many")]), (.tuple [(.str "formula")]), (.tuple [(.str "formula"), (.str "formula")]), (.tuple [(.str "formula"), (.str "formula")])]) : Cl P w K mg base 1 "behind" ["kind", "value"] m_behind :=
  cl_ok Fn wsc_behind fun f cdv A outer s H E I => by
    unfold c_behind
    exact (vss_cons (vs_if (t_cmp (d_eq I.hr.units) (vp_var 0 (pv 0)) (VE.vp (ve_str))) (vss_one (vs_retO (v_typO c_listO rfl z_list b_list (vap_cons (VE.vp (v_gsel G_WORDS (ve_var 1 (pv 1)))) (vap_nil))))) (vss_nil)) (vss_cons (vs_if (t_cmp (d_eq I.hr.units) (vp_var 0 (pv 0)) (VE.vp (ve_str))) (vss_one (vs_retO (vo_lst (va_cons (v_fmtC (vp_var 1 (pv 1))) (va_nil))))) (vss_nil)) (vss_cons (vs_if (VW.vt (vw_or (t_cmp (d_eq I.hr.units) (vp_var 0 (pv 0)) (VE.vp (ve_str))) (vw_or1 (t_cmp (d_eq I.hr.units) (vp_var 0 (pv 0)) (VE.vp (ve_str)))))) (vss_one (vs_retO (v_opO d_mulO (VE.vp (v_op d_add (VE.vp (v_op d_mul (VE.vp (VO.ve (vo_lst (va_cons (ve_str) (va_nil))))) (VE.vp (ve_ifExp (t_cmp (d_eq I.hr.units) (vp_var 0 (pv 0)) (VE.vp (ve_str))) (ve_int) (ve_int))))) (VE.vp (VO.ve (vo_lst (va_cons (ve_str) (va_nil))))))) (vp_var 1 (pv 1))))) (vss_nil)) (vss_one (vs_retO (vo_lst (va_nil)))))))
/-! read_line -/
abbrev ws_read_line : Stmt := topS 40
abbrev wN_read_line : List Str := ["line", "is_ended", "due", "found", "column", "word", "value"]
theorem wsc_read_line : FnScope wN_read_line ["line", "is_ended"] (defScope ws_read_line) := ⟨rfl, rfl, rfl, by decide +kernel, rfl, by decide +kernel, by decide +kernel⟩
theorem wd_read_line {P : Program} {w : World} {K : Fg} {mg : Str → Option Value} {base : Heap} (Fn : DfK K mg "read_line" ws_read_line ["line", "is_ended"] ["is_ended"] 1) (C_words_of : Cl P w K mg base 1 "words_of" ["line"] m_words_of) (C_value_of : Cl P w K mg base 3 "value_of" ["kind", "word"] m_value_of) (C_behind : Cl P w K mg base 1 "behind" ["kind", "value"] m_behind) {a_BadText : Addr} (m_BadText : mg "BadText" = some (.ref a_BadText)) (O_BadText : ExO P K "BadText" ["line", "column"] a_BadText) (ty_BadText : PySem.W.typeIn K (.ref a_BadText) = some (.type "type")) (z_super : mg "super" = none) (z_len : mg "len" = none) : ClK P w K mg base 4 "read_line" ["line", "is_ended"] ["is_ended"] 1 m_read_line :=
  clK_ok Fn wsc_read_line fun f cdv A outer s H E I => by
    unfold c_read_line b_read_line_1
    exact (vss_cons (vs_set (i := 2) wsc_read_line.nd rfl (by first | exact Or.inl rfl | exact Or.inr rfl) (VO.ve (vo_lst (va_cons (ve_str) (va_nil))))) (vss_cons (vs_setO (i := 3) wsc_read_line.nd rfl (by first | exact Or.inl rfl | exact Or.inr rfl) (vo_lst (va_nil))) (vss_cons (vs_for I.hp rfl (vi_seq (v_calC C_words_of I.hr I.gd I.tk (va_cons (ve_var 0 (pv 0)) (va_nil)))) (vg_tup rfl (vgs_cons (vg_name (pg_name (i := 4) wsc_read_line.nd rfl (by first | exact Or.inl rfl | exact Or.inr rfl))) (vgs_cons (vg_name (pg_name (i := 5) wsc_read_line.nd rfl (by first | exact Or.inl rfl | exact Or.inr rfl))) (vgs_nil)))) (vss_cons (vs_set (i := 6) wsc_read_line.nd rfl (by first | exact Or.inl rfl | exact Or.inr rfl) (ve_ifExp (t_cmp (d_ne I.hr.units) (vp_var 2 (pv 2)) (VE.vp (VO.ve (vo_lst (va_nil))))) (v_calC C_value_of I.hr I.gd I.tk (va_cons (v_ix d_ix (vp_var 2 (pv 2)) (VE.vp (ve_int))) (va_cons (ve_var 5 (pv 5)) (va_nil)))) (ve_non))) (vss_cons (vs_if (t_cmp d_is (vp_var 6 (pv 6)) (VE.vp (ve_non))) (vss_one (vs_raiseF O_BadText ty_BadText m_BadText z_super I.tk I.hr (va_cons (ve_int) (va_cons (ve_var 4 (pv 4)) (va_nil))))) (vss_nil)) (vss_cons (vs_app 3 (pv 3) (ve_tup (va_cons (v_ix d_ix (vp_var 2 (pv 2)) (VE.vp (ve_int))) (va_cons (ve_var 6 (pv 6)) (va_nil))))) (vss_one (vs_set (i := 2) wsc_read_line.nd rfl (by first | exact Or.inl rfl | exact Or.inr rfl) (v_op d_add (VE.vp (v_calC C_behind I.hr I.gd I.tk (va_cons (v_ix d_ix (vp_var 2 (pv 2)) (VE.vp (ve_int))) (va_cons (ve_var 6 (pv 6)) (va_nil))))) (VE.vp (v_slice (vp_var 2 (pv 2)) (vpo_some (ve_int)) (vpo_none)))))))))) (vss_cons (vs_if (VW.vt (vw_or (t_cmp (d_ne I.hr.units) (vp_var 2 (pv 2)) (VE.vp (VO.ve (vo_lst (va_nil))))) (vw_or1 (vt_not (t_tru (vp_var 1 (pv 1))))))) (vss_one (vs_raiseF O_BadText ty_BadText m_BadText z_super I.tk I.hr (va_cons (ve_int) (va_cons (v_op d_add (VE.vp (v_blt c_len rfl z_len b_len (vap_cons (vp_var 0 (pv 0)) (vap_nil)))) (VE.vp (ve_int))) (va_nil))))) (vss_nil)) (vss_one (vs_retV 3 (pv 3)))))))
/-! rows_made -/
abbrev ws_rows_made : Stmt := topS 41
abbrev wN_rows_made : List Str := ["many", "values", "size", "rows", "start", "coefficients", "constant", "sign"]
theorem wsc_rows_made : FnScope wN_rows_made ["many", "values"] (defScope ws_rows_made) := ⟨rfl, rfl, rfl, by decide +kernel, rfl, by decide +kernel, by decide +kernel⟩
theorem wd_rows_made {P : Program} {w : World} {K : Fg} {mg : Str → Option Value} {base : Heap} (Fn : Df K mg "rows_made" ws_rows_made ["many", "values"]) (z_range : mg "range" = none) (z_len : mg "len" = none) : Cl P w K mg base 1 "rows_made" ["many", "values"] m_rows_made :=
  cl_ok Fn wsc_rows_made fun f cdv A outer s H E I => by
    unfold c_rows_made b_rows_made_1
    exact (vss_cons (vs_set (i := 2) wsc_rows_made.nd rfl (by first | exact Or.inl rfl | exact Or.inr rfl) (v_op d_add (vp_var 0 (pv 0)) (VE.vp (ve_int)))) (vss_cons (vs_setO (i := 3) wsc_rows_made.nd rfl (by first | exact Or.inl rfl | exact Or.inr rfl) (vo_lst (va_nil))) (vss_cons (vs_for I.hp rfl (vi_range3 rfl z_range (vap_cons (VE.vp (ve_int)) (vap_cons (VE.vp (v_blt c_len rfl z_len b_len (vap_cons (vp_var 1 (pv 1)) (vap_nil)))) (vap_cons (vp_var 2 (pv 2)) (vap_nil))))) (vg_name (pg_name (i := 4) wsc_rows_made.nd rfl (by first | exact Or.inl rfl | exact Or.inr rfl))) (vss_cons (vs_starA (v_slice (vp_var 1 (pv 1)) (vpo_some (ve_var 4 (pv 4))) (vpo_some (v_op d_add (vp_var 4 (pv 4)) (vp_var 2 (pv 2))))) (vgs_cons (vg_name (pg_name (i := 5) wsc_rows_made.nd rfl (by first | exact Or.inl rfl | exact Or.inr rfl))) (vgs_cons (vg_name (pg_name (i := 6) wsc_rows_made.nd rfl (by first | exact Or.inl rfl | exact Or.inr rfl))) (vgs_cons (vg_name (pg_name (i := 7) wsc_rows_made.nd rfl (by first | exact Or.inl rfl | exact Or.inr rfl))) (vgs_nil)))) (by decide)) (vss_one (vs_app 3 (pv 3) (ve_tup (va_cons (ve_var 5 (pv 5)) (va_cons (ve_var 6 (pv 6)) (va_cons (ve_var 7 (pv 7)) (va_nil))))))))) (vss_one (vs_retV 3 (pv 3))))))
/-! formula_made -/
abbrev ws_formula_made : Stmt := topS 42
abbrev wN_formula_made : List Str := ["found", "values", "kind", "value", "many", "count", "parts", "_"]
theorem wsc_formula_made : FnScope wN_formula_made ["found"] (defScope ws_formula_made) := ⟨rfl, rfl, rfl, by decide +kernel, rfl, by decide +kernel, by decide +kernel⟩
theorem wd_formula_made {P : Program} {w : World} {K : Fg} {mg : Str → Option Value} {base : Heap} (Fn : Df K mg "formula_made" ws_formula_made ["found"]) (C_rows_made : Cl P w K mg base 1 "rows_made" ["many", "values"] m_rows_made) (z_range : mg "range" = none) (G_WORDS : VL.GD K w mg "WORDS" ["sign", "some", "not", "and", "or"] [(.tuple [(.str "polynomial"), (.str "sign")]), (.tuple [(.str "many")]), (.tuple [(.str "formula")]), (.tuple [(.str "formula"), (.str "formula")]), (.tuple [(.str "formula"), (.str "formula")])]) : Cl P w K mg base 2 "formula_made" ["found"] m_formula_made :=
  cl_ok Fn wsc_formula_made fun f cdv A outer s H E I => by
    unfold c_formula_made b_formula_made_1
    exact (vss_cons (vs_setO (i := 1) wsc_formula_made.nd rfl (by first | exact Or.inl rfl | exact Or.inr rfl) (vo_lst (va_nil))) (vss_cons (vs_for I.hp rfl (vi_seq (VO.ve (v_revO (vp_var 0 (pv 0))))) (vg_tup rfl (vgs_cons (vg_name (pg_name (i := 2) wsc_formula_made.nd rfl (by first | exact Or.inl rfl | exact Or.inr rfl))) (vgs_cons (vg_name (pg_name (i := 3) wsc_formula_made.nd rfl (by first | exact Or.inl rfl | exact Or.inr rfl))) (vgs_nil)))) (vss_one (vs_if (VW.vt (vw_and (t_cmp (d_eq I.hr.units) (vp_var 2 (pv 2)) (VE.vp (ve_str))) (vw_and1 (t_cmp (d_eq I.hr.units) (vp_var 3 (pv 3)) (VE.vp (ve_str)))))) (vss_cons (y_par (i := 4) (j := 5) rfl wsc_formula_made.nd rfl rfl (by decide) rfl rfl (xa_cons (x_pop 1 (pv 1)) (xa_cons (x_pop 1 (pv 1)) (xa_nil))) (by rfl)) (vss_cons (y_compO (own := [("_", 7)]) (ts := [7]) (i := 6) rfl wsc_formula_made.nd rfl rfl (sw_true rfl rfl rfl (by decide +kernel)) (x_i (W := WF) (vi_range1 rfl z_range (vap_cons (VE.vp (v_op d_mul (VE.vp (v_op d_add (vp_var 4 (pv 4)) (VE.vp (ve_int)))) (vp_var 5 (pv 5)))) (vap_nil)))) (blkOk_by (N := wN_formula_made) (sc := defScope ws_formula_made) (by decide +kernel)) (fun _ _ _ _ _ => vg_name (pg_name (i := 7) wsc_formula_made.nd rfl (by first | exact Or.inl rfl | exact Or.inr rfl))) (fun _ _ _ _ _ => xts_nil) (fun _ _ _ _ _ => x_pop 1 (pv 1))) (vss_fz 6 (vss_one (vs_app 1 (pv 1) (ve_tup (va_cons (ve_str) (va_cons (ve_var 4 (pv 4)) (va_cons (v_calC C_rows_made I.hr I.gd I.tk (va_cons (ve_var 4 (pv 4)) (va_cons (ve_var 6 (pv 6)) (va_nil)))) (va_nil)))))))))) (vss_one (vs_if (t_cmp (d_eq I.hr.units) (vp_var 2 (pv 2)) (VE.vp (ve_str))) (vss_one (y_app 1 (pv 1) (x_tup (xa_cons (x_e (W := WF) (ve_var 3 (pv 3))) (xa_star (x_comp (own := [("_", 7)]) (ts := [7]) rfl wsc_formula_made.nd (x_i (W := WF) (vi_seq (v_gsel G_WORDS (ve_var 3 (pv 3))))) (blkOk_by (N := wN_formula_made) (sc := defScope ws_formula_made) (by decide +kernel)) (fun _ _ _ _ _ => vg_name (pg_name (i := 7) wsc_formula_made.nd rfl (by first | exact Or.inl rfl | exact Or.inr rfl))) (fun _ _ _ _ _ => xts_nil) (fun _ _ _ _ _ => x_pop 1 (pv 1))) (xa_nil)))))) (vss_one (vs_app 1 (pv 1) (ve_var 3 (pv 3))))))))) (vss_one (vs_ret (v_ix d_ix (vp_var 1 (pv 1)) (VE.vp (ve_int)))))))
/-! is_whole -/
abbrev ws_is_whole : Stmt := topS 9
abbrev wN_is_whole : List Str := ["value"]
theorem wsc_is_whole : FnScope wN_is_whole ["value"] (defScope ws_is_whole) := ⟨rfl, rfl, rfl, by decide +kernel, rfl, by decide +kernel, by decide +kernel⟩
theorem wd_is_whole {P : Program} {w : World} {K : Fg} {mg : Str → Option Value} {base : Heap} (Fn : Df K mg "is_whole" ws_is_whole ["value"]) (z_isinstance : mg "isinstance" = none) (z_bool : mg "bool" = none) (z_int : mg "int" = none) : Cl P w K mg base 1 "is_whole" ["value"] m__law_is_whole :=
  cl_ok Fn wsc_is_whole fun f cdv A outer s H E I => by
    unfold c__law_is_whole
    exact (vss_one (vs_ret (v_and (v_isi rfl z_isinstance b_isinstance (vp_var 0 (pv 0)) (pe_bltn rfl z_int b_int rfl)) (v_and1 (v_not (VE.vp (v_isi rfl z_isinstance b_isinstance (vp_var 0 (pv 0)) (pe_bltn rfl z_bool b_bool rfl))))))))
/-! check_polynomial -/
abbrev ws_check_polynomial : Stmt := topS 11
abbrev wN_check_polynomial : List Str := ["polynomial", "most", "bound", "coefficient"]
theorem wsc_check_polynomial : FnScope wN_check_polynomial ["polynomial", "most", "bound"] (defScope ws_check_polynomial) := ⟨rfl, rfl, rfl, by decide +kernel, rfl, by decide +kernel, by decide +kernel⟩
theorem wd_check_polynomial {P : Program} {w : World} {K : Fg} {mg : Str → Option Value} {base : Heap} (Fn : DfK K mg "check_polynomial" ws_check_polynomial ["polynomial", "most", "bound"] ["most", "bound"] 1) (C_is_whole : Cl P w K mg base 1 "is_whole" ["value"] m__law_is_whole) {a_BadSize : Addr} (m_BadSize : mg "BadSize" = some (.ref a_BadSize)) {a_BadNumber : Addr} (m_BadNumber : mg "BadNumber" = some (.ref a_BadNumber)) (S_BadSize : ExK P K a_BadSize) (S_BadNumber : ExK P K a_BadNumber) (z_len : mg "len" = none) (z_super : mg "super" = none) : ClK P w K mg base 2 "check_polynomial" ["polynomial", "most", "bound"] ["most", "bound"] 1 m_check_polynomial :=
  clK_ok Fn wsc_check_polynomial fun f cdv A outer s H E I => by
    unfold c_check_polynomial b_check_polynomial_1
    exact (vss_cons (vs_if (t_cmp d_gt (VE.vp (v_blt c_len rfl z_len b_len (vap_cons (vp_var 0 (pv 0)) (vap_nil)))) (VE.vp (v_op d_add (vp_var 1 (pv 1)) (VE.vp (ve_int))))) (vss_one (vs_raiseC S_BadSize m_BadSize z_super I.tk I.hr)) (vss_nil)) (vss_cons (vs_for I.hp rfl (vi_seq (ve_var 0 (pv 0))) (vg_name (pg_name (i := 3) wsc_check_polynomial.nd rfl (by first | exact Or.inl rfl | exact Or.inr rfl))) (vss_one (vs_if (VW.vt (vw_or (vt_not (t_tru (VE.vp (v_calC C_is_whole I.hr I.gd I.tk (va_cons (ve_var 3 (pv 3)) (va_nil)))))) (vw_or1 (vt_not (t_chain d_lt d_lt (VE.vp (v_un d_neg (vp_var 2 (pv 2)))) (vp_var 3 (pv 3)) (vp_var 2 (pv 2))))))) (vss_one (vs_raiseC S_BadNumber m_BadNumber z_super I.tk I.hr)) (vss_nil)))) (vss_one (vs_if (VW.vt (vw_and (t_tru (vp_var 0 (pv 0))) (vw_and1 (t_cmp (d_eq I.hr.units) (VE.vp (v_ix d_ix (vp_var 0 (pv 0)) (VE.vp (v_un d_neg (VE.vp (ve_int)))))) (VE.vp (ve_int)))))) (vss_one (vs_raiseC S_BadNumber m_BadNumber z_super I.tk I.hr)) (vss_nil)))))
/-! check_row -/
abbrev ws_check_row : Stmt := topS 19
abbrev wN_check_row : List Str := ["many", "row", "coefficients", "constant", "sign", "polynomial"]
theorem wsc_check_row : FnScope wN_check_row ["many", "row"] (defScope ws_check_row) := ⟨rfl, rfl, rfl, by decide +kernel, rfl, by decide +kernel, by decide +kernel⟩
theorem wd_check_row {P : Program} {w : World} {K : Fg} {mg : Str → Option Value} {base : Heap} (Fn : Df K mg "check_row" ws_check_row ["many", "row"]) (C_check_polynomial : ClK P w K mg base 2 "check_polynomial" ["polynomial", "most", "bound"] ["most", "bound"] 1 m_check_polynomial) {a_BadSize : Addr} (m_BadSize : mg "BadSize" = some (.ref a_BadSize)) {a_BadSign : Addr} (m_BadSign : mg "BadSign" = some (.ref a_BadSign)) (S_BadSize : ExK P K a_BadSize) (S_BadSign : ExK P K a_BadSign) (z_len : mg "len" = none) (z_super : mg "super" = none) (G_ROW_SIGNS : VL.Gc K mg "ROW_SIGNS" (.tuple [(.str "<"), (.str "<="), (.str "=")])) : Cl P w K mg base 3 "check_row" ["many", "row"] m_check_row :=
  cl_ok Fn wsc_check_row fun f cdv A outer s H E I => by
    unfold c_check_row b_check_row_1
    exact (vss_cons (vs_asg (ve_var 1 (pv 1)) (vg_tup rfl (vgs_cons (vg_name (pg_name (i := 2) wsc_check_row.nd rfl (by first | exact Or.inl rfl | exact Or.inr rfl))) (vgs_cons (vg_name (pg_name (i := 3) wsc_check_row.nd rfl (by first | exact Or.inl rfl | exact Or.inr rfl))) (vgs_cons (vg_name (pg_name (i := 4) wsc_check_row.nd rfl (by first | exact Or.inl rfl | exact Or.inr rfl))) (vgs_nil)))))) (vss_cons (vs_if (t_cmp (d_ne I.hr.units) (VE.vp (v_blt c_len rfl z_len b_len (vap_cons (vp_var 2 (pv 2)) (vap_nil)))) (vp_var 0 (pv 0))) (vss_one (vs_raiseC S_BadSize m_BadSize z_super I.tk I.hr)) (vss_nil)) (vss_cons (vs_for I.hp rfl (vi_seq (v_op d_add (vp_var 2 (pv 2)) (VE.vp (VO.ve (vo_lst (va_cons (ve_var 3 (pv 3)) (va_nil))))))) (vg_name (pg_name (i := 5) wsc_check_row.nd rfl (by first | exact Or.inl rfl | exact Or.inr rfl))) (vss_one (vs_expr (v_calK C_check_polynomial I.hr I.gd I.tk (va_cons (ve_var 5 (pv 5)) (va_nil)) (vk_cons (ve_int) (vk_cons (ve_int) (vk_nil))))))) (vss_one (vs_if (t_cmp (d_notin (u65 I.hr)) (vp_var 4 (pv 4)) (VE.vp (v_gl G_ROW_SIGNS))) (vss_one (vs_raiseC S_BadSign m_BadSign z_super I.tk I.hr)) (vss_nil))))))
/-! check_block -/
abbrev ws_check_block : Stmt := topS 20
abbrev wN_check_block : List Str := ["block", "many", "rows", "row"]
theorem wsc_check_block : FnScope wN_check_block ["block"] (defScope ws_check_block) := ⟨rfl, rfl, rfl, by decide +kernel, rfl, by decide +kernel, by decide +kernel⟩
theorem wd_check_block {P : Program} {w : World} {K : Fg} {mg : Str → Option Value} {base : Heap} (Fn : Df K mg "check_block" ws_check_block ["block"]) (C_is_whole : Cl P w K mg base 1 "is_whole" ["value"] m__law_is_whole) (C_check_row : Cl P w K mg base 3 "check_row" ["many", "row"] m_check_row) {a_BadSize : Addr} (m_BadSize : mg "BadSize" = some (.ref a_BadSize)) (S_BadSize : ExK P K a_BadSize) (z_len : mg "len" = none) (z_super : mg "super" = none) : Cl P w K mg base 4 "check_block" ["block"] m_check_block :=
  cl_ok Fn wsc_check_block fun f cdv A outer s H E I => by
    unfold c_check_block b_check_block_1
    exact (vss_cons (vs_par (i := 1) (j := 2) rfl wsc_check_block.nd rfl rfl (by decide) rfl rfl (va_cons (v_ix d_ix (vp_var 0 (pv 0)) (VE.vp (ve_int))) (va_cons (v_ix d_ix (vp_var 0 (pv 0)) (VE.vp (ve_int))) (va_nil))) (by rfl)) (vss_cons (vs_if (VW.vt (vw_or (vt_not (t_tru (VE.vp (v_calC C_is_whole I.hr I.gd I.tk (va_cons (ve_var 1 (pv 1)) (va_nil)))))) (vw_or (t_cmp (d_notin (u65 I.hr)) (vp_var 1 (pv 1)) (VE.vp (ve_tup (va_cons (ve_int) (va_cons (ve_int) (va_nil)))))) (vw_or1 (vt_not (t_chain d_le d_le (VE.vp (ve_int)) (VE.vp (v_blt c_len rfl z_len b_len (vap_cons (vp_var 2 (pv 2)) (vap_nil)))) (VE.vp (ve_int)))))))) (vss_one (vs_raiseC S_BadSize m_BadSize z_super I.tk I.hr)) (vss_nil)) (vss_one (vs_for I.hp rfl (vi_seq (ve_var 2 (pv 2))) (vg_name (pg_name (i := 3) wsc_check_block.nd rfl (by first | exact Or.inl rfl | exact Or.inr rfl))) (vss_one (vs_expr (v_calC C_check_row I.hr I.gd I.tk (va_cons (ve_var 1 (pv 1)) (va_cons (ve_var 3 (pv 3)) (va_nil))))))))))
/-! check_part -/
abbrev ws_check_part : Stmt := topS 21
abbrev wN_check_part : List Str := ["formula", "depth", "has_uses", "kind", "part"]
theorem wsc_check_part : FnScope wN_check_part ["formula", "depth", "has_uses"] (defScope ws_check_part) := ⟨rfl, rfl, rfl, by decide +kernel, rfl, by decide +kernel, by decide +kernel⟩
theorem wd_check_part {P : Program} {w : World} {K : Fg} {mg : Str → Option Value} {base : Heap} (Fn : DfKD K mg "check_part" ws_check_part ["formula", "depth", "has_uses"] ["has_uses"] 2 [(.bool false)]) (C_check_polynomial : ClK P w K mg base 2 "check_polynomial" ["polynomial", "most", "bound"] ["most", "bound"] 1 m_check_polynomial) (C_check_block : Cl P w K mg base 4 "check_block" ["block"] m_check_block) {a_TooDeep : Addr} (m_TooDeep : mg "TooDeep" = some (.ref a_TooDeep)) {a_BadForm : Addr} (m_BadForm : mg "BadForm" = some (.ref a_BadForm)) {a_BadSign : Addr} (m_BadSign : mg "BadSign" = some (.ref a_BadSign)) (S_TooDeep : ExK P K a_TooDeep) (S_BadForm : ExK P K a_BadForm) (S_BadSign : ExK P K a_BadSign) (z_super : mg "super" = none) (z_len : mg "len" = none) (G_DEEPEST : VL.Gc K mg "DEEPEST" (.int 6)) (G_LENGTHS : VL.GD K w mg "LENGTHS" ["sign", "some", "not", "and", "or"] [(.int 3), (.int 3), (.int 2), (.int 3), (.int 3)]) (I_LENGTHS : VL.GI K w mg "LENGTHS" ["sign", "some", "not", "and", "or"] ["sign", "some", "not", "and", "or", "wrong", "use", "Not"]) (I_OPPOSITE : VL.GI K w mg "OPPOSITE" ["<", ">=", "<=", ">", "=", "!="] ["<", ">=", "<=", ">", "=", "!=", "==", "", "=<", "<>"]) (n : Nat) : ClKD P w K mg base (5 + n) "check_part" ["formula", "depth", "has_uses"] ["has_uses"] 2 [(.bool false)] (m_check_part n) := by
  induction n with
  | zero => exact clKD_ok (k := 4) (N := wN_check_part) (F := fun _ => .bad) Fn wsc_check_part fun f cdv A outer s H E I => vss_bad
  | succ n C_check_part =>
    rw [m_check_part_succ n]
    refine clKD_ok (k := 5 + n) (N := wN_check_part) (F := c_check_part (m_check_part n)) Fn wsc_check_part fun f cdv A outer s H E I => ?_
    unfold c_check_part b_check_part_1
    exact (vss_cons (vs_if (t_cmp d_gt (vp_var 1 (pv 1)) (VE.vp (v_gl G_DEEPEST))) (vss_one (vs_raiseC S_TooDeep m_TooDeep z_super I.tk I.hr (hk := by omega))) (vss_nil)) (vss_cons (vs_set (i := 3) wsc_check_part.nd rfl (by first | exact Or.inl rfl | exact Or.inr rfl) (v_ix d_ix (vp_var 0 (pv 0)) (VE.vp (ve_int)))) (vss_cons (vs_if (VW.vt (vw_and (t_tru (vp_var 2 (pv 2))) (vw_and (t_cmp (d_eq I.hr.units) (vp_var 3 (pv 3)) (VE.vp (ve_str))) (vw_and1 (t_cmp (d_eq I.hr.units) (VE.vp (v_blt c_len rfl z_len b_len (vap_cons (vp_var 0 (pv 0)) (vap_nil)))) (VE.vp (ve_int))))))) (vss_one (vs_retN)) (vss_nil)) (vss_cons (vs_if (VW.vt (vw_or (t_gnin I_LENGTHS (vp_var 3 (pv 3))) (vw_or1 (t_cmp (d_ne I.hr.units) (VE.vp (v_blt c_len rfl z_len b_len (vap_cons (vp_var 0 (pv 0)) (vap_nil)))) (VE.vp (v_gsel G_LENGTHS (ve_var 3 (pv 3)))))))) (vss_one (vs_raiseC S_BadForm m_BadForm z_super I.tk I.hr (hk := by omega))) (vss_nil)) (vss_one (vs_if (t_cmp (d_eq I.hr.units) (vp_var 3 (pv 3)) (VE.vp (ve_str))) (vss_cons (vs_expr (v_calK C_check_polynomial I.hr I.gd I.tk (va_cons (v_ix d_ix (vp_var 0 (pv 0)) (VE.vp (ve_int))) (va_nil)) (vk_cons (ve_int) (vk_cons (ve_int) (vk_nil))) (hj := by omega))) (vss_one (vs_if (t_gnin I_OPPOSITE (VE.vp (v_ix d_ix (vp_var 0 (pv 0)) (VE.vp (ve_int))))) (vss_one (vs_raiseC S_BadSign m_BadSign z_super I.tk I.hr (hk := by omega))) (vss_nil)))) (vss_one (vs_if (t_cmp (d_eq I.hr.units) (vp_var 3 (pv 3)) (VE.vp (ve_str))) (vss_one (vs_expr (v_calC C_check_block I.hr I.gd I.tk (va_cons (ve_var 0 (pv 0)) (va_nil)) (hj := by omega)))) (vss_one (vs_for I.hp rfl (vi_seq (v_slice (vp_var 0 (pv 0)) (vpo_some (ve_int)) (vpo_none))) (vg_name (pg_name (i := 4) wsc_check_part.nd rfl (by first | exact Or.inl rfl | exact Or.inr rfl))) (vss_one (vs_expr (v_calK C_check_part.kk I.hr I.gd I.tk (va_cons (ve_var 4 (pv 4)) (va_cons (v_op d_add (vp_var 1 (pv 1)) (VE.vp (ve_int))) (va_nil))) (vk_cons (ve_var 2 (pv 2)) (vk_nil)) (hj := by omega))))))))))))))
/-! is_atom -/
abbrev ws_is_atom : Stmt := topS 23
abbrev wN_is_atom : List Str := ["formula"]
theorem wsc_is_atom : FnScope wN_is_atom ["formula"] (defScope ws_is_atom) := ⟨rfl, rfl, rfl, by decide +kernel, rfl, by decide +kernel, by decide +kernel⟩
theorem wd_is_atom {P : Program} {w : World} {K : Fg} {mg : Str → Option Value} {base : Heap} (Fn : Df K mg "is_atom" ws_is_atom ["formula"]) : Cl P w K mg base 1 "is_atom" ["formula"] m_is_atom :=
  cl_ok Fn wsc_is_atom fun f cdv A outer s H E I => by
    unfold c_is_atom
    exact (vss_one (vs_ret (v_or (v_cmp (d_eq I.hr.units) (VE.vp (v_ix d_ix (vp_var 0 (pv 0)) (VE.vp (ve_int)))) (VE.vp (ve_str))) (v_or1 (v_cmp (d_eq I.hr.units) (VE.vp (v_ix d_ix (vp_var 0 (pv 0)) (VE.vp (ve_int)))) (VE.vp (ve_str)))))))
/-! depth_of -/
abbrev ws_depth_of : Stmt := topS 26
abbrev wN_depth_of : List Str := ["formula", "part"]
theorem wsc_depth_of : FnScope wN_depth_of ["formula"] (defScope ws_depth_of) := ⟨rfl, rfl, rfl, by decide +kernel, rfl, by decide +kernel, by decide +kernel⟩
theorem wd_depth_of {P : Program} {w : World} {K : Fg} {mg : Str → Option Value} {base : Heap} (Fn : Df K mg "depth_of" ws_depth_of ["formula"]) (C_is_atom : Cl P w K mg base 1 "is_atom" ["formula"] m_is_atom) (z_max : mg "max" = none) (n : Nat) : Cl P w K mg base (2 + n) "depth_of" ["formula"] (m_depth_of n) := by
  induction n with
  | zero => exact cl_ok (k := 1) (N := wN_depth_of) (F := fun _ => .bad) Fn wsc_depth_of fun f cdv A outer s H E I => vss_bad
  | succ n C_depth_of =>
    rw [m_depth_of_succ n]
    refine cl_ok (k := 2 + n) (N := wN_depth_of) (F := c_depth_of (m_depth_of n)) Fn wsc_depth_of fun f cdv A outer s H E I => ?_
    unfold c_depth_of
    exact (vss_cons (vs_if (t_tru (VE.vp (v_calC C_is_atom I.hr I.gd I.tk (va_cons (ve_var 0 (pv 0)) (va_nil)) (hj := by omega)))) (vss_one (vs_ret (ve_int))) (vss_nil)) (vss_one (vs_ret (v_op d_add (VE.vp (ve_int)) (VE.vp (v_blt (c_max rfl) rfl z_max b_max (vap_cons (VE.vp (VO.ve (vo_comp (own := [("part", 1)]) (ts := [1]) rfl wsc_depth_of.nd (vi_seq (v_slice (vp_var 0 (pv 0)) (vpo_some (ve_int)) (vpo_none))) (blkOk_by (N := wN_depth_of) (sc := defScope ws_depth_of) (by decide +kernel)) (fun _ _ _ _ _ => vg_name (pg_name (i := 1) wsc_depth_of.nd rfl (by first | exact Or.inl rfl | exact Or.inr rfl))) (fun _ _ _ _ _ => vts_nil) (fun _ _ _ _ _ => v_calC C_depth_of I.hr I.gd (show L2N.Takes _ WF from fun _ _ ⟨_, _, _, _, _, _, _, _, _, _, _, _, _, _, _, _, w⟩ => w.elim) (va_cons (ve_var 1 (pv 1)) (va_nil)) (hj := by omega))))) (vap_nil))))))))
/-! copy_of -/
abbrev ws_copy_of : Stmt := topS 25
abbrev wN_copy_of : List Str := ["formula", "rows", "coefficients", "constant", "sign", "polynomial", "part"]
theorem wsc_copy_of : FnScope wN_copy_of ["formula"] (defScope ws_copy_of) := ⟨rfl, rfl, rfl, by decide +kernel, rfl, by decide +kernel, by decide +kernel⟩
theorem wd_copy_of {P : Program} {w : World} {K : Fg} {mg : Str → Option Value} {base : Heap} (Fn : Df K mg "copy_of" ws_copy_of ["formula"]) (z_list : mg "list" = none) : Cl P w K mg base 1 "copy_of" ["formula"] m_copy_of :=
  cl_ok Fn wsc_copy_of fun f cdv A outer s H E I => by
    unfold c_copy_of b_copy_of_1
    exact (vss_cons (vs_if (t_cmp (d_eq I.hr.units) (VE.vp (v_ix d_ix (vp_var 0 (pv 0)) (VE.vp (ve_int)))) (VE.vp (ve_str))) (vss_one (vs_ret (ve_tup (va_cons (ve_str) (va_cons (VO.ve (v_typO c_listO rfl z_list b_list (vap_cons (VE.vp (v_ix d_ix (vp_var 0 (pv 0)) (VE.vp (ve_int)))) (vap_nil)))) (va_cons (v_ix d_ix (vp_var 0 (pv 0)) (VE.vp (ve_int))) (va_nil))))))) (vss_nil)) (vss_cons (vs_if (t_cmp (d_eq I.hr.units) (VE.vp (v_ix d_ix (vp_var 0 (pv 0)) (VE.vp (ve_int)))) (VE.vp (ve_str))) (vss_cons (vs_setO (i := 1) wsc_copy_of.nd rfl (by first | exact Or.inl rfl | exact Or.inr rfl) (vo_lst (va_nil))) (vss_cons (vs_for I.hp rfl (vi_seq (v_ix d_ix (vp_var 0 (pv 0)) (VE.vp (ve_int)))) (vg_tup rfl (vgs_cons (vg_name (pg_name (i := 2) wsc_copy_of.nd rfl (by first | exact Or.inl rfl | exact Or.inr rfl))) (vgs_cons (vg_name (pg_name (i := 3) wsc_copy_of.nd rfl (by first | exact Or.inl rfl | exact Or.inr rfl))) (vgs_cons (vg_name (pg_name (i := 4) wsc_copy_of.nd rfl (by first | exact Or.inl rfl | exact Or.inr rfl))) (vgs_nil))))) (vss_one (vs_app 1 (pv 1) (ve_tup (va_cons (VO.ve (vo_comp (own := [("polynomial", 5)]) (ts := [5]) rfl wsc_copy_of.nd (vi_seq (ve_var 2 (pv 2))) (blkOk_by (N := wN_copy_of) (sc := defScope ws_copy_of) (by decide +kernel)) (fun _ _ _ _ _ => vg_name (pg_name (i := 5) wsc_copy_of.nd rfl (by first | exact Or.inl rfl | exact Or.inr rfl))) (fun _ _ _ _ _ => vts_nil) (fun _ _ _ _ _ => VO.ve (v_typO c_listO rfl z_list b_list (vap_cons (vp_var 5 (pv 5)) (vap_nil)))))) (va_cons (VO.ve (v_typO c_listO rfl z_list b_list (vap_cons (vp_var 3 (pv 3)) (vap_nil)))) (va_cons (ve_var 4 (pv 4)) (va_nil)))))))) (vss_one (vs_fz 1 (vs_ret (ve_tup (va_cons (ve_str) (va_cons (v_ix d_ix (vp_var 0 (pv 0)) (VE.vp (ve_int))) (va_cons (ve_var 1 (pv 1)) (va_nil)))))))))) (vss_nil)) (vss_bad)))
/-! atoms_of -/
abbrev ws_atoms_of : Stmt := topS 24
abbrev wN_atoms_of : List Str := ["formula", "found", "part"]
theorem wsc_atoms_of : FnScope wN_atoms_of ["formula"] (defScope ws_atoms_of) := ⟨rfl, rfl, rfl, by decide +kernel, rfl, by decide +kernel, by decide +kernel⟩
theorem wd_atoms_of {P : Program} {w : World} {K : Fg} {mg : Str → Option Value} {base : Heap} (Fn : Df K mg "atoms_of" ws_atoms_of ["formula"]) (C_is_atom : Cl P w K mg base 1 "is_atom" ["formula"] m_is_atom) (C_copy_of : Cl P w K mg base 1 "copy_of" ["formula"] m_copy_of) (n : Nat) : Cl P w K mg base (2 + n) "atoms_of" ["formula"] (m_atoms_of n) := by
  induction n with
  | zero => exact cl_ok (k := 1) (N := wN_atoms_of) (F := fun _ => .bad) Fn wsc_atoms_of fun f cdv A outer s H E I => vss_bad
  | succ n C_atoms_of =>
    rw [m_atoms_of_succ n]
    refine cl_ok (k := 2 + n) (N := wN_atoms_of) (F := c_atoms_of (m_atoms_of n)) Fn wsc_atoms_of fun f cdv A outer s H E I => ?_
    unfold c_atoms_of b_atoms_of_1
    exact (vss_cons (vs_if (t_tru (VE.vp (v_calC C_is_atom I.hr I.gd I.tk (va_cons (ve_var 0 (pv 0)) (va_nil)) (hj := by omega)))) (vss_one (vs_retO (vo_lst (va_cons (v_calC C_copy_of I.hr I.gd I.tk (va_cons (ve_var 0 (pv 0)) (va_nil)) (hj := by omega)) (va_nil))))) (vss_nil)) (vss_cons (vs_setO (i := 1) wsc_atoms_of.nd rfl (by first | exact Or.inl rfl | exact Or.inr rfl) (vo_lst (va_nil))) (vss_cons (vs_for I.hp rfl (vi_seq (v_slice (vp_var 0 (pv 0)) (vpo_some (ve_int)) (vpo_none))) (vg_name (pg_name (i := 2) wsc_atoms_of.nd rfl (by first | exact Or.inl rfl | exact Or.inr rfl))) (vss_one (vs_ext 1 (pv 1) (VE.vp (v_calC C_atoms_of I.hr I.gd I.tk (va_cons (ve_var 2 (pv 2)) (va_nil)) (hj := by omega)))))) (vss_one (vs_retV 1 (pv 1))))))
/-! size_of -/
abbrev ws_size_of : Stmt := topS 27
abbrev wN_size_of : List Str := ["formula", "kinds", "atom"]
theorem wsc_size_of : FnScope wN_size_of ["formula"] (defScope ws_size_of) := ⟨rfl, rfl, rfl, by decide +kernel, rfl, by decide +kernel, by decide +kernel⟩
theorem wd_size_of {P : Program} {w : World} {K : Fg} {mg : Str → Option Value} {base : Heap} (Fn : Df K mg "size_of" ws_size_of ["formula"]) (C_atoms_of : Cl P w K mg base 14 "atoms_of" ["formula"] (m_atoms_of 12)) (C_depth_of : Cl P w K mg base 14 "depth_of" ["formula"] (m_depth_of 12)) : Cl P w K mg base 15 "size_of" ["formula"] m_size_of :=
  cl_ok Fn wsc_size_of fun f cdv A outer s H E I => by
    unfold c_size_of
    exact (vss_cons (vs_compO (own := [("atom", 2)]) (ts := [2]) (i := 1) rfl wsc_size_of.nd rfl rfl (sw_true rfl rfl rfl (by decide +kernel)) (vi_seq (v_calC C_atoms_of I.hr I.gd I.tk (va_cons (ve_var 0 (pv 0)) (va_nil)))) (blkOk_by (N := wN_size_of) (sc := defScope ws_size_of) (by decide +kernel)) (fun _ _ _ _ _ => vg_name (pg_name (i := 2) wsc_size_of.nd rfl (by first | exact Or.inl rfl | exact Or.inr rfl))) (fun _ _ _ _ _ => vts_nil) (fun _ _ _ _ _ => v_ix d_ix (vp_var 2 (pv 2)) (VE.vp (ve_int)))) (vss_fz 1 (vss_one (vs_ret (ve_tup (va_cons (v_count (vp_var 1 (pv 1)) (VE.vp (ve_str))) (va_cons (v_count (vp_var 1 (pv 1)) (VE.vp (ve_str))) (va_cons (v_calC C_depth_of I.hr I.gd I.tk (va_cons (ve_var 0 (pv 0)) (va_nil))) (va_nil)))))))))
/-! check_formula -/
abbrev ws_check_formula : Stmt := topS 22
abbrev wN_check_formula : List Str := ["formula", "signs", "blocks", "_"]
theorem wsc_check_formula : FnScope wN_check_formula ["formula"] (defScope ws_check_formula) := ⟨rfl, rfl, rfl, by decide +kernel, rfl, by decide +kernel, by decide +kernel⟩
theorem wd_check_formula {P : Program} {w : World} {K : Fg} {mg : Str → Option Value} {base : Heap} (Fn : Df K mg "check_formula" ws_check_formula ["formula"]) (C_check_part : ClKD P w K mg base 17 "check_part" ["formula", "depth", "has_uses"] ["has_uses"] 2 [(.bool false)] (m_check_part 12)) (C_size_of : Cl P w K mg base 15 "size_of" ["formula"] m_size_of) {a_BadSize : Addr} (m_BadSize : mg "BadSize" = some (.ref a_BadSize)) (S_BadSize : ExK P K a_BadSize) (z_super : mg "super" = none) (G_MOST_BLOCKS : VL.Gc K mg "MOST_BLOCKS" (.int 3)) (G_MOST_SIGNS : VL.Gc K mg "MOST_SIGNS" (.int 6)) : Cl P w K mg base 18 "check_formula" ["formula"] m_check_formula :=
  cl_ok Fn wsc_check_formula fun f cdv A outer s H E I => by
    unfold c_check_formula
    exact (vss_cons (vs_expr (v_calKD C_check_part I.hr I.gd I.tk (va_cons (ve_var 0 (pv 0)) (va_cons (ve_int) (va_nil))))) (vss_cons (vs_asg (v_calC C_size_of I.hr I.gd I.tk (va_cons (ve_var 0 (pv 0)) (va_nil))) (vg_tup rfl (vgs_cons (vg_name (pg_name (i := 1) wsc_check_formula.nd rfl (by first | exact Or.inl rfl | exact Or.inr rfl))) (vgs_cons (vg_name (pg_name (i := 2) wsc_check_formula.nd rfl (by first | exact Or.inl rfl | exact Or.inr rfl))) (vgs_cons (vg_name (pg_name (i := 3) wsc_check_formula.nd rfl (by first | exact Or.inl rfl | exact Or.inr rfl))) (vgs_nil)))))) (vss_one (vs_if (VW.vt (vw_or (t_cmp d_gt (vp_var 1 (pv 1)) (VE.vp (v_gl G_MOST_SIGNS))) (vw_or1 (t_cmp d_gt (vp_var 2 (pv 2)) (VE.vp (v_gl G_MOST_BLOCKS)))))) (vss_one (vs_raiseC S_BadSize m_BadSize z_super I.tk I.hr)) (vss_nil)))))
/-! read_formula -/
abbrev ws_read_formula : Stmt := topS 43
abbrev wN_read_formula : List Str := ["text", "line", "rest", "found", "formula"]
theorem wsc_read_formula : FnScope wN_read_formula ["text"] (defScope ws_read_formula) := ⟨rfl, rfl, rfl, by decide +kernel, rfl, by decide +kernel, by decide +kernel⟩
theorem wd_read_formula {P : Program} {w : World} {K : Fg} {mg : Str → Option Value} {base : Heap} (Fn : Df K mg "read_formula" ws_read_formula ["text"]) (C_read_line : ClK P w K mg base 4 "read_line" ["line", "is_ended"] ["is_ended"] 1 m_read_line) (C_formula_made : Cl P w K mg base 2 "formula_made" ["found"] m_formula_made) (C_check_formula : Cl P w K mg base 18 "check_formula" ["formula"] m_check_formula) {a_BadText : Addr} (m_BadText : mg "BadText" = some (.ref a_BadText)) (O_BadText : ExO P K "BadText" ["line", "column"] a_BadText) (ty_BadText : PySem.W.typeIn K (.ref a_BadText) = some (.type "type")) (z_super : mg "super" = none) : Cl P w K mg base 19 "read_formula" ["text"] m_read_formula :=
  cl_ok Fn wsc_read_formula fun f cdv A outer s H E I => by
    unfold c_read_formula
    exact (vss_cons (vs_if (t_cmp (d_eq I.hr.units) (vp_var 0 (pv 0)) (VE.vp (ve_str))) (vss_one (vs_raiseF O_BadText ty_BadText m_BadText z_super I.tk I.hr (va_cons (ve_int) (va_cons (ve_int) (va_nil))))) (vss_nil)) (vss_cons (vs_starA (VO.ve (v_splitO (vp_var 0 (pv 0)) (VE.vp (ve_str)))) (vgs_cons (vg_name (pg_name (i := 1) wsc_read_formula.nd rfl (by first | exact Or.inl rfl | exact Or.inr rfl))) (vgs_cons (vg_name (pg_name (i := 2) wsc_read_formula.nd rfl (by first | exact Or.inl rfl | exact Or.inr rfl))) (vgs_nil))) (by decide)) (vss_cons (vs_set (i := 3) wsc_read_formula.nd rfl (by first | exact Or.inl rfl | exact Or.inr rfl) (v_calK C_read_line I.hr I.gd I.tk (va_cons (ve_var 1 (pv 1)) (va_nil)) (vk_cons (v_cmp (d_ne I.hr.units) (vp_var 2 (pv 2)) (VE.vp (VO.ve (vo_lst (va_nil))))) (vk_nil)))) (vss_cons (vs_if (t_cmp (d_ne I.hr.units) (vp_var 2 (pv 2)) (VE.vp (VO.ve (vo_lst (va_cons (ve_str) (va_nil)))))) (vss_one (vs_raiseF O_BadText ty_BadText m_BadText z_super I.tk I.hr (va_cons (ve_int) (va_cons (ve_int) (va_nil))))) (vss_nil)) (vss_cons (vs_set (i := 4) wsc_read_formula.nd rfl (by first | exact Or.inl rfl | exact Or.inr rfl) (v_calC C_formula_made I.hr I.gd I.tk (va_cons (ve_var 3 (pv 3)) (va_nil)))) (vss_cons (vs_expr (v_calC C_check_formula I.hr I.gd I.tk (va_cons (ve_var 4 (pv 4)) (va_nil)))) (vss_one (vs_ret (ve_var 4 (pv 4))))))))))
/-! _law_is_integer -/
abbrev ws__law_is_integer : Stmt := topS 53
abbrev wN__law_is_integer : List Str := ["_law_actual"]
theorem wsc__law_is_integer : FnScope wN__law_is_integer ["_law_actual"] (defScope ws__law_is_integer) := ⟨rfl, rfl, rfl, by decide +kernel, rfl, by decide +kernel, by decide +kernel⟩
theorem wd__law_is_integer {P : Program} {w : World} {K : Fg} {mg : Str → Option Value} {base : Heap} (Fn : Df K mg "_law_is_integer" ws__law_is_integer ["_law_actual"]) (z_isinstance : mg "isinstance" = none) (z_bool : mg "bool" = none) (z_int : mg "int" = none) : Cl P w K mg base 1 "_law_is_integer" ["_law_actual"] m__law_is_whole :=
  cl_ok Fn wsc__law_is_integer fun f cdv A outer s H E I => by
    unfold c__law_is_whole
    exact (vss_one (vs_ret (v_and (v_isi rfl z_isinstance b_isinstance (vp_var 0 (pv 0)) (pe_bltn rfl z_int b_int rfl)) (v_and1 (v_not (VE.vp (v_isi rfl z_isinstance b_isinstance (vp_var 0 (pv 0)) (pe_bltn rfl z_bool b_bool rfl))))))))
theorem wdH__law_is_integer {P : Program} {w : World} {K : Fg} {mg : Str → Option Value} {base : Heap} (Fn : Df K mg "_law_is_integer" ws__law_is_integer ["_law_actual"]) (z_isinstance : mg "isinstance" = none) (z_bool : mg "bool" = none) (z_int : mg "int" = none) : ClH P w K mg base 1 "_law_is_integer" ["_law_actual"] m__law_is_whole :=
  clH_ok Fn wsc__law_is_integer fun f cdv A outer s H E p => by
    unfold c__law_is_whole
    exact (vss_one (vs_ret (v_and (v_isi rfl z_isinstance b_isinstance (vp_var 0 (pv 0)) (pe_bltn rfl z_int b_int rfl)) (v_and1 (v_not (VE.vp (v_isi rfl z_isinstance b_isinstance (vp_var 0 (pv 0)) (pe_bltn rfl z_bool b_bool rfl))))))))
/-! law -/
abbrev ws_law : Stmt := topS 55
abbrev wN_law : List Str := ["_law_script", "_law_draws_here", "_law_choices", "_law_words_here", "_law_place", "_law_deed", "_law_line", "_law_column_here", "_law_end", "e"]
theorem wsc_law : FnScope wN_law ["_law_script"] (defScope ws_law) := ⟨rfl, rfl, rfl, by decide +kernel, rfl, by decide +kernel, by decide +kernel⟩
theorem wd_law {P : Program} {w : World} {K : Fg} {mg : Str → Option Value} {base : Heap} {f : Addr} {fd : FuncData} (Fn : Fun K "law" "law" ws_law f fd) (C__law_draws : Cl P w K mg base 1 "_law_draws" ["_law_script", "_law_count"] m__law_draws) (C__law_words : Cl P w K mg base 14 "_law_words" ["_law_formula_here"] (m__law_words_k12 12)) (C__law_formula : ClC P w K mg base 16 "_law_formula" ["_law_draws_here", "_law_left", "_law_depth"] (m__law_formula_k10 12)) (C__law_column : Cl P w K mg base 1 "_law_column" ["_law_words_here", "_law_place"] m__law_column) (C_read_formula : Cl P w K mg base 19 "read_formula" ["text"] m_read_formula) (C__law_is_integer : Cl P w K mg base 1 "_law_is_integer" ["_law_actual"] m__law_is_whole) (CH__law_is_integer : ClH P w K mg base 1 "_law_is_integer" ["_law_actual"] m__law_is_whole) {a_BadText : Addr} (m_BadText : mg "BadText" = some (.ref a_BadText)) {a_BadSize : Addr} (m_BadSize : mg "BadSize" = some (.ref a_BadSize)) {a_WhereError : Addr} (m_WhereError : mg "WhereError" = some (.ref a_WhereError)) (O_BadText : ExO P K "BadText" ["line", "column"] a_BadText) (EX_BadText : PySem.W.exmOne K (.ref a_BadText) (.ref a_BadText) = some true) (KTF_BadText_BadSize : PySem.W.kitOne K (.ref a_BadText) (.ref a_BadSize) = some false) (KTF_BadText_ValueError : PySem.W.kitOne K (.ref a_BadText) (.type "ValueError") = some true) (KTF_BadText_WhereError : PySem.W.kitOne K (.ref a_BadText) (.ref a_WhereError) = some true) (z_int : mg "int" = none) (z_len : mg "len" = none) (z_isinstance : mg "isinstance" = none) (z_ValueError : mg "ValueError" = none) : DOk P w K mg base 20 f fd ["_law_script"] m_law :=
  def_ok Fn wsc_law fun cdv A outer s H E I => by
    unfold c_law b_law_3 b_law_2 b_law_1
    exact (vss_cons (vs_set (i := 1) wsc_law.nd rfl (by first | exact Or.inl rfl | exact Or.inr rfl) (v_calC C__law_draws I.hr I.gd I.tk (va_cons (ve_var 0 (pv 0)) (va_cons (ve_int) (va_nil))))) (vss_cons (vs_set (i := 2) wsc_law.nd rfl (by first | exact Or.inl rfl | exact Or.inr rfl) (v_slice (vp_var 1 (pv 1)) (vpo_some (ve_int)) (vpo_none))) (vss_cons (vs_setO (i := 3) wsc_law.nd rfl (by first | exact Or.inl rfl | exact Or.inr rfl) (v_calCO C__law_words I.hr I.gd I.tk (va_cons (v_callCT C__law_formula I.hr I.gd I.tk (v_sliceO (vp_var 1 (pv 1)) (vpo_none) (vpo_some (ve_int))) (vo_lst (va_cons (ve_int) (va_cons (ve_int) (va_nil)))) (va_cons (ve_int) (va_nil))) (va_nil)))) (vss_cons (vs_set (i := 4) wsc_law.nd rfl (by first | exact Or.inl rfl | exact Or.inr rfl) (v_op d_mod (VE.vp (v_typ c_int rfl z_int b_int (vap_cons (VE.vp (v_ix d_ix (vp_var 2 (pv 2)) (VE.vp (ve_int)))) (vap_nil)))) (VE.vp (v_blt c_len rfl z_len b_len (vap_cons (vp_var 3 (pv 3)) (vap_nil)))))) (vss_cons (vs_set (i := 5) wsc_law.nd rfl (by first | exact Or.inl rfl | exact Or.inr rfl) (v_op d_mod (VE.vp (v_typ c_int rfl z_int b_int (vap_cons (VE.vp (v_ix d_ix (vp_var 2 (pv 2)) (VE.vp (ve_int)))) (vap_nil)))) (VE.vp (ve_int)))) (vss_cons (vs_par3 (i := 6) (j := 7) (l := 8) rfl wsc_law.nd rfl rfl rfl (by decide) (by decide) (by decide) rfl rfl rfl (va_cons (ve_int) (va_cons (v_thaw 3 (v_calC C__law_column I.hr I.gd I.tk (va_cons (ve_var 3 (pv 3)) (va_cons (ve_var 4 (pv 4)) (va_nil))))) (va_cons (ve_str) (va_nil)))) (by rfl)) (vss_cons (vs_if (VW.vt (vw_and (t_cmp d_lt (vp_var 5 (pv 5)) (VE.vp (ve_int))) (vw_and1 (t_cmp (d_eq I.hr.units) (VE.vp (v_op d_mod (VE.vp (v_typ c_int rfl z_int b_int (vap_cons (VE.vp (v_ix d_ix (vp_var 2 (pv 2)) (VE.vp (ve_int)))) (vap_nil)))) (VE.vp (ve_int)))) (VE.vp (ve_int)))))) (vss_one (vs_setO (i := 3) wsc_law.nd rfl (by first | exact Or.inl rfl | exact Or.inr rfl) (v_opO d_addO (vp_var 3 (pv 3)) (VE.vp (VO.ve (vo_lst (va_cons (ve_str) (va_cons (ve_str) (va_nil))))))))) (vss_nil)) (vss_cons (vs_if (t_cmp d_lt (vp_var 5 (pv 5)) (VE.vp (ve_int))) (vss_one (vs_store 3 (pv 3) (ve_var 4 (pv 4)) (v_ix d_ix (VE.vp (VO.ve (vo_lst (va_cons (ve_str) (va_cons (ve_str) (va_cons (ve_str) (va_cons (ve_str) (va_cons (ve_str) (va_cons (ve_str) (va_cons (ve_str) (va_nil))))))))))) (VE.vp (v_op d_mod (VE.vp (v_typ c_int rfl z_int b_int (vap_cons (VE.vp (v_ix d_ix (vp_var 2 (pv 2)) (VE.vp (ve_int)))) (vap_nil)))) (VE.vp (ve_int))))))) (vss_one (vs_if (VW.vt (vw_and (t_cmp (d_eq I.hr.units) (vp_var 5 (pv 5)) (VE.vp (ve_int))) (vw_and1 (t_cmp d_gt (vp_var 4 (pv 4)) (VE.vp (ve_int)))))) (vss_cons (vs_setO (i := 3) wsc_law.nd rfl (by first | exact Or.inl rfl | exact Or.inr rfl) (v_sliceO (vp_var 3 (pv 3)) (vpo_none) (vpo_some (ve_var 4 (pv 4))))) (vss_one (vs_set (i := 7) wsc_law.nd rfl (by first | exact Or.inl rfl | exact Or.inr rfl) (v_op d_add (VE.vp (v_blt c_len rfl z_len b_len (vap_cons (VE.vp (v_join (VE.vp (ve_str)) (vp_var 3 (pv 3)))) (vap_nil)))) (VE.vp (ve_int)))))) (vss_one (vs_if (t_cmp (d_eq I.hr.units) (vp_var 5 (pv 5)) (VE.vp (ve_int))) (vss_cons (vs_set (i := 7) wsc_law.nd rfl (by first | exact Or.inl rfl | exact Or.inr rfl) (v_op d_add (VE.vp (v_blt c_len rfl z_len b_len (vap_cons (VE.vp (v_join (VE.vp (ve_str)) (vp_var 3 (pv 3)))) (vap_nil)))) (VE.vp (ve_int)))) (vss_one (vs_app 3 (pv 3) (v_ix d_ix (VE.vp (VO.ve (vo_lst (va_cons (ve_str) (va_cons (ve_str) (va_cons (ve_str) (va_cons (ve_str) (va_nil)))))))) (VE.vp (v_op d_mod (VE.vp (v_typ c_int rfl z_int b_int (vap_cons (VE.vp (v_ix d_ix (vp_var 2 (pv 2)) (VE.vp (ve_int)))) (vap_nil)))) (VE.vp (ve_int)))))))) (vss_one (vs_if (t_cmp (d_eq I.hr.units) (vp_var 5 (pv 5)) (VE.vp (ve_int))) (vss_one (vs_par (i := 7) (j := 3) rfl wsc_law.nd rfl rfl (by decide) rfl rfl (va_cons (ve_int) (va_cons (v_op d_add (VE.vp (VO.ve (vo_lst (va_cons (v_op d_add (VE.vp (ve_str)) (VE.vp (v_ix d_ix (vp_var 3 (pv 3)) (VE.vp (ve_int))))) (va_nil))))) (VE.vp (v_slice (vp_var 3 (pv 3)) (vpo_some (ve_int)) (vpo_none)))) (va_nil))) (by rfl))) (vss_one (vs_if (t_cmp (d_eq I.hr.units) (vp_var 5 (pv 5)) (VE.vp (ve_int))) (vss_one (vs_par3 (i := 6) (j := 7) (l := 8) rfl wsc_law.nd rfl rfl rfl (by decide) (by decide) (by decide) rfl rfl rfl (va_cons (ve_int) (va_cons (ve_int) (va_cons (v_ix d_ix (VE.vp (VO.ve (vo_lst (va_cons (ve_str) (va_cons (ve_str) (va_cons (ve_str) (va_nil))))))) (VE.vp (v_op d_mod (VE.vp (v_typ c_int rfl z_int b_int (vap_cons (VE.vp (v_ix d_ix (vp_var 2 (pv 2)) (VE.vp (ve_int)))) (vap_nil)))) (VE.vp (ve_int))))) (va_nil)))) (by rfl))) (vss_one (vs_if (t_cmp (d_eq I.hr.units) (vp_var 5 (pv 5)) (VE.vp (ve_int))) (vss_one (vs_par3 (i := 7) (j := 3) (l := 8) rfl wsc_law.nd rfl rfl rfl (by decide) (by decide) (by decide) rfl rfl rfl (va_cons (ve_int) (va_cons (VO.ve (vo_lst (va_nil))) (va_cons (ve_str) (va_nil)))) (by rfl))) (vss_one (vs_par (i := 7) (j := 8) rfl wsc_law.nd rfl rfl (by decide) rfl rfl (va_cons (v_op d_add (VE.vp (v_blt c_len rfl z_len b_len (vap_cons (VE.vp (v_join (VE.vp (ve_str)) (vp_var 3 (pv 3)))) (vap_nil)))) (VE.vp (ve_int))) (va_cons (ve_str) (va_nil))) (by rfl)))))))))))))) (vss_cons (vs_tryF (i := 9) (Sx := fun a dd => sSeq (sIf (eOr (eNot (e1 truD (eIsF "BadText" a dd true (eOwn 9)))) (eOr (eNot (e1 truD (eIsF "BadText" a dd true (eOwn 9)))) (e1 truD (eIsF "BadText" a dd false (eOwn 9))))) (sRet (cst (.bool false))) (sNil)) (sSeq (sIf (eOr (eNot (e1 truD (eCall m__law_is_whole (eCons (eXf "BadText" "line" a dd (eOwn 9)) (cst []))))) (eNot (e1 truD (eCall m__law_is_whole (eCons (eXf "BadText" "column" a dd (eOwn 9)) (cst [])))))) (sRet (cst (.bool false))) (sNil)) (sRet (eAndV (e2 eqD (eXf "BadText" "line" a dd (eOwn 9)) (eOwn 6)) (e2 eqD (eXf "BadText" "column" a dd (eOwn 9)) (eOwn 7)))))) rfl rfl wsc_law.nd rfl rfl ⟨rfl, by decide, Or.inl m_BadText⟩ I.tk ⟨m_BadText, EX_BadText⟩ (fun W1 pn1 xe1 tk1 hp1 => have I := Inn.tr I tk1 hp1; vss_one (vs_expr (v_calC C_read_formula I.hr I.gd I.tk (va_cons (v_op d_add (VE.vp (v_join (VE.vp (ve_str)) (vp_var 3 (pv 3)))) (vp_var 8 (pv 8))) (va_nil))))) (fun a dd oe pn hz hf => have I := Inn.suite I a oe pn; vss_cons (vs_if (VW.vt (vw_or (vt_not (t_tru (VE.vp (v_isEF (cV := .ref a_WhereError) (cv := .ref a_WhereError) O_BadText.exc hz hf rfl z_isinstance b_isinstance (vp_var 9 (pv 9)) (pe_glob rfl m_WhereError rfl) (fun _ h => h) KTF_BadText_WhereError)))) (vw_or (vt_not (t_tru (VE.vp (v_isEF (cV := .ty "ValueError") (cv := .type "ValueError") O_BadText.exc hz hf rfl z_isinstance b_isinstance (vp_var 9 (pv 9)) (pe_bltn rfl z_ValueError b_ValueError rfl) (fun _ h => h) KTF_BadText_ValueError)))) (vw_or1 (t_tru (VE.vp (v_isEF (cV := .ref a_BadSize) (cv := .ref a_BadSize) O_BadText.exc hz hf rfl z_isinstance b_isinstance (vp_var 9 (pv 9)) (pe_glob rfl m_BadSize rfl) (fun _ h => h) KTF_BadText_BadSize))))))) (vss_one (vs_ret (ve_bl))) (vss_nil)) (vss_cons (vs_if (VW.vt (vw_or (vt_not (t_tru (VE.vp (v_calCH CH__law_is_integer I.hr (hot_suite hz hf) takesN (va_cons (v_xf O_BadText hz hf (vp_var 9 (pv 9))) (va_nil)))))) (vw_or1 (vt_not (t_tru (VE.vp (v_calCH CH__law_is_integer I.hr (hot_suite hz hf) takesN (va_cons (v_xf O_BadText hz hf (vp_var 9 (pv 9))) (va_nil))))))))) (vss_one (vs_ret (ve_bl))) (vss_nil)) (vss_one (vs_ret (v_and (v_cmp (d_eq (unitsH I.hr)) (VE.vp (v_xf O_BadText hz hf (vp_var 9 (pv 9)))) (vp_var 6 (pv 6))) (v_and1 (v_cmp (d_eq (unitsH I.hr)) (VE.vp (v_xf O_BadText hz hf (vp_var 9 (pv 9)))) (vp_var 7 (pv 7)))))))))) (vss_one (vs_ret (ve_bl))))))))))))
/-! the end -/
theorem all_mk {P q : Program} {w : World} {K : Fg} {h : Heap} {mg : Str → Option Value} {fa : Addr} (X : K.In h) (G : h.Ns mainGlobals mg) (hfa : mg "law" = some (.ref fa))
    {f0 : Addr} {od0 an0 : Option Addr} {sl0 : Array (Option Value)} {oc0 kV0 dc0 pm0 cd0 ct0 : Value}
    (a0 : PySem.W.nsIn K mainGlobals "_law_draws" = some (some (.ref f0))) (l0 : K.lookup f0 = some ⟨oc0, od0, .func (PySem.W.fnOf "_law_draws" "_law_draws" (defArgs ws__law_draws) (defBody ws__law_draws) (defScope ws__law_draws) .none kV0 dc0 pm0 an0 cd0 ct0), sl0⟩) (c0 : PySem.W.codeIn K cd0 "_law_draws" = true) (k0 : PySem.W.keepIn K (.ref f0) = true)
    {f1 : Addr} {od1 an1 : Option Addr} {sl1 : Array (Option Value)} {oc1 kV1 dc1 pm1 cd1 ct1 : Value}
    (a1 : PySem.W.nsIn K mainGlobals "_law_poly_text" = some (some (.ref f1))) (l1 : K.lookup f1 = some ⟨oc1, od1, .func (PySem.W.fnOf "_law_poly_text" "_law_poly_text" (defArgs ws__law_poly_text) (defBody ws__law_poly_text) (defScope ws__law_poly_text) .none kV1 dc1 pm1 an1 cd1 ct1), sl1⟩) (c1 : PySem.W.codeIn K cd1 "_law_poly_text" = true) (k1 : PySem.W.keepIn K (.ref f1) = true)
    {f2 : Addr} {od2 an2 : Option Addr} {sl2 : Array (Option Value)} {oc2 kV2 dc2 pm2 cd2 ct2 : Value}
    (a2 : PySem.W.nsIn K mainGlobals "_law_words" = some (some (.ref f2))) (l2 : K.lookup f2 = some ⟨oc2, od2, .func (PySem.W.fnOf "_law_words" "_law_words" (defArgs ws__law_words) (defBody ws__law_words) (defScope ws__law_words) .none kV2 dc2 pm2 an2 cd2 ct2), sl2⟩) (c2 : PySem.W.codeIn K cd2 "_law_words" = true) (k2 : PySem.W.keepIn K (.ref f2) = true)
    {f3 : Addr} {od3 an3 : Option Addr} {sl3 : Array (Option Value)} {oc3 kV3 dc3 pm3 cd3 ct3 : Value}
    (a3 : PySem.W.nsIn K mainGlobals "_law_take" = some (some (.ref f3))) (l3 : K.lookup f3 = some ⟨oc3, od3, .func (PySem.W.fnOf "_law_take" "_law_take" (defArgs ws__law_take) (defBody ws__law_take) (defScope ws__law_take) .none kV3 dc3 pm3 an3 cd3 ct3), sl3⟩) (c3 : PySem.W.codeIn K cd3 "_law_take" = true) (k3 : PySem.W.keepIn K (.ref f3) = true)
    {f4 : Addr} {od4 an4 : Option Addr} {sl4 : Array (Option Value)} {oc4 kV4 dc4 pm4 cd4 ct4 : Value}
    (a4 : PySem.W.nsIn K mainGlobals "_law_poly" = some (some (.ref f4))) (l4 : K.lookup f4 = some ⟨oc4, od4, .func (PySem.W.fnOf "_law_poly" "_law_poly" (defArgs ws__law_poly) (defBody ws__law_poly) (defScope ws__law_poly) .none kV4 dc4 pm4 an4 cd4 ct4), sl4⟩) (c4 : PySem.W.codeIn K cd4 "_law_poly" = true) (k4 : PySem.W.keepIn K (.ref f4) = true)
    {f5 : Addr} {od5 an5 : Option Addr} {sl5 : Array (Option Value)} {oc5 kV5 dc5 pm5 cd5 ct5 : Value}
    (a5 : PySem.W.nsIn K mainGlobals "_law_sign_atom" = some (some (.ref f5))) (l5 : K.lookup f5 = some ⟨oc5, od5, .func (PySem.W.fnOf "_law_sign_atom" "_law_sign_atom" (defArgs ws__law_sign_atom) (defBody ws__law_sign_atom) (defScope ws__law_sign_atom) .none kV5 dc5 pm5 an5 cd5 ct5), sl5⟩) (c5 : PySem.W.codeIn K cd5 "_law_sign_atom" = true) (k5 : PySem.W.keepIn K (.ref f5) = true)
    {f6 : Addr} {od6 an6 : Option Addr} {sl6 : Array (Option Value)} {oc6 kV6 dc6 pm6 cd6 ct6 : Value}
    (a6 : PySem.W.nsIn K mainGlobals "_law_block" = some (some (.ref f6))) (l6 : K.lookup f6 = some ⟨oc6, od6, .func (PySem.W.fnOf "_law_block" "_law_block" (defArgs ws__law_block) (defBody ws__law_block) (defScope ws__law_block) .none kV6 dc6 pm6 an6 cd6 ct6), sl6⟩) (c6 : PySem.W.codeIn K cd6 "_law_block" = true) (k6 : PySem.W.keepIn K (.ref f6) = true)
    {f7 : Addr} {od7 an7 : Option Addr} {sl7 : Array (Option Value)} {oc7 kV7 dc7 pm7 cd7 ct7 : Value}
    (a7 : PySem.W.nsIn K mainGlobals "_law_formula" = some (some (.ref f7))) (l7 : K.lookup f7 = some ⟨oc7, od7, .func (PySem.W.fnOf "_law_formula" "_law_formula" (defArgs ws__law_formula) (defBody ws__law_formula) (defScope ws__law_formula) .none kV7 dc7 pm7 an7 cd7 ct7), sl7⟩) (c7 : PySem.W.codeIn K cd7 "_law_formula" = true) (k7 : PySem.W.keepIn K (.ref f7) = true)
    {f8 : Addr} {od8 an8 : Option Addr} {sl8 : Array (Option Value)} {oc8 kV8 dc8 pm8 cd8 ct8 : Value}
    (a8 : PySem.W.nsIn K mainGlobals "_law_column" = some (some (.ref f8))) (l8 : K.lookup f8 = some ⟨oc8, od8, .func (PySem.W.fnOf "_law_column" "_law_column" (defArgs ws__law_column) (defBody ws__law_column) (defScope ws__law_column) .none kV8 dc8 pm8 an8 cd8 ct8), sl8⟩) (c8 : PySem.W.codeIn K cd8 "_law_column" = true) (k8 : PySem.W.keepIn K (.ref f8) = true)
    {f9 : Addr} {od9 an9 : Option Addr} {sl9 : Array (Option Value)} {oc9 kV9 dc9 pm9 cd9 ct9 : Value}
    (a9 : PySem.W.nsIn K mainGlobals "words_of" = some (some (.ref f9))) (l9 : K.lookup f9 = some ⟨oc9, od9, .func (PySem.W.fnOf "words_of" "words_of" (defArgs ws_words_of) (defBody ws_words_of) (defScope ws_words_of) .none kV9 dc9 pm9 an9 cd9 ct9), sl9⟩) (c9 : PySem.W.codeIn K cd9 "words_of" = true) (k9 : PySem.W.keepIn K (.ref f9) = true)
    {cT10 PT10 : Addr} {oT10 : Option Addr} {vT10 : Array Value} {sT10 : Array (Option Value)}
    {f10 : Addr} {od10 an10 : Option Addr} {sl10 : Array (Option Value)} {oc10 kV10 dc10 pm10 ct10 : Value}
    (a10 : PySem.W.nsIn K mainGlobals "read_whole" = some (some (.ref f10))) (l10 : K.lookup f10 = some ⟨oc10, od10, .func (PySem.W.fnOf "read_whole" "read_whole" (defArgs ws_read_whole) (defBody ws_read_whole) (defScope ws_read_whole) .none kV10 dc10 pm10 an10 (.ref cT10) ct10), sl10⟩) (c10 : PySem.W.codeIn K (.ref cT10) "read_whole" = true) (k10 : PySem.W.keepIn K (.ref f10) = true)
    (lT10 : K.lookup cT10 = some ⟨.type "code", oT10, .fields vT10, sT10⟩) (hT10 : vT10[11]? = some (.ref PT10)) (gT10 : PySem.W.codeHdIn K cT10 PT10 = true) (nT10 : K.lookup PT10 = none) (rT10 : ((recsOf q).any fun e => e.name == ("read_whole" : Str)) = true)
    {f11 : Addr} {od11 an11 : Option Addr} {sl11 : Array (Option Value)} {oc11 kV11 dc11 pm11 cd11 ct11 : Value}
    (a11 : PySem.W.nsIn K mainGlobals "read_polynomial" = some (some (.ref f11))) (l11 : K.lookup f11 = some ⟨oc11, od11, .func (PySem.W.fnOf "read_polynomial" "read_polynomial" (defArgs ws_read_polynomial) (defBody ws_read_polynomial) (defScope ws_read_polynomial) .none kV11 dc11 pm11 an11 cd11 ct11), sl11⟩) (c11 : PySem.W.codeIn K cd11 "read_polynomial" = true) (k11 : PySem.W.keepIn K (.ref f11) = true)
    {f12 : Addr} {od12 an12 : Option Addr} {sl12 : Array (Option Value)} {oc12 kV12 dc12 pm12 cd12 ct12 : Value}
    (a12 : PySem.W.nsIn K mainGlobals "count_in" = some (some (.ref f12))) (l12 : K.lookup f12 = some ⟨oc12, od12, .func (PySem.W.fnOf "count_in" "count_in" (defArgs ws_count_in) (defBody ws_count_in) (defScope ws_count_in) .none kV12 dc12 pm12 an12 cd12 ct12), sl12⟩) (c12 : PySem.W.codeIn K cd12 "count_in" = true) (k12 : PySem.W.keepIn K (.ref f12) = true)
    {f13 : Addr} {od13 an13 : Option Addr} {sl13 : Array (Option Value)} {oc13 kV13 dc13 pm13 cd13 ct13 : Value}
    (a13 : PySem.W.nsIn K mainGlobals "value_of" = some (some (.ref f13))) (l13 : K.lookup f13 = some ⟨oc13, od13, .func (PySem.W.fnOf "value_of" "value_of" (defArgs ws_value_of) (defBody ws_value_of) (defScope ws_value_of) .none kV13 dc13 pm13 an13 cd13 ct13), sl13⟩) (c13 : PySem.W.codeIn K cd13 "value_of" = true) (k13 : PySem.W.keepIn K (.ref f13) = true)
    {f14 : Addr} {od14 an14 : Option Addr} {sl14 : Array (Option Value)} {oc14 kV14 dc14 pm14 cd14 ct14 : Value}
    (a14 : PySem.W.nsIn K mainGlobals "behind" = some (some (.ref f14))) (l14 : K.lookup f14 = some ⟨oc14, od14, .func (PySem.W.fnOf "behind" "behind" (defArgs ws_behind) (defBody ws_behind) (defScope ws_behind) .none kV14 dc14 pm14 an14 cd14 ct14), sl14⟩) (c14 : PySem.W.codeIn K cd14 "behind" = true) (k14 : PySem.W.keepIn K (.ref f14) = true)
    {f15 : Addr} {od15 an15 : Option Addr} {sl15 : Array (Option Value)} {oc15 kV15 dc15 pm15 cd15 ct15 : Value}
    (a15 : PySem.W.nsIn K mainGlobals "read_line" = some (some (.ref f15))) (l15 : K.lookup f15 = some ⟨oc15, od15, .func (PySem.W.fnOf "read_line" "read_line" (defArgs ws_read_line) (defBody ws_read_line) (defScope ws_read_line) .none kV15 dc15 pm15 an15 cd15 ct15), sl15⟩) (c15 : PySem.W.codeIn K cd15 "read_line" = true) (k15 : PySem.W.keepIn K (.ref f15) = true)
    {f16 : Addr} {od16 an16 : Option Addr} {sl16 : Array (Option Value)} {oc16 kV16 dc16 pm16 cd16 ct16 : Value}
    (a16 : PySem.W.nsIn K mainGlobals "rows_made" = some (some (.ref f16))) (l16 : K.lookup f16 = some ⟨oc16, od16, .func (PySem.W.fnOf "rows_made" "rows_made" (defArgs ws_rows_made) (defBody ws_rows_made) (defScope ws_rows_made) .none kV16 dc16 pm16 an16 cd16 ct16), sl16⟩) (c16 : PySem.W.codeIn K cd16 "rows_made" = true) (k16 : PySem.W.keepIn K (.ref f16) = true)
    {f17 : Addr} {od17 an17 : Option Addr} {sl17 : Array (Option Value)} {oc17 kV17 dc17 pm17 cd17 ct17 : Value}
    (a17 : PySem.W.nsIn K mainGlobals "formula_made" = some (some (.ref f17))) (l17 : K.lookup f17 = some ⟨oc17, od17, .func (PySem.W.fnOf "formula_made" "formula_made" (defArgs ws_formula_made) (defBody ws_formula_made) (defScope ws_formula_made) .none kV17 dc17 pm17 an17 cd17 ct17), sl17⟩) (c17 : PySem.W.codeIn K cd17 "formula_made" = true) (k17 : PySem.W.keepIn K (.ref f17) = true)
    {f18 : Addr} {od18 an18 : Option Addr} {sl18 : Array (Option Value)} {oc18 kV18 dc18 pm18 cd18 ct18 : Value}
    (a18 : PySem.W.nsIn K mainGlobals "is_whole" = some (some (.ref f18))) (l18 : K.lookup f18 = some ⟨oc18, od18, .func (PySem.W.fnOf "is_whole" "is_whole" (defArgs ws_is_whole) (defBody ws_is_whole) (defScope ws_is_whole) .none kV18 dc18 pm18 an18 cd18 ct18), sl18⟩) (c18 : PySem.W.codeIn K cd18 "is_whole" = true) (k18 : PySem.W.keepIn K (.ref f18) = true)
    {f19 : Addr} {od19 an19 : Option Addr} {sl19 : Array (Option Value)} {oc19 kV19 dc19 pm19 cd19 ct19 : Value}
    (a19 : PySem.W.nsIn K mainGlobals "check_polynomial" = some (some (.ref f19))) (l19 : K.lookup f19 = some ⟨oc19, od19, .func (PySem.W.fnOf "check_polynomial" "check_polynomial" (defArgs ws_check_polynomial) (defBody ws_check_polynomial) (defScope ws_check_polynomial) .none kV19 dc19 pm19 an19 cd19 ct19), sl19⟩) (c19 : PySem.W.codeIn K cd19 "check_polynomial" = true) (k19 : PySem.W.keepIn K (.ref f19) = true)
    {f20 : Addr} {od20 an20 : Option Addr} {sl20 : Array (Option Value)} {oc20 kV20 dc20 pm20 cd20 ct20 : Value}
    (a20 : PySem.W.nsIn K mainGlobals "check_row" = some (some (.ref f20))) (l20 : K.lookup f20 = some ⟨oc20, od20, .func (PySem.W.fnOf "check_row" "check_row" (defArgs ws_check_row) (defBody ws_check_row) (defScope ws_check_row) .none kV20 dc20 pm20 an20 cd20 ct20), sl20⟩) (c20 : PySem.W.codeIn K cd20 "check_row" = true) (k20 : PySem.W.keepIn K (.ref f20) = true)
    {f21 : Addr} {od21 an21 : Option Addr} {sl21 : Array (Option Value)} {oc21 kV21 dc21 pm21 cd21 ct21 : Value}
    (a21 : PySem.W.nsIn K mainGlobals "check_block" = some (some (.ref f21))) (l21 : K.lookup f21 = some ⟨oc21, od21, .func (PySem.W.fnOf "check_block" "check_block" (defArgs ws_check_block) (defBody ws_check_block) (defScope ws_check_block) .none kV21 dc21 pm21 an21 cd21 ct21), sl21⟩) (c21 : PySem.W.codeIn K cd21 "check_block" = true) (k21 : PySem.W.keepIn K (.ref f21) = true)
    {f22 : Addr} {od22 an22 : Option Addr} {sl22 : Array (Option Value)} {oc22 dc22 pm22 cd22 ct22 : Value}
    {kD22 : Addr}
    (a22 : PySem.W.nsIn K mainGlobals "check_part" = some (some (.ref f22))) (l22 : K.lookup f22 = some ⟨oc22, od22, .func (PySem.W.fnOf "check_part" "check_part" (defArgs ws_check_part) (defBody ws_check_part) (defScope ws_check_part) .none (.ref kD22) dc22 pm22 an22 cd22 ct22), sl22⟩) (c22 : PySem.W.codeIn K cd22 "check_part" = true) (k22 : PySem.W.keepIn K (.ref f22) = true)
    (kd22 : PySem.W.nsIn K kD22 "has_uses" = some (some (.bool false)))
    {f23 : Addr} {od23 an23 : Option Addr} {sl23 : Array (Option Value)} {oc23 kV23 dc23 pm23 cd23 ct23 : Value}
    (a23 : PySem.W.nsIn K mainGlobals "is_atom" = some (some (.ref f23))) (l23 : K.lookup f23 = some ⟨oc23, od23, .func (PySem.W.fnOf "is_atom" "is_atom" (defArgs ws_is_atom) (defBody ws_is_atom) (defScope ws_is_atom) .none kV23 dc23 pm23 an23 cd23 ct23), sl23⟩) (c23 : PySem.W.codeIn K cd23 "is_atom" = true) (k23 : PySem.W.keepIn K (.ref f23) = true)
    {f24 : Addr} {od24 an24 : Option Addr} {sl24 : Array (Option Value)} {oc24 kV24 dc24 pm24 cd24 ct24 : Value}
    (a24 : PySem.W.nsIn K mainGlobals "depth_of" = some (some (.ref f24))) (l24 : K.lookup f24 = some ⟨oc24, od24, .func (PySem.W.fnOf "depth_of" "depth_of" (defArgs ws_depth_of) (defBody ws_depth_of) (defScope ws_depth_of) .none kV24 dc24 pm24 an24 cd24 ct24), sl24⟩) (c24 : PySem.W.codeIn K cd24 "depth_of" = true) (k24 : PySem.W.keepIn K (.ref f24) = true)
    {f25 : Addr} {od25 an25 : Option Addr} {sl25 : Array (Option Value)} {oc25 kV25 dc25 pm25 cd25 ct25 : Value}
    (a25 : PySem.W.nsIn K mainGlobals "copy_of" = some (some (.ref f25))) (l25 : K.lookup f25 = some ⟨oc25, od25, .func (PySem.W.fnOf "copy_of" "copy_of" (defArgs ws_copy_of) (defBody ws_copy_of) (defScope ws_copy_of) .none kV25 dc25 pm25 an25 cd25 ct25), sl25⟩) (c25 : PySem.W.codeIn K cd25 "copy_of" = true) (k25 : PySem.W.keepIn K (.ref f25) = true)
    {f26 : Addr} {od26 an26 : Option Addr} {sl26 : Array (Option Value)} {oc26 kV26 dc26 pm26 cd26 ct26 : Value}
    (a26 : PySem.W.nsIn K mainGlobals "atoms_of" = some (some (.ref f26))) (l26 : K.lookup f26 = some ⟨oc26, od26, .func (PySem.W.fnOf "atoms_of" "atoms_of" (defArgs ws_atoms_of) (defBody ws_atoms_of) (defScope ws_atoms_of) .none kV26 dc26 pm26 an26 cd26 ct26), sl26⟩) (c26 : PySem.W.codeIn K cd26 "atoms_of" = true) (k26 : PySem.W.keepIn K (.ref f26) = true)
    {f27 : Addr} {od27 an27 : Option Addr} {sl27 : Array (Option Value)} {oc27 kV27 dc27 pm27 cd27 ct27 : Value}
    (a27 : PySem.W.nsIn K mainGlobals "size_of" = some (some (.ref f27))) (l27 : K.lookup f27 = some ⟨oc27, od27, .func (PySem.W.fnOf "size_of" "size_of" (defArgs ws_size_of) (defBody ws_size_of) (defScope ws_size_of) .none kV27 dc27 pm27 an27 cd27 ct27), sl27⟩) (c27 : PySem.W.codeIn K cd27 "size_of" = true) (k27 : PySem.W.keepIn K (.ref f27) = true)
    {f28 : Addr} {od28 an28 : Option Addr} {sl28 : Array (Option Value)} {oc28 kV28 dc28 pm28 cd28 ct28 : Value}
    (a28 : PySem.W.nsIn K mainGlobals "check_formula" = some (some (.ref f28))) (l28 : K.lookup f28 = some ⟨oc28, od28, .func (PySem.W.fnOf "check_formula" "check_formula" (defArgs ws_check_formula) (defBody ws_check_formula) (defScope ws_check_formula) .none kV28 dc28 pm28 an28 cd28 ct28), sl28⟩) (c28 : PySem.W.codeIn K cd28 "check_formula" = true) (k28 : PySem.W.keepIn K (.ref f28) = true)
    {f29 : Addr} {od29 an29 : Option Addr} {sl29 : Array (Option Value)} {oc29 kV29 dc29 pm29 cd29 ct29 : Value}
    (a29 : PySem.W.nsIn K mainGlobals "read_formula" = some (some (.ref f29))) (l29 : K.lookup f29 = some ⟨oc29, od29, .func (PySem.W.fnOf "read_formula" "read_formula" (defArgs ws_read_formula) (defBody ws_read_formula) (defScope ws_read_formula) .none kV29 dc29 pm29 an29 cd29 ct29), sl29⟩) (c29 : PySem.W.codeIn K cd29 "read_formula" = true) (k29 : PySem.W.keepIn K (.ref f29) = true)
    {f30 : Addr} {od30 an30 : Option Addr} {sl30 : Array (Option Value)} {oc30 kV30 dc30 pm30 cd30 ct30 : Value}
    (a30 : PySem.W.nsIn K mainGlobals "_law_is_integer" = some (some (.ref f30))) (l30 : K.lookup f30 = some ⟨oc30, od30, .func (PySem.W.fnOf "_law_is_integer" "_law_is_integer" (defArgs ws__law_is_integer) (defBody ws__law_is_integer) (defScope ws__law_is_integer) .none kV30 dc30 pm30 an30 cd30 ct30), sl30⟩) (c30 : PySem.W.codeIn K cd30 "_law_is_integer" = true) (k30 : PySem.W.keepIn K (.ref f30) = true)
    {f31 : Addr} {od31 an31 : Option Addr} {sl31 : Array (Option Value)} {oc31 kV31 dc31 pm31 cd31 ct31 : Value}
    (a31 : PySem.W.nsIn K mainGlobals "law" = some (some (.ref f31))) (l31 : K.lookup f31 = some ⟨oc31, od31, .func (PySem.W.fnOf "law" "law" (defArgs ws_law) (defBody ws_law) (defScope ws_law) .none kV31 dc31 pm31 an31 cd31 ct31), sl31⟩) (c31 : PySem.W.codeIn K cd31 "law" = true) (k31 : PySem.W.keepIn K (.ref f31) = true)
    {a_BadText : Addr} (ac_BadText : PySem.W.nsIn K mainGlobals "BadText" = some (some (.ref a_BadText)))
    {a_BadSize : Addr} (ac_BadSize : PySem.W.nsIn K mainGlobals "BadSize" = some (some (.ref a_BadSize)))
    {a_BadNumber : Addr} (ac_BadNumber : PySem.W.nsIn K mainGlobals "BadNumber" = some (some (.ref a_BadNumber)))
    {a_BadSign : Addr} (ac_BadSign : PySem.W.nsIn K mainGlobals "BadSign" = some (some (.ref a_BadSign)))
    {a_TooDeep : Addr} (ac_TooDeep : PySem.W.nsIn K mainGlobals "TooDeep" = some (some (.ref a_TooDeep)))
    {a_BadForm : Addr} (ac_BadForm : PySem.W.nsIn K mainGlobals "BadForm" = some (some (.ref a_BadForm)))
    {a_WhereError : Addr} (ac_WhereError : PySem.W.nsIn K mainGlobals "WhereError" = some (some (.ref a_WhereError)))
    (O_BadText : ExO P K "BadText" ["line", "column"] a_BadText)
    (ty_BadText : PySem.W.typeIn K (.ref a_BadText) = some (.type "type"))
    (bsf_BadText : PySem.W.subIn K (.ref a_BadText) (.type "BaseException") = some true)
    (bdf_BadText : PySem.W.hasDictIn K a_BadText = true)
    (btf_BadText : PySem.W.typeIn K (.ref a_BadText) = some (.type "type"))
    (suf_BadText : PySem.W.subIn K (.ref a_BadText) (.ref a_BadText) = some true)
    (KTF_BadText_BadSize : PySem.W.kitOne K (.ref a_BadText) (.ref a_BadSize) = some false)
    (KTF_BadText_ValueError : PySem.W.kitOne K (.ref a_BadText) (.type "ValueError") = some true)
    (KTF_BadText_WhereError : PySem.W.kitOne K (.ref a_BadText) (.ref a_WhereError) = some true)
    (S_BadSize : ExK P K a_BadSize)
    (S_BadNumber : ExK P K a_BadNumber)
    (S_BadSign : ExK P K a_BadSign)
    (S_TooDeep : ExK P K a_TooDeep)
    (S_BadForm : ExK P K a_BadForm)
    (zz_range : PySem.W.nsIn K mainGlobals "range" = some none)
    (zz_len : PySem.W.nsIn K mainGlobals "len" = some none)
    (zz_int : PySem.W.nsIn K mainGlobals "int" = some none)
    (zz_str : PySem.W.nsIn K mainGlobals "str" = some none)
    (zz_all : PySem.W.nsIn K mainGlobals "all" = some none)
    (zz_list : PySem.W.nsIn K mainGlobals "list" = some none)
    (zz_super : PySem.W.nsIn K mainGlobals "super" = some none)
    (zz_isinstance : PySem.W.nsIn K mainGlobals "isinstance" = some none)
    (zz_bool : PySem.W.nsIn K mainGlobals "bool" = some none)
    (zz_max : PySem.W.nsIn K mainGlobals "max" = some none)
    (zz_ValueError : PySem.W.nsIn K mainGlobals "ValueError" = some none)
    {t_DIGITS : Tok} (gg_DIGITS : PySem.W.nsIn K mainGlobals "DIGITS" = some (some (.str "0123456789" t_DIGITS)))
    {t_MOST_DIGITS : Tok} (gg_MOST_DIGITS : PySem.W.nsIn K mainGlobals "MOST_DIGITS" = some (some (.int 3 t_MOST_DIGITS)))
    {t_MOST_COEFFICIENTS : Tok} (gg_MOST_COEFFICIENTS : PySem.W.nsIn K mainGlobals "MOST_COEFFICIENTS" = some (some (.int 12 t_MOST_COEFFICIENTS)))
    {t_MOST_ROWS : Tok} (gg_MOST_ROWS : PySem.W.nsIn K mainGlobals "MOST_ROWS" = some (some (.int 5 t_MOST_ROWS)))
    {a_ROW_SIGNS : Addr} {o_ROW_SIGNS : Obj} (gg_ROW_SIGNS : PySem.W.nsIn K mainGlobals "ROW_SIGNS" = some (some (.ref a_ROW_SIGNS))) (gl_ROW_SIGNS : K.lookup a_ROW_SIGNS = some o_ROW_SIGNS) (go_ROW_SIGNS : TupO o_ROW_SIGNS (.tuple [(.str "<"), (.str "<="), (.str "=")]))
    {a_WORDS : Addr} {es_WORDS : Array DictEntry} {n_WORDS : Nat} {b0_WORDS b1_WORDS b2_WORDS b3_WORDS b4_WORDS : Addr} {o0_WORDS o1_WORDS o2_WORDS o3_WORDS o4_WORDS : Obj} (gg_WORDS : PySem.W.nsIn K mainGlobals "WORDS" = some (some (.ref a_WORDS))) (gl_WORDS : K.lookup a_WORDS = some ⟨.type "dict", none, .dict es_WORDS n_WORDS, #[]⟩) (gk_WORDS : PySem.W.KeysLit w.params es_WORDS.toList) (gi0_WORDS : PySem.W.nsIn K a_WORDS "sign" = some (some (.ref b0_WORDS))) (gb0_WORDS : K.lookup b0_WORDS = some o0_WORDS) (go0_WORDS : TupO o0_WORDS (.tuple [(.str "polynomial"), (.str "sign")])) (gi1_WORDS : PySem.W.nsIn K a_WORDS "some" = some (some (.ref b1_WORDS))) (gb1_WORDS : K.lookup b1_WORDS = some o1_WORDS) (go1_WORDS : TupO o1_WORDS (.tuple [(.str "many")])) (gi2_WORDS : PySem.W.nsIn K a_WORDS "not" = some (some (.ref b2_WORDS))) (gb2_WORDS : K.lookup b2_WORDS = some o2_WORDS) (go2_WORDS : TupO o2_WORDS (.tuple [(.str "formula")])) (gi3_WORDS : PySem.W.nsIn K a_WORDS "and" = some (some (.ref b3_WORDS))) (gb3_WORDS : K.lookup b3_WORDS = some o3_WORDS) (go3_WORDS : TupO o3_WORDS (.tuple [(.str "formula"), (.str "formula")])) (gi4_WORDS : PySem.W.nsIn K a_WORDS "or" = some (some (.ref b4_WORDS))) (gb4_WORDS : K.lookup b4_WORDS = some o4_WORDS) (go4_WORDS : TupO o4_WORDS (.tuple [(.str "formula"), (.str "formula")]))
    {t_DEEPEST : Tok} (gg_DEEPEST : PySem.W.nsIn K mainGlobals "DEEPEST" = some (some (.int 6 t_DEEPEST)))
    {a_LENGTHS : Addr} {es_LENGTHS : Array DictEntry} {n_LENGTHS : Nat} {t0_LENGTHS t1_LENGTHS t2_LENGTHS t3_LENGTHS t4_LENGTHS : Tok} (gg_LENGTHS : PySem.W.nsIn K mainGlobals "LENGTHS" = some (some (.ref a_LENGTHS))) (gl_LENGTHS : K.lookup a_LENGTHS = some ⟨.type "dict", none, .dict es_LENGTHS n_LENGTHS, #[]⟩) (gk_LENGTHS : PySem.W.KeysLit w.params es_LENGTHS.toList) (gi0_LENGTHS : PySem.W.nsIn K a_LENGTHS "sign" = some (some (.int 3 t0_LENGTHS))) (gi1_LENGTHS : PySem.W.nsIn K a_LENGTHS "some" = some (some (.int 3 t1_LENGTHS))) (gi2_LENGTHS : PySem.W.nsIn K a_LENGTHS "not" = some (some (.int 2 t2_LENGTHS))) (gi3_LENGTHS : PySem.W.nsIn K a_LENGTHS "and" = some (some (.int 3 t3_LENGTHS))) (gi4_LENGTHS : PySem.W.nsIn K a_LENGTHS "or" = some (some (.int 3 t4_LENGTHS)))
    {t_MOST_BLOCKS : Tok} (gg_MOST_BLOCKS : PySem.W.nsIn K mainGlobals "MOST_BLOCKS" = some (some (.int 3 t_MOST_BLOCKS)))
    {t_MOST_SIGNS : Tok} (gg_MOST_SIGNS : PySem.W.nsIn K mainGlobals "MOST_SIGNS" = some (some (.int 6 t_MOST_SIGNS)))
    {ak_WORDS : Addr} {esk_WORDS : Array DictEntry} {nk_WORDS : Nat} (gq_WORDS : PySem.W.nsIn K mainGlobals "WORDS" = some (some (.ref ak_WORDS))) (gql_WORDS : K.lookup ak_WORDS = some ⟨.type "dict", none, .dict esk_WORDS nk_WORDS, #[]⟩) (gqk_WORDS : PySem.W.KeysLit w.params esk_WORDS.toList) (gqs_WORDS : (ak_WORDS == sysModules) = false) (gqa_WORDS : KeysAre esk_WORDS.toList ["sign", "some", "not", "and", "or"])
    {ak_OPPOSITE : Addr} {esk_OPPOSITE : Array DictEntry} {nk_OPPOSITE : Nat} (gq_OPPOSITE : PySem.W.nsIn K mainGlobals "OPPOSITE" = some (some (.ref ak_OPPOSITE))) (gql_OPPOSITE : K.lookup ak_OPPOSITE = some ⟨.type "dict", none, .dict esk_OPPOSITE nk_OPPOSITE, #[]⟩) (gqk_OPPOSITE : PySem.W.KeysLit w.params esk_OPPOSITE.toList) (gqs_OPPOSITE : (ak_OPPOSITE == sysModules) = false) (gqa_OPPOSITE : KeysAre esk_OPPOSITE.toList ["<", ">=", "<=", ">", "=", "!="])
    {ai_LENGTHS : Addr} {esi_LENGTHS : Array DictEntry} {ni_LENGTHS : Nat} {r0_LENGTHS r1_LENGTHS r2_LENGTHS r3_LENGTHS r4_LENGTHS r5_LENGTHS r6_LENGTHS r7_LENGTHS : Option Value} (gi_LENGTHS : PySem.W.nsIn K mainGlobals "LENGTHS" = some (some (.ref ai_LENGTHS))) (gil_LENGTHS : K.lookup ai_LENGTHS = some ⟨.type "dict", none, .dict esi_LENGTHS ni_LENGTHS, #[]⟩) (gik_LENGTHS : PySem.W.KeysLit w.params esi_LENGTHS.toList) (gis_LENGTHS : (ai_LENGTHS == sysModules) = false) (gz0_LENGTHS : PySem.W.nsIn K ai_LENGTHS "sign" = some r0_LENGTHS) (gy0_LENGTHS : r0_LENGTHS.isSome = true) (gz1_LENGTHS : PySem.W.nsIn K ai_LENGTHS "some" = some r1_LENGTHS) (gy1_LENGTHS : r1_LENGTHS.isSome = true) (gz2_LENGTHS : PySem.W.nsIn K ai_LENGTHS "not" = some r2_LENGTHS) (gy2_LENGTHS : r2_LENGTHS.isSome = true) (gz3_LENGTHS : PySem.W.nsIn K ai_LENGTHS "and" = some r3_LENGTHS) (gy3_LENGTHS : r3_LENGTHS.isSome = true) (gz4_LENGTHS : PySem.W.nsIn K ai_LENGTHS "or" = some r4_LENGTHS) (gy4_LENGTHS : r4_LENGTHS.isSome = true) (gz5_LENGTHS : PySem.W.nsIn K ai_LENGTHS "wrong" = some r5_LENGTHS) (gy5_LENGTHS : r5_LENGTHS.isSome = false) (gz6_LENGTHS : PySem.W.nsIn K ai_LENGTHS "use" = some r6_LENGTHS) (gy6_LENGTHS : r6_LENGTHS.isSome = false) (gz7_LENGTHS : PySem.W.nsIn K ai_LENGTHS "Not" = some r7_LENGTHS) (gy7_LENGTHS : r7_LENGTHS.isSome = false)
    {ai_OPPOSITE : Addr} {esi_OPPOSITE : Array DictEntry} {ni_OPPOSITE : Nat} {r0_OPPOSITE r1_OPPOSITE r2_OPPOSITE r3_OPPOSITE r4_OPPOSITE r5_OPPOSITE r6_OPPOSITE r7_OPPOSITE r8_OPPOSITE r9_OPPOSITE : Option Value} (gi_OPPOSITE : PySem.W.nsIn K mainGlobals "OPPOSITE" = some (some (.ref ai_OPPOSITE))) (gil_OPPOSITE : K.lookup ai_OPPOSITE = some ⟨.type "dict", none, .dict esi_OPPOSITE ni_OPPOSITE, #[]⟩) (gik_OPPOSITE : PySem.W.KeysLit w.params esi_OPPOSITE.toList) (gis_OPPOSITE : (ai_OPPOSITE == sysModules) = false) (gz0_OPPOSITE : PySem.W.nsIn K ai_OPPOSITE "<" = some r0_OPPOSITE) (gy0_OPPOSITE : r0_OPPOSITE.isSome = true) (gz1_OPPOSITE : PySem.W.nsIn K ai_OPPOSITE ">=" = some r1_OPPOSITE) (gy1_OPPOSITE : r1_OPPOSITE.isSome = true) (gz2_OPPOSITE : PySem.W.nsIn K ai_OPPOSITE "<=" = some r2_OPPOSITE) (gy2_OPPOSITE : r2_OPPOSITE.isSome = true) (gz3_OPPOSITE : PySem.W.nsIn K ai_OPPOSITE ">" = some r3_OPPOSITE) (gy3_OPPOSITE : r3_OPPOSITE.isSome = true) (gz4_OPPOSITE : PySem.W.nsIn K ai_OPPOSITE "=" = some r4_OPPOSITE) (gy4_OPPOSITE : r4_OPPOSITE.isSome = true) (gz5_OPPOSITE : PySem.W.nsIn K ai_OPPOSITE "!=" = some r5_OPPOSITE) (gy5_OPPOSITE : r5_OPPOSITE.isSome = true) (gz6_OPPOSITE : PySem.W.nsIn K ai_OPPOSITE "==" = some r6_OPPOSITE) (gy6_OPPOSITE : r6_OPPOSITE.isSome = false) (gz7_OPPOSITE : PySem.W.nsIn K ai_OPPOSITE "" = some r7_OPPOSITE) (gy7_OPPOSITE : r7_OPPOSITE.isSome = false) (gz8_OPPOSITE : PySem.W.nsIn K ai_OPPOSITE "=<" = some r8_OPPOSITE) (gy8_OPPOSITE : r8_OPPOSITE.isSome = false) (gz9_OPPOSITE : PySem.W.nsIn K ai_OPPOSITE "<>" = some r9_OPPOSITE) (gy9_OPPOSITE : r9_OPPOSITE.isSome = false)
    (nt_kind_at : PySem.W.nsIn K mainGlobals "kind_at" = some none)
    (nt_kind_on : PySem.W.nsIn K mainGlobals "kind_on" = some none) :
    ∃ cs : Tabs, ((∀ t ∈ cs, TabI K t.1 t.2.1 t.2.2 ∧ ((recsOf q).any fun e => e.name == t.1) = true) ∧ ∀ n ∈ tabNames, PySem.W.nsIn K mainGlobals n = some none ∨ ∃ t ∈ cs, t.1 = n) ∧
    ∃ fd : FuncData, (∀ (s : Shared) (u : Value), BindsTo s fd ⟨[u], []⟩ [("_law_script", u)]) ∧ ∀ base, (∀ t ∈ cs, GxR.TabB base mg t.2.1 t.2.2) → DOk P w K mg base 20 fa fd ["_law_script"] m_law := by
  have F0 := fun_mk (st := ws__law_draws) l0 c0 k0
  have D__law_draws : Df K mg "_law_draws" ws__law_draws ["_law_script", "_law_count"] := ⟨_, _, F0, PySem.W.mg_of X G a0, F0.binds (ps := ["_law_script", "_law_count"]) fun _ _ _ _ _ _ us hl => match us, hl with | [_, _], _ => rfl⟩
  have F1 := fun_mk (st := ws__law_poly_text) l1 c1 k1
  have D__law_poly_text : Df K mg "_law_poly_text" ws__law_poly_text ["_law_polynomial"] := ⟨_, _, F1, PySem.W.mg_of X G a1, F1.binds (ps := ["_law_polynomial"]) fun _ _ _ _ _ _ us hl => match us, hl with | [_], _ => rfl⟩
  have F2 := fun_mk (st := ws__law_words) l2 c2 k2
  have D__law_words : Df K mg "_law_words" ws__law_words ["_law_formula_here"] := ⟨_, _, F2, PySem.W.mg_of X G a2, F2.binds (ps := ["_law_formula_here"]) fun _ _ _ _ _ _ us hl => match us, hl with | [_], _ => rfl⟩
  have F3 := fun_mk (st := ws__law_take) l3 c3 k3
  have D__law_take : Df K mg "_law_take" ws__law_take ["_law_draws_here"] := ⟨_, _, F3, PySem.W.mg_of X G a3, F3.binds (ps := ["_law_draws_here"]) fun _ _ _ _ _ _ us hl => match us, hl with | [_], _ => rfl⟩
  have F4 := fun_mk (st := ws__law_poly) l4 c4 k4
  have D__law_poly : Df K mg "_law_poly" ws__law_poly ["_law_draws_here", "_law_most", "_law_bound"] := ⟨_, _, F4, PySem.W.mg_of X G a4, F4.binds (ps := ["_law_draws_here", "_law_most", "_law_bound"]) fun _ _ _ _ _ _ us hl => match us, hl with | [_, _, _], _ => rfl⟩
  have F5 := fun_mk (st := ws__law_sign_atom) l5 c5 k5
  have D__law_sign_atom : Df K mg "_law_sign_atom" ws__law_sign_atom ["_law_draws_here"] := ⟨_, _, F5, PySem.W.mg_of X G a5, F5.binds (ps := ["_law_draws_here"]) fun _ _ _ _ _ _ us hl => match us, hl with | [_], _ => rfl⟩
  have F6 := fun_mk (st := ws__law_block) l6 c6 k6
  have D__law_block : Df K mg "_law_block" ws__law_block ["_law_draws_here"] := ⟨_, _, F6, PySem.W.mg_of X G a6, F6.binds (ps := ["_law_draws_here"]) fun _ _ _ _ _ _ us hl => match us, hl with | [_], _ => rfl⟩
  have F7 := fun_mk (st := ws__law_formula) l7 c7 k7
  have D__law_formula : Df K mg "_law_formula" ws__law_formula ["_law_draws_here", "_law_left", "_law_depth"] := ⟨_, _, F7, PySem.W.mg_of X G a7, F7.binds (ps := ["_law_draws_here", "_law_left", "_law_depth"]) fun _ _ _ _ _ _ us hl => match us, hl with | [_, _, _], _ => rfl⟩
  have F8 := fun_mk (st := ws__law_column) l8 c8 k8
  have D__law_column : Df K mg "_law_column" ws__law_column ["_law_words_here", "_law_place"] := ⟨_, _, F8, PySem.W.mg_of X G a8, F8.binds (ps := ["_law_words_here", "_law_place"]) fun _ _ _ _ _ _ us hl => match us, hl with | [_, _], _ => rfl⟩
  have F9 := fun_mk (st := ws_words_of) l9 c9 k9
  have D_words_of : Df K mg "words_of" ws_words_of ["line"] := ⟨_, _, F9, PySem.W.mg_of X G a9, F9.binds (ps := ["line"]) fun _ _ _ _ _ _ us hl => match us, hl with | [_], _ => rfl⟩
  have TI_read_whole : TabI K "read_whole" cT10 PT10 := tabI_mk a10 l10 rfl rfl gT10 nT10
  have D_read_whole : DfC K mg "read_whole" ws_read_whole ["word"] cT10 := ⟨_, _, _, _, _, _, _, _, _, l10, c10, PySem.W.mg_of X G a10, k10, (fun_mk (st := ws_read_whole) l10 c10 k10).binds (ps := ["word"]) fun _ _ _ _ _ _ us hl => match us, hl with | [_], _ => rfl⟩
  have F11 := fun_mk (st := ws_read_polynomial) l11 c11 k11
  have D_read_polynomial : Df K mg "read_polynomial" ws_read_polynomial ["word"] := ⟨_, _, F11, PySem.W.mg_of X G a11, F11.binds (ps := ["word"]) fun _ _ _ _ _ _ us hl => match us, hl with | [_], _ => rfl⟩
  have F12 := fun_mk (st := ws_count_in) l12 c12 k12
  have D_count_in : Df K mg "count_in" ws_count_in ["word", "most"] := ⟨_, _, F12, PySem.W.mg_of X G a12, F12.binds (ps := ["word", "most"]) fun _ _ _ _ _ _ us hl => match us, hl with | [_, _], _ => rfl⟩
  have F13 := fun_mk (st := ws_value_of) l13 c13 k13
  have D_value_of : Df K mg "value_of" ws_value_of ["kind", "word"] := ⟨_, _, F13, PySem.W.mg_of X G a13, F13.binds (ps := ["kind", "word"]) fun _ _ _ _ _ _ us hl => match us, hl with | [_, _], _ => rfl⟩
  have F14 := fun_mk (st := ws_behind) l14 c14 k14
  have D_behind : Df K mg "behind" ws_behind ["kind", "value"] := ⟨_, _, F14, PySem.W.mg_of X G a14, F14.binds (ps := ["kind", "value"]) fun _ _ _ _ _ _ us hl => match us, hl with | [_, _], _ => rfl⟩
  have F15 := fun_mk (st := ws_read_line) l15 c15 k15
  have D_read_line : DfK K mg "read_line" ws_read_line ["line", "is_ended"] ["is_ended"] 1 := ⟨_, _, F15, PySem.W.mg_of X G a15, kb_of (ps := ["line", "is_ended"]) F15 fun _ _ _ _ _ _ us vs hl hm => match us, vs, hl, hm with | [_], [_], _, _ => rfl⟩
  have F16 := fun_mk (st := ws_rows_made) l16 c16 k16
  have D_rows_made : Df K mg "rows_made" ws_rows_made ["many", "values"] := ⟨_, _, F16, PySem.W.mg_of X G a16, F16.binds (ps := ["many", "values"]) fun _ _ _ _ _ _ us hl => match us, hl with | [_, _], _ => rfl⟩
  have F17 := fun_mk (st := ws_formula_made) l17 c17 k17
  have D_formula_made : Df K mg "formula_made" ws_formula_made ["found"] := ⟨_, _, F17, PySem.W.mg_of X G a17, F17.binds (ps := ["found"]) fun _ _ _ _ _ _ us hl => match us, hl with | [_], _ => rfl⟩
  have F18 := fun_mk (st := ws_is_whole) l18 c18 k18
  have D_is_whole : Df K mg "is_whole" ws_is_whole ["value"] := ⟨_, _, F18, PySem.W.mg_of X G a18, F18.binds (ps := ["value"]) fun _ _ _ _ _ _ us hl => match us, hl with | [_], _ => rfl⟩
  have F19 := fun_mk (st := ws_check_polynomial) l19 c19 k19
  have D_check_polynomial : DfK K mg "check_polynomial" ws_check_polynomial ["polynomial", "most", "bound"] ["most", "bound"] 1 := ⟨_, _, F19, PySem.W.mg_of X G a19, kb_of (ps := ["polynomial", "most", "bound"]) F19 fun _ _ _ _ _ _ us vs hl hm => match us, vs, hl, hm with | [_], [_, _], _, _ => rfl⟩
  have F20 := fun_mk (st := ws_check_row) l20 c20 k20
  have D_check_row : Df K mg "check_row" ws_check_row ["many", "row"] := ⟨_, _, F20, PySem.W.mg_of X G a20, F20.binds (ps := ["many", "row"]) fun _ _ _ _ _ _ us hl => match us, hl with | [_, _], _ => rfl⟩
  have F21 := fun_mk (st := ws_check_block) l21 c21 k21
  have D_check_block : Df K mg "check_block" ws_check_block ["block"] := ⟨_, _, F21, PySem.W.mg_of X G a21, F21.binds (ps := ["block"]) fun _ _ _ _ _ _ us hl => match us, hl with | [_], _ => rfl⟩
  have F22 := fun_mk (st := ws_check_part) l22 c22 k22
  have D_check_part : DfKD K mg "check_part" ws_check_part ["formula", "depth", "has_uses"] ["has_uses"] 2 [(.bool false)] := ⟨_, _, F22, PySem.W.mg_of X G a22, kb_of (ps := ["formula", "depth", "has_uses"]) F22 fun _ _ _ _ _ _ us vs hl hm => match us, vs, hl, hm with | [_, _], [_], _, _ => rfl, dfl_bool l22 c22 k22 kd22 rfl fun _ _ _ _ _ _ us ks h1 h2 => match us, ks, h1, h2 with | [_, _], [_], _, _ => ⟨_, _, _, _, _, _, rfl, rfl, rfl⟩⟩
  have F23 := fun_mk (st := ws_is_atom) l23 c23 k23
  have D_is_atom : Df K mg "is_atom" ws_is_atom ["formula"] := ⟨_, _, F23, PySem.W.mg_of X G a23, F23.binds (ps := ["formula"]) fun _ _ _ _ _ _ us hl => match us, hl with | [_], _ => rfl⟩
  have F24 := fun_mk (st := ws_depth_of) l24 c24 k24
  have D_depth_of : Df K mg "depth_of" ws_depth_of ["formula"] := ⟨_, _, F24, PySem.W.mg_of X G a24, F24.binds (ps := ["formula"]) fun _ _ _ _ _ _ us hl => match us, hl with | [_], _ => rfl⟩
  have F25 := fun_mk (st := ws_copy_of) l25 c25 k25
  have D_copy_of : Df K mg "copy_of" ws_copy_of ["formula"] := ⟨_, _, F25, PySem.W.mg_of X G a25, F25.binds (ps := ["formula"]) fun _ _ _ _ _ _ us hl => match us, hl with | [_], _ => rfl⟩
  have F26 := fun_mk (st := ws_atoms_of) l26 c26 k26
  have D_atoms_of : Df K mg "atoms_of" ws_atoms_of ["formula"] := ⟨_, _, F26, PySem.W.mg_of X G a26, F26.binds (ps := ["formula"]) fun _ _ _ _ _ _ us hl => match us, hl with | [_], _ => rfl⟩
  have F27 := fun_mk (st := ws_size_of) l27 c27 k27
  have D_size_of : Df K mg "size_of" ws_size_of ["formula"] := ⟨_, _, F27, PySem.W.mg_of X G a27, F27.binds (ps := ["formula"]) fun _ _ _ _ _ _ us hl => match us, hl with | [_], _ => rfl⟩
  have F28 := fun_mk (st := ws_check_formula) l28 c28 k28
  have D_check_formula : Df K mg "check_formula" ws_check_formula ["formula"] := ⟨_, _, F28, PySem.W.mg_of X G a28, F28.binds (ps := ["formula"]) fun _ _ _ _ _ _ us hl => match us, hl with | [_], _ => rfl⟩
  have F29 := fun_mk (st := ws_read_formula) l29 c29 k29
  have D_read_formula : Df K mg "read_formula" ws_read_formula ["text"] := ⟨_, _, F29, PySem.W.mg_of X G a29, F29.binds (ps := ["text"]) fun _ _ _ _ _ _ us hl => match us, hl with | [_], _ => rfl⟩
  have F30 := fun_mk (st := ws__law_is_integer) l30 c30 k30
  have D__law_is_integer : Df K mg "_law_is_integer" ws__law_is_integer ["_law_actual"] := ⟨_, _, F30, PySem.W.mg_of X G a30, F30.binds (ps := ["_law_actual"]) fun _ _ _ _ _ _ us hl => match us, hl with | [_], _ => rfl⟩
  have F31 := fun_mk (st := ws_law) l31 c31 k31
  have e := hfa.symm.trans (PySem.W.mg_of X G a31)
  cases e
  have m_BadText : mg "BadText" = some (.ref a_BadText) := PySem.W.mg_of X G ac_BadText
  have m_BadSize : mg "BadSize" = some (.ref a_BadSize) := PySem.W.mg_of X G ac_BadSize
  have m_BadNumber : mg "BadNumber" = some (.ref a_BadNumber) := PySem.W.mg_of X G ac_BadNumber
  have m_BadSign : mg "BadSign" = some (.ref a_BadSign) := PySem.W.mg_of X G ac_BadSign
  have m_TooDeep : mg "TooDeep" = some (.ref a_TooDeep) := PySem.W.mg_of X G ac_TooDeep
  have m_BadForm : mg "BadForm" = some (.ref a_BadForm) := PySem.W.mg_of X G ac_BadForm
  have m_WhereError : mg "WhereError" = some (.ref a_WhereError) := PySem.W.mg_of X G ac_WhereError
  have EX_BadText : PySem.W.exmOne K (.ref a_BadText) (.ref a_BadText) = some true := PySem.W.exm_ref bsf_BadText bdf_BadText btf_BadText suf_BadText
  have z_range : mg "range" = none := PySem.W.mg_none_of X G zz_range
  have z_len : mg "len" = none := PySem.W.mg_none_of X G zz_len
  have z_int : mg "int" = none := PySem.W.mg_none_of X G zz_int
  have z_str : mg "str" = none := PySem.W.mg_none_of X G zz_str
  have z_all : mg "all" = none := PySem.W.mg_none_of X G zz_all
  have z_list : mg "list" = none := PySem.W.mg_none_of X G zz_list
  have z_super : mg "super" = none := PySem.W.mg_none_of X G zz_super
  have z_isinstance : mg "isinstance" = none := PySem.W.mg_none_of X G zz_isinstance
  have z_bool : mg "bool" = none := PySem.W.mg_none_of X G zz_bool
  have z_max : mg "max" = none := PySem.W.mg_none_of X G zz_max
  have z_ValueError : mg "ValueError" = none := PySem.W.mg_none_of X G zz_ValueError
  have G_DIGITS : VL.Gc K mg "DIGITS" (.str "0123456789") := gc_str (PySem.W.mg_of X G gg_DIGITS)
  have G_MOST_DIGITS : VL.Gc K mg "MOST_DIGITS" (.int 3) := gc_int (PySem.W.mg_of X G gg_MOST_DIGITS)
  have G_MOST_COEFFICIENTS : VL.Gc K mg "MOST_COEFFICIENTS" (.int 12) := gc_int (PySem.W.mg_of X G gg_MOST_COEFFICIENTS)
  have G_MOST_ROWS : VL.Gc K mg "MOST_ROWS" (.int 5) := gc_int (PySem.W.mg_of X G gg_MOST_ROWS)
  have G_ROW_SIGNS : VL.Gc K mg "ROW_SIGNS" (.tuple [(.str "<"), (.str "<="), (.str "=")]) := gc_tup (PySem.W.mg_of X G gg_ROW_SIGNS) gl_ROW_SIGNS go_ROW_SIGNS
  have G_WORDS : VL.GD K w mg "WORDS" ["sign", "some", "not", "and", "or"] [(.tuple [(.str "polynomial"), (.str "sign")]), (.tuple [(.str "many")]), (.tuple [(.str "formula")]), (.tuple [(.str "formula"), (.str "formula")]), (.tuple [(.str "formula"), (.str "formula")])] := gd_mkT (PySem.W.mg_of X G gg_WORDS) gl_WORDS gk_WORDS ⟨⟨_, _, gi0_WORDS, gb0_WORDS, go0_WORDS⟩, ⟨_, _, gi1_WORDS, gb1_WORDS, go1_WORDS⟩, ⟨_, _, gi2_WORDS, gb2_WORDS, go2_WORDS⟩, ⟨_, _, gi3_WORDS, gb3_WORDS, go3_WORDS⟩, ⟨_, _, gi4_WORDS, gb4_WORDS, go4_WORDS⟩, trivial⟩
  have G_DEEPEST : VL.Gc K mg "DEEPEST" (.int 6) := gc_int (PySem.W.mg_of X G gg_DEEPEST)
  have G_LENGTHS : VL.GD K w mg "LENGTHS" ["sign", "some", "not", "and", "or"] [(.int 3), (.int 3), (.int 2), (.int 3), (.int 3)] := gd_mk (PySem.W.mg_of X G gg_LENGTHS) gl_LENGTHS gk_LENGTHS ⟨⟨_, _, gi0_LENGTHS, rfl⟩, ⟨_, _, gi1_LENGTHS, rfl⟩, ⟨_, _, gi2_LENGTHS, rfl⟩, ⟨_, _, gi3_LENGTHS, rfl⟩, ⟨_, _, gi4_LENGTHS, rfl⟩, trivial⟩
  have G_MOST_BLOCKS : VL.Gc K mg "MOST_BLOCKS" (.int 3) := gc_int (PySem.W.mg_of X G gg_MOST_BLOCKS)
  have G_MOST_SIGNS : VL.Gc K mg "MOST_SIGNS" (.int 6) := gc_int (PySem.W.mg_of X G gg_MOST_SIGNS)
  have GK_WORDS : VL.GK K w mg "WORDS" ["sign", "some", "not", "and", "or"] := ⟨⟨_, _, _, PySem.W.mg_of X G gq_WORDS, ⟨gql_WORDS, gqk_WORDS, gqs_WORDS⟩, gqa_WORDS⟩, by decide +kernel⟩
  have GK_OPPOSITE : VL.GK K w mg "OPPOSITE" ["<", ">=", "<=", ">", "=", "!="] := ⟨⟨_, _, _, PySem.W.mg_of X G gq_OPPOSITE, ⟨gql_OPPOSITE, gqk_OPPOSITE, gqs_OPPOSITE⟩, gqa_OPPOSITE⟩, by decide +kernel⟩
  have I_LENGTHS : VL.GI K w mg "LENGTHS" ["sign", "some", "not", "and", "or"] ["sign", "some", "not", "and", "or", "wrong", "use", "Not"] := ⟨_, _, _, PySem.W.mg_of X G gi_LENGTHS, ⟨gil_LENGTHS, gik_LENGTHS, gis_LENGTHS⟩, by simp only [List.forall_mem_cons, List.not_mem_nil, false_implies, implies_true, and_true]; exact ⟨⟨_, gz0_LENGTHS, gy0_LENGTHS.trans (by decide +kernel)⟩, ⟨_, gz1_LENGTHS, gy1_LENGTHS.trans (by decide +kernel)⟩, ⟨_, gz2_LENGTHS, gy2_LENGTHS.trans (by decide +kernel)⟩, ⟨_, gz3_LENGTHS, gy3_LENGTHS.trans (by decide +kernel)⟩, ⟨_, gz4_LENGTHS, gy4_LENGTHS.trans (by decide +kernel)⟩, ⟨_, gz5_LENGTHS, gy5_LENGTHS.trans (by decide +kernel)⟩, ⟨_, gz6_LENGTHS, gy6_LENGTHS.trans (by decide +kernel)⟩, ⟨_, gz7_LENGTHS, gy7_LENGTHS.trans (by decide +kernel)⟩⟩⟩
  have I_OPPOSITE : VL.GI K w mg "OPPOSITE" ["<", ">=", "<=", ">", "=", "!="] ["<", ">=", "<=", ">", "=", "!=", "==", "", "=<", "<>"] := ⟨_, _, _, PySem.W.mg_of X G gi_OPPOSITE, ⟨gil_OPPOSITE, gik_OPPOSITE, gis_OPPOSITE⟩, by simp only [List.forall_mem_cons, List.not_mem_nil, false_implies, implies_true, and_true]; exact ⟨⟨_, gz0_OPPOSITE, gy0_OPPOSITE.trans (by decide +kernel)⟩, ⟨_, gz1_OPPOSITE, gy1_OPPOSITE.trans (by decide +kernel)⟩, ⟨_, gz2_OPPOSITE, gy2_OPPOSITE.trans (by decide +kernel)⟩, ⟨_, gz3_OPPOSITE, gy3_OPPOSITE.trans (by decide +kernel)⟩, ⟨_, gz4_OPPOSITE, gy4_OPPOSITE.trans (by decide +kernel)⟩, ⟨_, gz5_OPPOSITE, gy5_OPPOSITE.trans (by decide +kernel)⟩, ⟨_, gz6_OPPOSITE, gy6_OPPOSITE.trans (by decide +kernel)⟩, ⟨_, gz7_OPPOSITE, gy7_OPPOSITE.trans (by decide +kernel)⟩, ⟨_, gz8_OPPOSITE, gy8_OPPOSITE.trans (by decide +kernel)⟩, ⟨_, gz9_OPPOSITE, gy9_OPPOSITE.trans (by decide +kernel)⟩⟩⟩
  have C__law_draws := fun (base : Heap) (TB_read_whole : GxR.TabB base mg cT10 PT10) => wd__law_draws (P := P) (w := w) (base := base) D__law_draws z_range z_len z_int
  have C__law_poly_text := fun (base : Heap) (TB_read_whole : GxR.TabB base mg cT10 PT10) => wd__law_poly_text (P := P) (w := w) (base := base) D__law_poly_text z_len z_str
  have C__law_words := fun (base : Heap) (TB_read_whole : GxR.TabB base mg cT10 PT10) => wd__law_words (P := P) (w := w) (base := base) D__law_words (C__law_poly_text base TB_read_whole) z_str z_len
  have C__law_take := fun (base : Heap) (TB_read_whole : GxR.TabB base mg cT10 PT10) => wd__law_take (P := P) (w := w) (base := base) D__law_take z_len
  have C__law_poly := fun (base : Heap) (TB_read_whole : GxR.TabB base mg cT10 PT10) => wd__law_poly (P := P) (w := w) (base := base) D__law_poly (C__law_take base TB_read_whole) z_range z_int z_len
  have C__law_sign_atom := fun (base : Heap) (TB_read_whole : GxR.TabB base mg cT10 PT10) => wd__law_sign_atom (P := P) (w := w) (base := base) D__law_sign_atom (C__law_take base TB_read_whole) (C__law_poly base TB_read_whole) z_int
  have C__law_block := fun (base : Heap) (TB_read_whole : GxR.TabB base mg cT10 PT10) => wd__law_block (P := P) (w := w) (base := base) D__law_block (C__law_take base TB_read_whole) (C__law_poly base TB_read_whole) z_int z_range
  have C__law_formula := fun (base : Heap) (TB_read_whole : GxR.TabB base mg cT10 PT10) => wd__law_formula (P := P) (w := w) (base := base) D__law_formula (C__law_take base TB_read_whole) (C__law_block base TB_read_whole) (C__law_sign_atom base TB_read_whole) z_int
  have C__law_column := fun (base : Heap) (TB_read_whole : GxR.TabB base mg cT10 PT10) => wd__law_column (P := P) (w := w) (base := base) D__law_column z_len
  have C_words_of := fun (base : Heap) (TB_read_whole : GxR.TabB base mg cT10 PT10) => wd_words_of (P := P) (w := w) (base := base) D_words_of z_len
  have C_read_whole := fun (base : Heap) (TB_read_whole : GxR.TabB base mg cT10 PT10) => wd_read_whole (P := P) (w := w) (base := base) D_read_whole TB_read_whole TI_read_whole z_all z_len z_int G_DIGITS G_MOST_DIGITS
  have C_read_polynomial := fun (base : Heap) (TB_read_whole : GxR.TabB base mg cT10 PT10) => wd_read_polynomial (P := P) (w := w) (base := base) D_read_polynomial (C_read_whole base TB_read_whole) z_len G_MOST_COEFFICIENTS
  have C_count_in := fun (base : Heap) (TB_read_whole : GxR.TabB base mg cT10 PT10) => wd_count_in (P := P) (w := w) (base := base) D_count_in (C_read_whole base TB_read_whole)
  have C_value_of := fun (base : Heap) (TB_read_whole : GxR.TabB base mg cT10 PT10) => wd_value_of (P := P) (w := w) (base := base) D_value_of (C_read_polynomial base TB_read_whole) (C_count_in base TB_read_whole) z_list G_MOST_ROWS G_ROW_SIGNS GK_WORDS GK_OPPOSITE
  have C_behind := fun (base : Heap) (TB_read_whole : GxR.TabB base mg cT10 PT10) => wd_behind (P := P) (w := w) (base := base) D_behind z_list G_WORDS
  have C_read_line := fun (base : Heap) (TB_read_whole : GxR.TabB base mg cT10 PT10) => wd_read_line (P := P) (w := w) (base := base) D_read_line (C_words_of base TB_read_whole) (C_value_of base TB_read_whole) (C_behind base TB_read_whole) m_BadText O_BadText ty_BadText z_super z_len
  have C_rows_made := fun (base : Heap) (TB_read_whole : GxR.TabB base mg cT10 PT10) => wd_rows_made (P := P) (w := w) (base := base) D_rows_made z_range z_len
  have C_formula_made := fun (base : Heap) (TB_read_whole : GxR.TabB base mg cT10 PT10) => wd_formula_made (P := P) (w := w) (base := base) D_formula_made (C_rows_made base TB_read_whole) z_range G_WORDS
  have C_is_whole := fun (base : Heap) (TB_read_whole : GxR.TabB base mg cT10 PT10) => wd_is_whole (P := P) (w := w) (base := base) D_is_whole z_isinstance z_bool z_int
  have C_check_polynomial := fun (base : Heap) (TB_read_whole : GxR.TabB base mg cT10 PT10) => wd_check_polynomial (P := P) (w := w) (base := base) D_check_polynomial (C_is_whole base TB_read_whole) m_BadSize m_BadNumber S_BadSize S_BadNumber z_len z_super
  have C_check_row := fun (base : Heap) (TB_read_whole : GxR.TabB base mg cT10 PT10) => wd_check_row (P := P) (w := w) (base := base) D_check_row (C_check_polynomial base TB_read_whole) m_BadSize m_BadSign S_BadSize S_BadSign z_len z_super G_ROW_SIGNS
  have C_check_block := fun (base : Heap) (TB_read_whole : GxR.TabB base mg cT10 PT10) => wd_check_block (P := P) (w := w) (base := base) D_check_block (C_is_whole base TB_read_whole) (C_check_row base TB_read_whole) m_BadSize S_BadSize z_len z_super
  have C_check_part := fun (base : Heap) (TB_read_whole : GxR.TabB base mg cT10 PT10) => wd_check_part (P := P) (w := w) (base := base) D_check_part (C_check_polynomial base TB_read_whole) (C_check_block base TB_read_whole) m_TooDeep m_BadForm m_BadSign S_TooDeep S_BadForm S_BadSign z_super z_len G_DEEPEST G_LENGTHS I_LENGTHS I_OPPOSITE
  have C_is_atom := fun (base : Heap) (TB_read_whole : GxR.TabB base mg cT10 PT10) => wd_is_atom (P := P) (w := w) (base := base) D_is_atom
  have C_depth_of := fun (base : Heap) (TB_read_whole : GxR.TabB base mg cT10 PT10) => wd_depth_of (P := P) (w := w) (base := base) D_depth_of (C_is_atom base TB_read_whole) z_max
  have C_copy_of := fun (base : Heap) (TB_read_whole : GxR.TabB base mg cT10 PT10) => wd_copy_of (P := P) (w := w) (base := base) D_copy_of z_list
  have C_atoms_of := fun (base : Heap) (TB_read_whole : GxR.TabB base mg cT10 PT10) => wd_atoms_of (P := P) (w := w) (base := base) D_atoms_of (C_is_atom base TB_read_whole) (C_copy_of base TB_read_whole)
  have C_size_of := fun (base : Heap) (TB_read_whole : GxR.TabB base mg cT10 PT10) => wd_size_of (P := P) (w := w) (base := base) D_size_of (C_atoms_of base TB_read_whole 12) (C_depth_of base TB_read_whole 12)
  have C_check_formula := fun (base : Heap) (TB_read_whole : GxR.TabB base mg cT10 PT10) => wd_check_formula (P := P) (w := w) (base := base) D_check_formula (C_check_part base TB_read_whole 12) (C_size_of base TB_read_whole) m_BadSize S_BadSize z_super G_MOST_BLOCKS G_MOST_SIGNS
  have C_read_formula := fun (base : Heap) (TB_read_whole : GxR.TabB base mg cT10 PT10) => wd_read_formula (P := P) (w := w) (base := base) D_read_formula (C_read_line base TB_read_whole) (C_formula_made base TB_read_whole) (C_check_formula base TB_read_whole) m_BadText O_BadText ty_BadText z_super
  have C__law_is_integer := fun (base : Heap) (TB_read_whole : GxR.TabB base mg cT10 PT10) => wd__law_is_integer (P := P) (w := w) (base := base) D__law_is_integer z_isinstance z_bool z_int
  have CH__law_is_integer := fun (base : Heap) (TB_read_whole : GxR.TabB base mg cT10 PT10) => wdH__law_is_integer (P := P) (w := w) (base := base) D__law_is_integer z_isinstance z_bool z_int
  have C_law := fun (base : Heap) (TB_read_whole : GxR.TabB base mg cT10 PT10) => wd_law (P := P) (w := w) (base := base) F31 (C__law_draws base TB_read_whole) (C__law_words base TB_read_whole 12) (C__law_formula base TB_read_whole 12) (C__law_column base TB_read_whole) (C_read_formula base TB_read_whole) (C__law_is_integer base TB_read_whole) (CH__law_is_integer base TB_read_whole) m_BadText m_BadSize m_WhereError O_BadText EX_BadText KTF_BadText_BadSize KTF_BadText_ValueError KTF_BadText_WhereError z_int z_len z_isinstance z_ValueError
  exact ⟨[("read_whole", cT10, PT10)], ⟨(by simp only [tabNames, List.forall_mem_cons, List.not_mem_nil, false_implies, implies_true, and_true]; exact ⟨TI_read_whole, rT10⟩), (by simp only [tabNames, List.forall_mem_cons, List.not_mem_nil, false_implies, implies_true, and_true]; exact ⟨.inr ⟨_, .head _, rfl⟩, .inl nt_kind_at, .inl nt_kind_on⟩)⟩, PySem.W.fnOf "law" "law" (defArgs ws_law) (defBody ws_law) (defScope ws_law) .none kV31 dc31 pm31 an31 cd31 ct31, fun s u => .of_eq rfl, fun base TB => C_law base (TB _ (.head _))⟩
end W
open PySem PySem.W PyProof.Rows VL
set_option maxHeartbeats 0 in
theorem PySem.Challenge.cw_wheretrue_k12_the_first_wrong_word_holds : PySem.Challenge.rw_wheretrue_k12_the_first_wrong_word.Holds := by
  w_on; o_law; k_head; (case hw => w_witness2)
  k_fill
  refine VL.law_end (l := PySem.Challenge.rw_wheretrue_k12_the_first_wrong_word) (k := 20) (x := "_law_script") (m := W.m_law) rfl rfl ⟨rfl, by decide, by decide⟩ (fun w h Y => PySem.W.kIn_of Y) W.law_true ?F
  case F =>
    intro w mg fa h KX G hmg
    refine' W.all_mk KX G hmg ?a0 ?l0 ?c0 ?k0 ?a1 ?l1 ?c1 ?k1 ?a2 ?l2 ?c2 ?k2 ?a3 ?l3 ?c3 ?k3 ?a4 ?l4 ?c4 ?k4 ?a5 ?l5 ?c5 ?k5 ?a6 ?l6 ?c6 ?k6 ?a7 ?l7 ?c7 ?k7 ?a8 ?l8 ?c8 ?k8 ?a9 ?l9 ?c9 ?k9 ?a10 ?l10 ?c10 ?k10 ?lT10 ?hT10 ?gT10 ?nT10 ?rT10 ?a11 ?l11 ?c11 ?k11 ?a12 ?l12 ?c12 ?k12 ?a13 ?l13 ?c13 ?k13 ?a14 ?l14 ?c14 ?k14 ?a15 ?l15 ?c15 ?k15 ?a16 ?l16 ?c16 ?k16 ?a17 ?l17 ?c17 ?k17 ?a18 ?l18 ?c18 ?k18 ?a19 ?l19 ?c19 ?k19 ?a20 ?l20 ?c20 ?k20 ?a21 ?l21 ?c21 ?k21 ?a22 ?l22 ?c22 ?k22 ?kd22 ?a23 ?l23 ?c23 ?k23 ?a24 ?l24 ?c24 ?k24 ?a25 ?l25 ?c25 ?k25 ?a26 ?l26 ?c26 ?k26 ?a27 ?l27 ?c27 ?k27 ?a28 ?l28 ?c28 ?k28 ?a29 ?l29 ?c29 ?k29 ?a30 ?l30 ?c30 ?k30 ?a31 ?l31 ?c31 ?k31 ?ac_BadText ?ac_BadSize ?ac_BadNumber ?ac_BadSign ?ac_TooDeep ?ac_BadForm ?ac_WhereError ?O_BadText ?ty_BadText ?bsf_BadText ?bdf_BadText ?btf_BadText ?suf_BadText ?KTF_BadText_BadSize ?KTF_BadText_ValueError ?KTF_BadText_WhereError ?S_BadSize ?S_BadNumber ?S_BadSign ?S_TooDeep ?S_BadForm ?zz_range ?zz_len ?zz_int ?zz_str ?zz_all ?zz_list ?zz_super ?zz_isinstance ?zz_bool ?zz_max ?zz_ValueError ?gg_DIGITS ?gg_MOST_DIGITS ?gg_MOST_COEFFICIENTS ?gg_MOST_ROWS ?gg_ROW_SIGNS ?gl_ROW_SIGNS ?go_ROW_SIGNS ?gg_WORDS ?gl_WORDS ?gk_WORDS ?gi0_WORDS ?gb0_WORDS ?go0_WORDS ?gi1_WORDS ?gb1_WORDS ?go1_WORDS ?gi2_WORDS ?gb2_WORDS ?go2_WORDS ?gi3_WORDS ?gb3_WORDS ?go3_WORDS ?gi4_WORDS ?gb4_WORDS ?go4_WORDS ?gg_DEEPEST ?gg_LENGTHS ?gl_LENGTHS ?gk_LENGTHS ?gi0_LENGTHS ?gi1_LENGTHS ?gi2_LENGTHS ?gi3_LENGTHS ?gi4_LENGTHS ?gg_MOST_BLOCKS ?gg_MOST_SIGNS ?gq_WORDS ?gql_WORDS ?gqk_WORDS ?gqs_WORDS ?gqa_WORDS ?gq_OPPOSITE ?gql_OPPOSITE ?gqk_OPPOSITE ?gqs_OPPOSITE ?gqa_OPPOSITE ?gi_LENGTHS ?gil_LENGTHS ?gik_LENGTHS ?gis_LENGTHS ?gz0_LENGTHS ?gy0_LENGTHS ?gz1_LENGTHS ?gy1_LENGTHS ?gz2_LENGTHS ?gy2_LENGTHS ?gz3_LENGTHS ?gy3_LENGTHS ?gz4_LENGTHS ?gy4_LENGTHS ?gz5_LENGTHS ?gy5_LENGTHS ?gz6_LENGTHS ?gy6_LENGTHS ?gz7_LENGTHS ?gy7_LENGTHS ?gi_OPPOSITE ?gil_OPPOSITE ?gik_OPPOSITE ?gis_OPPOSITE ?gz0_OPPOSITE ?gy0_OPPOSITE ?gz1_OPPOSITE ?gy1_OPPOSITE ?gz2_OPPOSITE ?gy2_OPPOSITE ?gz3_OPPOSITE ?gy3_OPPOSITE ?gz4_OPPOSITE ?gy4_OPPOSITE ?gz5_OPPOSITE ?gy5_OPPOSITE ?gz6_OPPOSITE ?gy6_OPPOSITE ?gz7_OPPOSITE ?gy7_OPPOSITE ?gz8_OPPOSITE ?gy8_OPPOSITE ?gz9_OPPOSITE ?gy9_OPPOSITE ?nt_kind_at ?nt_kind_on
    (case a0 => k_is); (case l0 => k_is); (case c0 => k_is); (case k0 => k_is); (case a1 => k_is); (case l1 => k_is); (case c1 => k_is); (case k1 => k_is); (case a2 => k_is); (case l2 => k_is); (case c2 => k_is); (case k2 => k_is); (case a3 => k_is); (case l3 => k_is); (case c3 => k_is); (case k3 => k_is); (case a4 => k_is); (case l4 => k_is); (case c4 => k_is); (case k4 => k_is); (case a5 => k_is); (case l5 => k_is); (case c5 => k_is); (case k5 => k_is); (case a6 => k_is); (case l6 => k_is); (case c6 => k_is); (case k6 => k_is); (case a7 => k_is); (case l7 => k_is); (case c7 => k_is); (case k7 => k_is); (case a8 => k_is); (case l8 => k_is); (case c8 => k_is); (case k8 => k_is); (case a9 => k_is); (case l9 => k_is); (case c9 => k_is); (case k9 => k_is); (case a10 => k_is); (case l10 => k_is); (case c10 => k_is); (case k10 => k_is); (case lT10 => k_is); (case hT10 => rfl); (case gT10 => (refine' VL.codeHd_mk ?lk ?h11 ?h; (case lk => k_is); (case h11 => rfl); (case h => rfl))); (case nT10 => rfl); (case rT10 => first | rfl | decide +kernel); (case a11 => k_is); (case l11 => k_is); (case c11 => k_is); (case k11 => k_is); (case a12 => k_is); (case l12 => k_is); (case c12 => k_is); (case k12 => k_is); (case a13 => k_is); (case l13 => k_is); (case c13 => k_is); (case k13 => k_is); (case a14 => k_is); (case l14 => k_is); (case c14 => k_is); (case k14 => k_is); (case a15 => k_is); (case l15 => k_is); (case c15 => k_is); (case k15 => k_is); (case a16 => k_is); (case l16 => k_is); (case c16 => k_is); (case k16 => k_is); (case a17 => k_is); (case l17 => k_is); (case c17 => k_is); (case k17 => k_is); (case a18 => k_is); (case l18 => k_is); (case c18 => k_is); (case k18 => k_is); (case a19 => k_is); (case l19 => k_is); (case c19 => k_is); (case k19 => k_is); (case a20 => k_is); (case l20 => k_is); (case c20 => k_is); (case k20 => k_is); (case a21 => k_is); (case l21 => k_is); (case c21 => k_is); (case k21 => k_is); (case a22 => k_is); (case l22 => k_is); (case c22 => k_is); (case k22 => k_is); (case kd22 => k_is); (case a23 => k_is); (case l23 => k_is); (case c23 => k_is); (case k23 => k_is); (case a24 => k_is); (case l24 => k_is); (case c24 => k_is); (case k24 => k_is); (case a25 => k_is); (case l25 => k_is); (case c25 => k_is); (case k25 => k_is); (case a26 => k_is); (case l26 => k_is); (case c26 => k_is); (case k26 => k_is); (case a27 => k_is); (case l27 => k_is); (case c27 => k_is); (case k27 => k_is); (case a28 => k_is); (case l28 => k_is); (case c28 => k_is); (case k28 => k_is); (case a29 => k_is); (case l29 => k_is); (case c29 => k_is); (case k29 => k_is); (case a30 => k_is); (case l30 => k_is); (case c30 => k_is); (case k30 => k_is); (case a31 => k_is); (case l31 => k_is); (case c31 => k_is); (case k31 => k_is); (case ac_BadText => k_is); (case ac_BadSize => k_is); (case ac_BadNumber => k_is); (case ac_BadSign => k_is); (case ac_TooDeep => k_is); (case ac_BadForm => k_is); (case ac_WhereError => k_is); (case O_BadText => (refine' VL.exO_mk2 (f0 := "line") (q0 := "line") (f1 := "column") (q1 := "column") ?nm ?iC ?tI ?lk ?code ?lc ?fil ?fe ?lcell ?ini ?cl ?rv ?hdc ?sa ?sub ?sup ?subB ?exC ?kC ?op ?hg ?hk ?hd ?ha ?hn ?ht ?hm ?nof ?par ?binds ?bself ?bpar ?bloc ?bdb ?few ?ks ?kc ?kind ?co ?gen ?nc ?top ?ev; (case nm => k_is); (case iC => k_is); (case tI => k_is); (case lk => k_is); (case code => k_is); (case lc => k_is); (case fil => rfl); (case fe => decide); (case lcell => k_is); (case ini => kx_is); (case cl => k_is); (case rv => first | rfl | decide +kernel); (case hdc => rfl); (case sa => k_is); (case sub => k_is); (case sup => ks_is); (case subB => k_is); (case exC => k_is); (case kC => k_is); (case op => k_is); (case hg => k_is); (case hk => k_is); (case hd => k_is); (case ha => k_is); (case hn => k_is); (case ht => k_is); (case hm => k_is); (case nof => (refine' List.forall_mem_cons.mpr ⟨?n0, List.forall_mem_cons.mpr ⟨?n1, fun _ h => nomatch h⟩⟩); (case n0 => k_is); (case n1 => k_is)); (case par => rfl); (case binds => exact fun _ _ _ _ _ _ us _ hl => match us, hl with | [_, _], _ => .of_eq rfl); (case bself => exact fun _ us hl => match us, hl with | [_, _], _ => rfl); (case bpar => exact fun _ us hl => match us, hl with | [_, _], _ => by simp only [List.zip_cons_cons, List.zip_nil_right, List.forall_mem_cons, List.not_mem_nil, false_implies, implies_true, and_true]; exact ⟨rfl, rfl⟩); (case bloc => first | decide +kernel | decide); (case bdb => first | decide +kernel | decide); (case few => decide); (case ks => rfl); (case kc => rfl); (case kind => rfl); (case co => rfl); (case gen => rfl); (case nc => decide); (case top => decide +kernel); (case ev => exact fun _ => ⟨_, rfl⟩))); (case ty_BadText => k_is); (case bsf_BadText => first | rfl | k_is); (case bdf_BadText => first | rfl | k_is); (case btf_BadText => first | rfl | k_is); (case suf_BadText => first | rfl | k_is); (case KTF_BadText_BadSize => kit_is); (case KTF_BadText_ValueError => kit_is); (case KTF_BadText_WhereError => kit_is); (case S_BadSize => (refine' VL.exK_mk ?iC ?tI ?lk ?code ?lc ?fil ?fe ?lcell ?ini ?cl ?sub ?sup ?subB ?exC ?tyC ?kC ?op ?hg ?hk ?hd ?ha ?hn ?ht ?hm ?par ?binds ?ks ?kc ?ka ?kind ?co ?gen ?nc ?top ?ev; (case iC => k_is); (case tI => k_is); (case lk => k_is); (case code => k_is); (case lc => k_is); (case fil => rfl); (case fe => decide); (case lcell => k_is); (case ini => kx_is); (case cl => k_is); (case sub => k_is); (case sup => ks_is); (case subB => k_is); (case exC => k_is); (case tyC => k_is); (case kC => k_is); (case op => k_is); (case hg => k_is); (case hk => k_is); (case hd => k_is); (case ha => k_is); (case hn => k_is); (case ht => k_is); (case hm => k_is); (case par => rfl); (case binds => exact fun _ _ _ _ _ _ _ => .of_eq rfl); (case ks => rfl); (case kc => rfl); (case ka => rfl); (case kind => rfl); (case co => rfl); (case gen => rfl); (case nc => decide); (case top => decide +kernel); (case ev => exact fun _ => ⟨_, rfl⟩))); (case S_BadNumber => (refine' VL.exK_mk ?iC ?tI ?lk ?code ?lc ?fil ?fe ?lcell ?ini ?cl ?sub ?sup ?subB ?exC ?tyC ?kC ?op ?hg ?hk ?hd ?ha ?hn ?ht ?hm ?par ?binds ?ks ?kc ?ka ?kind ?co ?gen ?nc ?top ?ev; (case iC => k_is); (case tI => k_is); (case lk => k_is); (case code => k_is); (case lc => k_is); (case fil => rfl); (case fe => decide); (case lcell => k_is); (case ini => kx_is); (case cl => k_is); (case sub => k_is); (case sup => ks_is); (case subB => k_is); (case exC => k_is); (case tyC => k_is); (case kC => k_is); (case op => k_is); (case hg => k_is); (case hk => k_is); (case hd => k_is); (case ha => k_is); (case hn => k_is); (case ht => k_is); (case hm => k_is); (case par => rfl); (case binds => exact fun _ _ _ _ _ _ _ => .of_eq rfl); (case ks => rfl); (case kc => rfl); (case ka => rfl); (case kind => rfl); (case co => rfl); (case gen => rfl); (case nc => decide); (case top => decide +kernel); (case ev => exact fun _ => ⟨_, rfl⟩))); (case S_BadSign => (refine' VL.exK_mk ?iC ?tI ?lk ?code ?lc ?fil ?fe ?lcell ?ini ?cl ?sub ?sup ?subB ?exC ?tyC ?kC ?op ?hg ?hk ?hd ?ha ?hn ?ht ?hm ?par ?binds ?ks ?kc ?ka ?kind ?co ?gen ?nc ?top ?ev; (case iC => k_is); (case tI => k_is); (case lk => k_is); (case code => k_is); (case lc => k_is); (case fil => rfl); (case fe => decide); (case lcell => k_is); (case ini => kx_is); (case cl => k_is); (case sub => k_is); (case sup => ks_is); (case subB => k_is); (case exC => k_is); (case tyC => k_is); (case kC => k_is); (case op => k_is); (case hg => k_is); (case hk => k_is); (case hd => k_is); (case ha => k_is); (case hn => k_is); (case ht => k_is); (case hm => k_is); (case par => rfl); (case binds => exact fun _ _ _ _ _ _ _ => .of_eq rfl); (case ks => rfl); (case kc => rfl); (case ka => rfl); (case kind => rfl); (case co => rfl); (case gen => rfl); (case nc => decide); (case top => decide +kernel); (case ev => exact fun _ => ⟨_, rfl⟩))); (case S_TooDeep => (refine' VL.exK_mk ?iC ?tI ?lk ?code ?lc ?fil ?fe ?lcell ?ini ?cl ?sub ?sup ?subB ?exC ?tyC ?kC ?op ?hg ?hk ?hd ?ha ?hn ?ht ?hm ?par ?binds ?ks ?kc ?ka ?kind ?co ?gen ?nc ?top ?ev; (case iC => k_is); (case tI => k_is); (case lk => k_is); (case code => k_is); (case lc => k_is); (case fil => rfl); (case fe => decide); (case lcell => k_is); (case ini => kx_is); (case cl => k_is); (case sub => k_is); (case sup => ks_is); (case subB => k_is); (case exC => k_is); (case tyC => k_is); (case kC => k_is); (case op => k_is); (case hg => k_is); (case hk => k_is); (case hd => k_is); (case ha => k_is); (case hn => k_is); (case ht => k_is); (case hm => k_is); (case par => rfl); (case binds => exact fun _ _ _ _ _ _ _ => .of_eq rfl); (case ks => rfl); (case kc => rfl); (case ka => rfl); (case kind => rfl); (case co => rfl); (case gen => rfl); (case nc => decide); (case top => decide +kernel); (case ev => exact fun _ => ⟨_, rfl⟩))); (case S_BadForm => (refine' VL.exK_mk ?iC ?tI ?lk ?code ?lc ?fil ?fe ?lcell ?ini ?cl ?sub ?sup ?subB ?exC ?tyC ?kC ?op ?hg ?hk ?hd ?ha ?hn ?ht ?hm ?par ?binds ?ks ?kc ?ka ?kind ?co ?gen ?nc ?top ?ev; (case iC => k_is); (case tI => k_is); (case lk => k_is); (case code => k_is); (case lc => k_is); (case fil => rfl); (case fe => decide); (case lcell => k_is); (case ini => kx_is); (case cl => k_is); (case sub => k_is); (case sup => ks_is); (case subB => k_is); (case exC => k_is); (case tyC => k_is); (case kC => k_is); (case op => k_is); (case hg => k_is); (case hk => k_is); (case hd => k_is); (case ha => k_is); (case hn => k_is); (case ht => k_is); (case hm => k_is); (case par => rfl); (case binds => exact fun _ _ _ _ _ _ _ => .of_eq rfl); (case ks => rfl); (case kc => rfl); (case ka => rfl); (case kind => rfl); (case co => rfl); (case gen => rfl); (case nc => decide); (case top => decide +kernel); (case ev => exact fun _ => ⟨_, rfl⟩))); (case zz_range => k_is); (case zz_len => k_is); (case zz_int => k_is); (case zz_str => k_is); (case zz_all => k_is); (case zz_list => k_is); (case zz_super => k_is); (case zz_isinstance => k_is); (case zz_bool => k_is); (case zz_max => k_is); (case zz_ValueError => k_is); (case gg_DIGITS => k_is); (case gg_MOST_DIGITS => k_is); (case gg_MOST_COEFFICIENTS => k_is); (case gg_MOST_ROWS => k_is); (case gg_ROW_SIGNS => k_is); (case gl_ROW_SIGNS => k_is); (case go_ROW_SIGNS => exact VL.tupO_mk rfl rfl rfl (by decide)); (case gg_WORDS => k_is); (case gl_WORDS => k_is); (case gk_WORDS => exact ⟨⟨_, _, rfl, rfl⟩, ⟨_, _, rfl, rfl⟩, ⟨_, _, rfl, rfl⟩, ⟨_, _, rfl, rfl⟩, ⟨_, _, rfl, rfl⟩, trivial⟩); (case gi0_WORDS => k_is); (case gb0_WORDS => k_is); (case go0_WORDS => exact VL.tupO_mk rfl rfl rfl (by decide)); (case gi1_WORDS => k_is); (case gb1_WORDS => k_is); (case go1_WORDS => exact VL.tupO_mk rfl rfl rfl (by decide)); (case gi2_WORDS => k_is); (case gb2_WORDS => k_is); (case go2_WORDS => exact VL.tupO_mk rfl rfl rfl (by decide)); (case gi3_WORDS => k_is); (case gb3_WORDS => k_is); (case go3_WORDS => exact VL.tupO_mk rfl rfl rfl (by decide)); (case gi4_WORDS => k_is); (case gb4_WORDS => k_is); (case go4_WORDS => exact VL.tupO_mk rfl rfl rfl (by decide)); (case gg_DEEPEST => k_is); (case gg_LENGTHS => k_is); (case gl_LENGTHS => k_is); (case gk_LENGTHS => exact ⟨⟨_, _, rfl, rfl⟩, ⟨_, _, rfl, rfl⟩, ⟨_, _, rfl, rfl⟩, ⟨_, _, rfl, rfl⟩, ⟨_, _, rfl, rfl⟩, trivial⟩); (case gi0_LENGTHS => k_is); (case gi1_LENGTHS => k_is); (case gi2_LENGTHS => k_is); (case gi3_LENGTHS => k_is); (case gi4_LENGTHS => k_is); (case gg_MOST_BLOCKS => k_is); (case gg_MOST_SIGNS => k_is); (case gq_WORDS => k_is); (case gql_WORDS => k_is); (case gqk_WORDS => exact ⟨⟨_, _, rfl, rfl⟩, ⟨_, _, rfl, rfl⟩, ⟨_, _, rfl, rfl⟩, ⟨_, _, rfl, rfl⟩, ⟨_, _, rfl, rfl⟩, trivial⟩); (case gqs_WORDS => first | rfl | decide); (case gqa_WORDS => exact ⟨⟨_, rfl⟩, ⟨_, rfl⟩, ⟨_, rfl⟩, ⟨_, rfl⟩, ⟨_, rfl⟩, trivial⟩); (case gq_OPPOSITE => k_is); (case gql_OPPOSITE => k_is); (case gqk_OPPOSITE => exact ⟨⟨_, _, rfl, rfl⟩, ⟨_, _, rfl, rfl⟩, ⟨_, _, rfl, rfl⟩, ⟨_, _, rfl, rfl⟩, ⟨_, _, rfl, rfl⟩, ⟨_, _, rfl, rfl⟩, trivial⟩); (case gqs_OPPOSITE => first | rfl | decide); (case gqa_OPPOSITE => exact ⟨⟨_, rfl⟩, ⟨_, rfl⟩, ⟨_, rfl⟩, ⟨_, rfl⟩, ⟨_, rfl⟩, ⟨_, rfl⟩, trivial⟩); (case gi_LENGTHS => k_is); (case gil_LENGTHS => k_is); (case gik_LENGTHS => exact ⟨⟨_, _, rfl, rfl⟩, ⟨_, _, rfl, rfl⟩, ⟨_, _, rfl, rfl⟩, ⟨_, _, rfl, rfl⟩, ⟨_, _, rfl, rfl⟩, trivial⟩); (case gis_LENGTHS => first | rfl | decide); (case gz0_LENGTHS => k_is); (case gy0_LENGTHS => rfl); (case gz1_LENGTHS => k_is); (case gy1_LENGTHS => rfl); (case gz2_LENGTHS => k_is); (case gy2_LENGTHS => rfl); (case gz3_LENGTHS => k_is); (case gy3_LENGTHS => rfl); (case gz4_LENGTHS => k_is); (case gy4_LENGTHS => rfl); (case gz5_LENGTHS => k_is); (case gy5_LENGTHS => rfl); (case gz6_LENGTHS => k_is); (case gy6_LENGTHS => rfl); (case gz7_LENGTHS => k_is); (case gy7_LENGTHS => rfl); (case gi_OPPOSITE => k_is); (case gil_OPPOSITE => k_is); (case gik_OPPOSITE => exact ⟨⟨_, _, rfl, rfl⟩, ⟨_, _, rfl, rfl⟩, ⟨_, _, rfl, rfl⟩, ⟨_, _, rfl, rfl⟩, ⟨_, _, rfl, rfl⟩, ⟨_, _, rfl, rfl⟩, trivial⟩); (case gis_OPPOSITE => first | rfl | decide); (case gz0_OPPOSITE => k_is); (case gy0_OPPOSITE => rfl); (case gz1_OPPOSITE => k_is); (case gy1_OPPOSITE => rfl); (case gz2_OPPOSITE => k_is); (case gy2_OPPOSITE => rfl); (case gz3_OPPOSITE => k_is); (case gy3_OPPOSITE => rfl); (case gz4_OPPOSITE => k_is); (case gy4_OPPOSITE => rfl); (case gz5_OPPOSITE => k_is); (case gy5_OPPOSITE => rfl); (case gz6_OPPOSITE => k_is); (case gy6_OPPOSITE => rfl); (case gz7_OPPOSITE => k_is); (case gy7_OPPOSITE => rfl); (case gz8_OPPOSITE => k_is); (case gy8_OPPOSITE => rfl); (case gz9_OPPOSITE => k_is); (case gy9_OPPOSITE => rfl); (case nt_kind_at => k_is); (case nt_kind_on => k_is)
