import PyProof.Rows.All
import Wide.All
import OpenK.AllK
import Wide.FinOn
import HandS.ForMost
import HandS.Deep
import HandS.Flow
import HandS.Style
import HandS.TupAny
import HandS.Star
import HandS.TupMul
import KE.SortData
import HandS.ExcValue
import HandS.ExcOwn
import PyProof.Rows.SetFrom
import HandS.SetKeys
import PyProof.StrBlock2
import PyProof.Rows.StrCountLaw
import KE.KeyNested
import HandS.Iter
import HandS.TupLen
import HandS.Conv
import KE.DataMinMax
import KE.DataCmp
import KE.GoesEnum
import PyProof.SumAny
import HandS.Gcd
import HandS.Wide
import HandS.DictComp
import HandS.TryOnly
import HandS.ForExc
import HandS.HotCalls
import HandS.ExcCtx
import KE.KExcSuper
import KE.KExcIs
import PyProof.ReprRoads
import PyProof.ReprLen
import KE.GoesMore
import HandS.Strs
import KE.DataFind
import KE.KDictSum
import KE.KDictCopyH
import HandS.Flt
import PySem.Challenge.RW_arcadeheld_k51_errors_of_chasers
set_option Elab.async false
set_option linter.all false
set_option maxRecDepth 100000
/-! Values as data: a def's meaning as a plain Lean function over data, and the rules that carry it to the model. -/
namespace Vs
open PySem PySem.Spec PyProof.Rows L2

abbrev D := PyData
/-- the text of these signs -/
def tx (l : List Nat) : Str := ⟨l.toArray⟩
/-- no answer: the code comes to what is not told here; or an own error, by its number and what it bears -/
inductive Er where
  | stuck
  | exc (c : Nat) (a : D)
abbrev R (α : Type) := Except Er α
abbrev stk {α : Type} : R α := .error .stuck
def gd {α : Type} (r : R α) (q : α → Prop) (e : Nat → D → Prop) : Prop := match r with
  | .ok a => q a
  | .error .stuck => False
  | .error (.exc c a) => e c a
theorem gd_bind {α β : Type} {x : R α} {f : α → R β} {q : β → Prop} {e : Nat → D → Prop} : gd (x >>= f) q e ↔ gd x (fun a => gd (f a) q e) e := by
  cases x with
  | ok a => exact Iff.rfl
  | error er => cases er <;> exact Iff.rfl
theorem gd_ok {α : Type} {a : α} {q : α → Prop} {e : Nat → D → Prop} : gd (.ok a) q e ↔ q a := Iff.rfl
theorem gd_pure {α : Type} {a : α} {q : α → Prop} {e : Nat → D → Prop} : gd (pure a) q e ↔ q a := Iff.rfl
theorem gd_mono {α : Type} {x : R α} {q q' : α → Prop} {e : Nat → D → Prop} (h : gd x q e) (hq : ∀ a, q a → q' a) : gd x q' e := by
  cases x with
  | ok a => exact hq a h
  | error er => cases er <;> exact h
theorem gd_mono2 {α : Type} {x : R α} {q q' : α → Prop} {e e' : Nat → D → Prop} (h : gd x q e) (hq : ∀ a, q a → q' a) (he : ∀ c a, e c a → e' c a) : gd x q' e' := by
  cases x with
  | ok a => exact hq a h
  | error er =>
    cases er with
    | stuck => exact h
    | exc c a => exact he c a h

abbrev Env' := List (Option D)
def gv (ρ : Env') (i : Nat) : R D := match ρ[i]? with
  | some (some d) => .ok d
  | _ => stk

/-! ### data in the abstract heap -/
/-- a dict whose object is known -/
def dO (a : Addr) (o : Obj) : HO := .ext fun h => h.get? a = some o
def DcA (K : PySem.W.Frag) (G : Hp) (a : Addr) (o : Obj) : Prop := G a = some (dO a o) ∨ K.lookup a = some o
mutual
def hashD (w : World) : D → Int
  | .int i => hashInt i
  | .str x => hashStr w x
  | .tuple xs => reduceHash (Builtin.Tuple.tupleHashOf (hashAll w xs))
  | _ => 0
def hashAll (w : World) : List D → List Int
  | [] => []
  | d :: ds => hashD w d :: hashAll w ds
end
mutual
inductive Dt (w : World) (K : PySem.W.Frag) (G : Hp) : V → D → Prop
  | non : Dt w K G .non .none
  | bl (b : Bool) : Dt w K G (.bl b) (.bool b)
  | int (i : Int) : Dt w K G (.int i) (.int i)
  | str (x : Str) : Dt w K G (.str x) (.str x)
  | lst {a : Addr} {xs : List V} {ds : List D} : Rd G a (.lst xs) → DtAll w K G xs ds → Dt w K G (.ref a) (.list ds)
  | tup {a : Addr} {xs : List V} {ds : List D} : SqT K G a xs → DtAll w K G xs ds → Dt w K G (.ref a) (.tuple ds)
  | dct {a : Addr} {o : Obj} {es : Array DictEntry} {ep : Nat} {kvs : List (D × D)} : DcA K G a o → (a == sysModules) = false → o.ExactDict → o.data = .dict es ep → DtEs w K G es.toList kvs → (kvs.map (·.1)).Nodup → Dt w K G (.ref a) (.dict kvs)
  | scr {a : Addr} {xs : List V} {ds : List D} : SqL K G a xs → DtAll w K G xs ds → Dt w K G (.ref a) (.dict [(.none, .list ds), (.none, .none)])
  | exc {a dd : Addr} {v : V} {d : D} : G dd = some (.xd [("at", v)]) → Dt w K G v d → Dt w K G (.ref a) (.dict [(.none, .tuple [.int a, .int dd, d]), (.none, .none)])
inductive DtAll (w : World) (K : PySem.W.Frag) (G : Hp) : List V → List D → Prop
  | nil : DtAll w K G [] []
  | cons {v : V} {vs : List V} {d : D} {ds : List D} : Dt w K G v d → DtAll w K G vs ds → DtAll w K G (v :: vs) (d :: ds)
inductive DtEs (w : World) (K : PySem.W.Frag) (G : Hp) : List DictEntry → List (D × D) → Prop
  | nil : DtEs w K G [] []
  | cons {e : DictEntry} {kv vv : V} {dk dv : D} {es : List DictEntry} {kvs : List (D × D)} : RelV kv e.key → Dt w K G kv dk → e.hash = hashD w dk → RelV vv e.val → Dt w K G vv dv → DtEs w K G es kvs → DtEs w K G (e :: es) ((dk, dv) :: kvs)
end

/-- a part of the heap in another -/
def Sub (G H : Hp) : Prop := ∀ a o, G a = some o → H a = some o
theorem Sub.refl (G : Hp) : Sub G G := fun _ _ h => h
theorem Sub.trans {G H H' : Hp} (a : Sub G H) (b : Sub H H') : Sub G H' := fun c o h => b c o (a c o h)
theorem SqL.sub {K : PySem.W.Frag} {G G' : Hp} {a : Addr} {xs : List V} (s : Sub G G') (h : SqL K G a xs) : SqL K G' a xs := by
  rcases h with (h | ⟨o, h⟩) | h
  · exact .inl (.inl (s _ _ h))
  · exact .inl (.inr ⟨o, s _ _ h⟩)
  · exact .inr h
theorem Rd.sub {G G' : Hp} {a : Addr} {u : HO} (s : Sub G G') (h : Rd G a u) : Rd G' a u := by
  rcases h with h | ⟨o, h⟩
  · exact .inl (s _ _ h)
  · exact .inr ⟨o, s _ _ h⟩
theorem Rd.sq {K : PySem.W.Frag} {G : Hp} {a : Addr} {xs : List V} (h : Rd G a (.lst xs)) : SqL K G a xs := .inl h
theorem SqT.sub {K : PySem.W.Frag} {G G' : Hp} {a : Addr} {xs : List V} (s : Sub G G') (h : SqT K G a xs) : SqT K G' a xs := by
  rcases h with (h | ⟨o, h⟩) | h
  · exact .inl (.inl (s _ _ h))
  · exact .inl (.inr ⟨o, s _ _ h⟩)
  · exact .inr h
theorem DcA.sub {K : PySem.W.Frag} {G G' : Hp} {a : Addr} {o : Obj} (s : Sub G G') (h : DcA K G a o) : DcA K G' a o := h.imp (s _ _) id
section
variable {w : World} {K : PySem.W.Frag} {G G' : Hp}
mutual
theorem Dt.sub (s : Sub G G') : ∀ {v : V} {d : D}, Dt w K G v d → Dt w K G' v d
  | _, _, .non => .non
  | _, _, .bl b => .bl b
  | _, _, .int i => .int i
  | _, _, .str x => .str x
  | _, _, .lst h t => .lst (Rd.sub s h) (DtAll.sub s t)
  | _, _, .tup h t => .tup (SqT.sub s h) (DtAll.sub s t)
  | _, _, .dct h n x e t u => .dct (DcA.sub s h) n x e (DtEs.sub s t) u
  | _, _, .scr h t => .scr (SqL.sub s h) (DtAll.sub s t)
  | _, _, .exc h t => .exc (s _ _ h) (Dt.sub s t)
theorem DtAll.sub (s : Sub G G') : ∀ {vs : List V} {ds : List D}, DtAll w K G vs ds → DtAll w K G' vs ds
  | _, _, .nil => .nil
  | _, _, .cons h t => .cons (Dt.sub s h) (DtAll.sub s t)
theorem DtEs.sub (s : Sub G G') : ∀ {es : List DictEntry} {kvs : List (D × D)}, DtEs w K G es kvs → DtEs w K G' es kvs
  | _, _, .nil => .nil
  | _, _, .cons a b c d e t => .cons a (Dt.sub s b) c d (Dt.sub s e) (DtEs.sub s t)
end
theorem DtAll.length : ∀ {vs : List V} {ds : List D}, DtAll w K G vs ds → vs.length = ds.length
  | _, _, .nil => rfl
  | _, _, .cons _ t => by rw [List.length_cons, List.length_cons, t.length]
theorem DtAll.get : ∀ {vs : List V} {ds : List D} {i : Nat} {v : V}, DtAll w K G vs ds → vs[i]? = some v → ∃ d, ds[i]? = some d ∧ Dt w K G v d
  | _, _, _, _, .nil, h => by simp at h
  | _, _, 0, _, .cons h _, e => by simp at e; subst e; exact ⟨_, rfl, h⟩
  | _, _, i + 1, v, .cons _ t, e => by
    obtain ⟨d, h1, h2⟩ := DtAll.get (i := i) (v := v) t (by simpa using e)
    exact ⟨d, by simpa using h1, h2⟩
theorem DtAll.get' : ∀ {vs : List V} {ds : List D} {i : Nat} {d : D}, DtAll w K G vs ds → ds[i]? = some d → ∃ v, vs[i]? = some v ∧ Dt w K G v d
  | _, _, _, _, .nil, h => by simp at h
  | _, _, 0, _, .cons h _, e => by simp at e; subst e; exact ⟨_, rfl, h⟩
  | _, _, i + 1, v, .cons _ t, e => by
    obtain ⟨d, h1, h2⟩ := DtAll.get' (i := i) (d := v) t (by simpa using e)
    exact ⟨d, by simpa using h1, h2⟩
theorem DtAll.append : ∀ {vs vs' : List V} {ds ds' : List D}, DtAll w K G vs ds → DtAll w K G vs' ds' → DtAll w K G (vs ++ vs') (ds ++ ds')
  | _, _, _, _, .nil, s => s
  | _, _, _, _, .cons h t, s => .cons h (t.append s)
theorem DtAll.take : ∀ {vs : List V} {ds : List D} (n : Nat), DtAll w K G vs ds → DtAll w K G (vs.take n) (ds.take n)
  | _, _, 0, _ => .nil
  | _, _, _ + 1, .nil => .nil
  | _, _, n + 1, .cons h t => .cons h (t.take n)
theorem DtAll.drop : ∀ {vs : List V} {ds : List D} (n : Nat), DtAll w K G vs ds → DtAll w K G (vs.drop n) (ds.drop n)
  | _, _, 0, r => r
  | _, _, _ + 1, .nil => .nil
  | _, _, n + 1, .cons _ t => t.drop n
theorem DtAll.set {v : V} {d : D} (h : Dt w K G v d) : ∀ {vs : List V} {ds : List D} (i : Nat), DtAll w K G vs ds → DtAll w K G (vs.set i v) (ds.set i d)
  | _, _, _, .nil => .nil
  | _, _, 0, .cons _ t => .cons h t
  | _, _, i + 1, .cons q t => .cons q (DtAll.set h i t)
theorem DtAll.one {v : V} {d : D} (h : Dt w K G v d) : DtAll w K G [v] [d] := .cons h .nil
end

/-- the tracked heap grows, and the frozen part in it; what was tracked stays as it was, in both -/
structure Gr (G H G' H' : Hp) : Prop where
  sub : Sub G' H'
  keep : Sub H H'
  fix : ∀ a, H a ≠ none → G' a = G a
theorem Gr.refl {G H : Hp} (s : Sub G H) : Gr G H G H := ⟨s, Sub.refl _, fun _ _ => rfl⟩
theorem Gr.trans {G H G1 H1 G2 H2 : Hp} (a : Gr G H G1 H1) (b : Gr G1 H1 G2 H2) : Gr G H G2 H2 where
  sub := b.sub
  keep := a.keep.trans b.keep
  fix := fun x n => by
    rw [b.fix x fun z => ?_, a.fix x n]
    cases q : H x with
    | none => exact n q
    | some o => rw [a.keep x o q] at z; cases z
theorem Gr.up {G H G' H' : Hp} (g : Gr G H G' H') (s : Sub G H) : Sub G G' := fun a o h => by
  rw [g.fix a fun z => ?_]
  · exact h
  · rw [s a o h] at z; cases z
/-- a new object, frozen at once -/
theorem Gr.new {G H : Hp} {a : Addr} {o : HO} (s : Sub G H) (n : H a = none) : Gr G H (upd G a o) (upd H a o) where
  sub := fun b u h => by
    by_cases e : b = a
    · subst e; rw [upd_same] at h ⊢; exact h
    · rw [upd_ne e] at h ⊢; exact s b u h
  keep := fun b u h => by rw [upd_ne (ne_of_none h n)]; exact h
  fix := fun b h => upd_ne fun e => h (e ▸ n)
/-- a new object, not frozen -/
theorem Gr.own {G H : Hp} {a : Addr} {o : HO} (s : Sub G H) (n : H a = none) : Gr G H G (upd H a o) where
  sub := fun b u h => by rw [upd_ne (ne_of_none (s b u h) n)]; exact s b u h
  keep := fun b u h => by rw [upd_ne (ne_of_none h n)]; exact h
  fix := fun _ _ => rfl
/-- what is new is frozen -/
theorem Gr.frz {G H G' H' : Hp} {a : Addr} {o : HO} (g : Gr G H G' H') (n : H a = none) (h : H' a = some o) : Gr G H (upd G' a o) H' where
  sub := fun b u q => by
    by_cases e : b = a
    · subst e; rw [upd_same] at q; cases q; exact h
    · rw [upd_ne e] at q; exact g.sub b u q
  keep := g.keep
  fix := fun b q => by rw [upd_ne (fun e => q (by rw [e]; exact n))]; exact g.fix b q

theorem Gr.wr {G H G' H' : Hp} {a : Addr} {o : HO} (g : Gr G H G' H') (n : H a = none) (n' : G' a = none) : Gr G H G' (upd H' a o) where
  sub := fun b u q => by rw [upd_ne (ne_of_none q n')]; exact g.sub b u q
  keep := fun b u q => by rw [upd_ne (ne_of_none q n)]; exact g.keep b u q
  fix := g.fix
structure Bas where
  G : Hp
  H : Hp
/-- what stands at a of one's own: a list, a dict -/
def Own (w : World) (K : PySem.W.Frag) (G H : Hp) (a : Addr) (d : D) : Prop :=
  (∃ vs ds, d = .list ds ∧ H a = some (.lst vs) ∧ DtAll w K G vs ds) ∨
  ∃ (o : Obj) (es : Array DictEntry) (ep : Nat) (kvs : List (D × D)), d = .dict kvs ∧ H a = some (dO a o) ∧ (a == sysModules) = false ∧ o.ExactDict ∧ o.data = .dict es ep ∧ DtEs w K G es.toList kvs ∧ (kvs.map (·.1)).Nodup
theorem Own.there {w : World} {K : PySem.W.Frag} {G H : Hp} {a : Addr} {d : D} (o : Own w K G H a d) : ∃ u, H a = some u := by
  rcases o with ⟨_, _, _, h, _⟩ | ⟨_, _, _, _, _, h, _⟩
  · exact ⟨_, h⟩
  · exact ⟨_, h⟩
theorem Own.grow {w : World} {K : PySem.W.Frag} {G H G' H' : Hp} {a : Addr} {d : D} (o : Own w K G H a d) (s : Sub G G') (e : H' a = H a) : Own w K G' H' a d := by
  rcases o with ⟨vs, ds, e1, h, t⟩ | ⟨o, es, ep, kvs, e1, h, q⟩
  · exact .inl ⟨vs, ds, e1, e.trans h, t.sub s⟩
  · exact .inr ⟨o, es, ep, kvs, e1, e.trans h, q.1, q.2.1, q.2.2.1, q.2.2.2.1.sub s, q.2.2.2.2⟩
/-- frozen, it is data -/
theorem Own.dt {w : World} {K : PySem.W.Frag} {G H : Hp} {a : Addr} {d : D} {u : HO} (o : Own w K G H a d) (n : G a = none) (h : H a = some u) : Dt w K (upd G a u) (.ref a) d := by
  have s : Sub G (upd G a u) := fun b v q => by rw [upd_ne (ne_of_none q n)]; exact q
  rcases o with ⟨vs, ds, rfl, h1, t⟩ | ⟨o, es, ep, kvs, rfl, h1, q⟩
  · rw [h1] at h; cases h
    exact .lst (.inl upd_same) (t.sub s)
  · rw [h1] at h; cases h
    exact .dct (.inl upd_same) q.1 q.2.1 q.2.2.1 (q.2.2.2.1.sub s) q.2.2.2.2

/-- slots and heap as the data in ρ say; the slots in O are one's own (they may be written), the others frozen -/
structure Rp (w : World) (K : PySem.W.Frag) (B : Bas) (O : List Nat) (ρ : Env') (σ : L2.St) (G H : Hp) : Prop where
  len : σ.length = ρ.length
  gr : Gr B.G B.H G H
  dat : ∀ (i : Nat) (d : D), ρ[i]? = some (some d) → i ∉ O → ∃ v, σ[i]? = some (some v) ∧ Dt w K G v d
  own : ∀ (i : Nat) (d : D), ρ[i]? = some (some d) → i ∈ O → ∃ a, σ[i]? = some (some (.ref a)) ∧ Own w K G H a d ∧ G a = none ∧ B.H a = none
  sep : ∀ (i j : Nat) (a : Addr) (di dj : D), i ∈ O → j ∈ O → ρ[i]? = some (some di) → ρ[j]? = some (some dj) → σ[i]? = some (some (.ref a)) → σ[j]? = some (some (.ref a)) → i = j
section
variable {w : World} {K : PySem.W.Frag} {B : Bas} {O : List Nat} {ρ : Env'} {σ : L2.St} {G H G' H' : Hp}
theorem Rp.sub (r : Rp w K B O ρ σ G H) : Sub G H := r.gr.sub
theorem Rp.grow (r : Rp w K B O ρ σ G H) (g : Gr G H G' H') : Rp w K B O ρ σ G' H' where
  len := r.len
  gr := r.gr.trans g
  dat := fun i d e n => let ⟨v, h1, h2⟩ := r.dat i d e n; ⟨v, h1, h2.sub (g.up r.sub)⟩
  own := fun i d e n => by
    obtain ⟨a, h1, h2, h3, h4⟩ := r.own i d e n
    obtain ⟨u, hu⟩ := h2.there
    have ne : H a ≠ none := by rw [hu]; exact fun z => nomatch z
    exact ⟨a, h1, h2.grow (g.up r.sub) ((g.keep a u hu).trans hu.symm), (g.fix a ne).trans h3, h4⟩
  sep := r.sep
end
end Vs

set_option Elab.async false
set_option linter.all false
set_option maxRecDepth 100000
/-! Expressions: readings by data, names, constants, operators, comparisons, subscripts, slices, calls. -/
namespace Vs
open PySem PySem.Spec PyProof.Rows L2

abbrev noE : Bas → Nat → D → Prop := fun _ _ _ => False
/-- an expression that gives the datum f ρ -/
def tV (w : World) (K : PySem.W.Frag) (e : Bas → Nat → D → Prop) (O : List Nat) (f : Env' → R D) : TE := fun σ H Q => ∃ B ρ G, Rp w K B O ρ σ G H ∧
  gd (f ρ) (fun d => ∀ v G' H', Gr G H G' H' → Dt w K G' v d → Q v H') (e B)
/-- .. that makes a new list or dict of one's own -/
def tO (w : World) (K : PySem.W.Frag) (e : Bas → Nat → D → Prop) (O : List Nat) (f : Env' → R D) : TE := fun σ H Q => ∃ B ρ G, Rp w K B O ρ σ G H ∧
  gd (f ρ) (fun d => ∀ a G' H', Gr G H G' H' → H a = none → G' a = none → Own w K G' H' a d → Q (.ref a) H') (e B)
def tW (w : World) (K : PySem.W.Frag) (e : Bas → Nat → D → Prop) (O : List Nat) (f : Env' → R Bool) : TT := fun σ H Q => ∃ B ρ G, Rp w K B O ρ σ G H ∧
  gd (f ρ) (fun b => ∀ G' H', Gr G H G' H' → Q b H') (e B)
def tA (w : World) (K : PySem.W.Frag) (e : Bas → Nat → D → Prop) (O : List Nat) (f : Env' → R (List D)) : TA := fun σ H Q => ∃ B ρ G, Rp w K B O ρ σ G H ∧
  gd (f ρ) (fun ds => ∀ vs G' H', Gr G H G' H' → DtAll w K G' vs ds → Q vs H') (e B)

section
variable {X : Cx} {a b : Expr} {es : List Expr} {pos : Pos} {e : Bas → Nat → D → Prop} {O : List Nat} {fa fb : Env' → R D} {fs : Env' → R (List D)} {fw : Env' → R Bool}
theorem pe_imp {t t' : TE} (h : PE X a t) (i : ∀ σ H Q, t' σ H Q → t σ H Q) : PE X a t' := ⟨fun p s σ H Q I q => h.run p s σ H Q I (i σ H Q q)⟩
theorem pt_imp {t t' : TT} (h : PT X a t) (i : ∀ σ H Q, t' σ H Q → t σ H Q) : PT X a t' := ⟨fun p s σ H Q I q => h.run p s σ H Q I (i σ H Q q)⟩
theorem pw_imp {t t' : TT} (h : PW X a t) (i : ∀ σ H Q, t' σ H Q → t σ H Q) : PW X a t' := ⟨fun wh p s σ H Q I q => h.run wh p s σ H Q I (i σ H Q q)⟩
theorem pa_imp {t t' : TA} (h : PA X es t) (i : ∀ σ H Q, t' σ H Q → t σ H Q) : PA X es t' := ⟨fun po p s σ H Q I q => h.run po p s σ H Q I (i σ H Q q)⟩
theorem ps_imp {st : Stmt} {t t' : TS} (h : PS X st t) (i : ∀ Dn σ H, t' Dn σ H → t Dn σ H) : PS X st t' := ⟨fun p s σ H Q I q => h.run p s σ H Q I (i Q σ H q)⟩
theorem pss_imp {st : List Stmt} {t t' : TS} (h : PSs X st t) (i : ∀ Dn σ H, t' Dn σ H → t Dn σ H) : PSs X st t' := ⟨fun p s σ H Q I q => h.run p s σ H Q I (i Q σ H q)⟩
theorem opr_imp {f : Value → Value → Sem Value} {r r' : R2} (h : OpR X f r) (i : ∀ x y H Q, r' x y H Q → r x y H Q) : OpR X f r' := fun p s σ H x y v u Q I a b q => h p s σ H x y v u Q I a b (i x y H Q q)

/-- the meaning told otherwise -/
theorem v_eq {f f' : Env' → R D} (h : PE X a (tV X.w X.K e O f)) (q : f' = f) : PE X a (tV X.w X.K e O f') := q ▸ h

theorem Rp.here {w : World} {K : PySem.W.Frag} {B : Bas} {ρ : Env'} {σ : L2.St} {G H : Hp} (r : Rp w K B O ρ σ G H) : Gr G H G H := Gr.refl r.sub

/-- a name whose slot is not one's own -/
theorem v_nm (i : Nat) {x : Str} {p : Pos} (ho : i ∉ O := by decide) (hN : X.N[i]? = some x := by rfl) (hv : Vis X.env.scope x := by first | exact Or.inl rfl | exact Or.inr (Or.inl rfl) | exact Or.inr (Or.inr rfl)) (hd : (x == ("__debug__" : Str)) = false := by decide)
    (hc : (x == ("__classdict__" : Str)) = false := by decide) : PE X (.Name x p) (tV X.w X.K e O fun ρ => gv ρ i) := by
  refine pe_imp (pv i hN hv hd hc) fun σ H Q h => ?_
  obtain ⟨B, ρ, G, r, h⟩ := h
  have h : gd (gv ρ i) (fun d => ∀ v G' H', Gr G H G' H' → Dt X.w X.K G' v d → Q v H') (e B) := h
  unfold gv at h
  cases q : ρ[i]? with
  | none => rw [q] at h; exact h.elim
  | some o =>
    cases o with
    | none => rw [q] at h; exact h.elim
    | some d =>
      rw [q] at h
      obtain ⟨v, e1, t⟩ := r.dat i d q ho
      exact ⟨v, e1, h v G H r.here t⟩
theorem v_of {d : D} {v : V} (h : PE X a (tC v)) (hd : ∀ G : Hp, Dt X.w X.K G v d) : PE X a (tV X.w X.K e O fun _ => .ok d) :=
  pe_imp h fun σ H Q ⟨B, ρ, G, r, h⟩ => h v G H r.here (hd G)
theorem v_int {i : Int} {j p} : PE X (.Constant (.int i) j p) (tV X.w X.K e O fun _ => .ok (.int i)) := v_of pe_int fun _ => .int i
theorem v_bl {i : Bool} {j p} : PE X (.Constant (.bool i) j p) (tV X.w X.K e O fun _ => .ok (.bool i)) := v_of pe_bl fun _ => .bl i
theorem v_non {j p} : PE X (.Constant .none j p) (tV X.w X.K e O fun _ => .ok .none) := v_of pe_non fun _ => .non
theorem v_str {i : Str} {j p} : PE X (.Constant (.str i) j p) (tV X.w X.K e O fun _ => .ok (.str i)) := v_of pe_str fun _ => .str i
/-- a constant of the module -/
structure Kon (w : World) (K : PySem.W.Frag) (mg : Str → Option Value) (x : Str) (d : D) : Prop where
  ex : ∃ (v : V) (u : Value), mg x = some u ∧ RelV v u ∧ ∀ G : Hp, Dt w K G v d
theorem v_kon {x : Str} {p : Pos} {d : D} (k : Kon X.w X.K X.mg x d) (hg : Gl X x := by rfl) (hd : (x == ("__debug__" : Str)) = false := by decide) : PE X (.Name x p) (tV X.w X.K e O fun _ => .ok d) := by
  obtain ⟨v, u, m, r, t⟩ := k.ex
  exact v_of (pe_glob hg m r hd) t

/-! ### operators -/
def r2 (w : World) (K : PySem.W.Frag) (g : D → D → R D) : R2 := fun x y H Q => ∃ G da db e, Sub G H ∧ Dt w K G x da ∧ Dt w K G y db ∧
  gd (g da db) (fun d => ∀ v G' H', Gr G H G' H' → Dt w K G' v d → Q v H') e
theorem r2_in {e : Nat → D → Prop} {g : D → D → R D} {Q : VK} {G1 H1 G2 H2 : Hp} {x y : V} {da db : D} (g2 : Gr G1 H1 G2 H2) (s1 : Sub G1 H1) (d1 : Dt X.w X.K G1 x da) (d2 : Dt X.w X.K G2 y db)
    (h : gd (g da db) (fun d => ∀ v G' H', Gr G1 H1 G' H' → Dt X.w X.K G' v d → Q v H') e) : r2 X.w X.K g x y H2 Q :=
  ⟨G2, da, db, e, g2.sub, d1.sub (g2.up s1), d2, gd_mono h fun d q v G' H' g3 t => q v G' H' (g2.trans g3) t⟩
theorem two {g : D → D → R D} {σ : L2.St} {H : Hp} {Q : VK} (h : tV X.w X.K e O (fun ρ => fa ρ >>= fun x => fb ρ >>= fun y => g x y) σ H Q) :
    tV X.w X.K e O fa σ H fun x H1 => tV X.w X.K e O fb σ H1 fun y H2 => r2 X.w X.K g x y H2 Q := by
  obtain ⟨B, ρ, G, r, h⟩ := h
  refine ⟨B, ρ, G, r, gd_mono (gd_bind.mp h) fun da h v G1 H1 g1 t1 => ⟨B, ρ, G1, r.grow g1, gd_mono (gd_bind.mp h) fun db h u G2 H2 g2 t2 => ?_⟩⟩
  exact r2_in g2 g1.sub t1 t2 (gd_mono h fun d q v G' H' g3 t => q v G' H' (g1.trans g3) t)
theorem v_op {op : Operator} {g : D → D → R D} (ho : OpR X (binaryOp op) (r2 X.w X.K g)) (ha : PE X a (tV X.w X.K e O fa)) (hb : PE X b (tV X.w X.K e O fb)) :
    PE X (.BinOp a op b pos) (tV X.w X.K e O fun ρ => fa ρ >>= fun x => fb ρ >>= fun y => g x y) := pe_imp (pe_op ho ha hb) fun _ _ _ h => two h
theorem v_cmp {op : CmpOp} {g : D → D → R D} (ho : OpR X (compareOp op) (r2 X.w X.K g)) (ha : PE X a (tV X.w X.K e O fa)) (hb : PE X b (tV X.w X.K e O fb)) (hm : behindInMarks op b = false := by rfl) :
    PE X (.Compare a [op] [b] pos) (tV X.w X.K e O fun ρ => fa ρ >>= fun x => fb ρ >>= fun y => g x y) := pe_imp (pe_cmpR ho ha hb hm) fun _ _ _ h => two h
theorem v_ix {g : D → D → R D} (ho : IxR X (r2 X.w X.K g)) (ha : PE X a (tV X.w X.K e O fa)) (hb : PE X b (tV X.w X.K e O fb)) (hs : PlainIx b := by exact fun _ _ => rfl) :
    PE X (.Subscript a b pos) (tV X.w X.K e O fun ρ => fa ρ >>= fun x => fb ρ >>= fun y => g x y) := pe_imp (pe_ix ho ha hb hs) fun _ _ _ h => two h

/-! ### tests -/
def asB : D → R Bool
  | .bool b => .ok b
  | _ => stk
theorem asB_in {f : Env' → R D} {σ : L2.St} {H : Hp} {Q : Bool → Hp → Prop} (h : tW X.w X.K e O (fun ρ => f ρ >>= asB) σ H Q) : tV X.w X.K e O f σ H fun x H1 => ∃ c, x = .bl c ∧ Q c H1 := by
  obtain ⟨B, ρ, G, r, h⟩ := h
  refine ⟨B, ρ, G, r, gd_mono (gd_bind.mp h) fun d h v G' H' g t => ?_⟩
  cases t with
  | bl c => exact ⟨c, rfl, h G' H' g⟩
  | non => exact h.elim
  | int _ => exact h.elim
  | str _ => exact h.elim
  | lst _ _ => exact h.elim
  | tup _ _ => exact h.elim
  | dct _ _ _ _ _ _ => exact h.elim
  | scr _ _ => exact h.elim
  | exc _ _ => exact h.elim
/-- an expression that gives True or False, as a test -/
theorem w_val (h : PE X a (tV X.w X.K e O fa)) (he : ∀ whole, isTrue a X.env whole = (do let v ← whole; standAt a.pos; holding [v] (truthy v)) := by intro _; rfl) : PT X a (tW X.w X.K e O fun ρ => fa ρ >>= asB) :=
  pt_imp (pt_val h he) fun _ _ _ q => asB_in q
theorem w_cmp {op : CmpOp} {g : D → D → R D} (ho : OpR X (compareOp op) (r2 X.w X.K g)) (ha : PE X a (tV X.w X.K e O fa)) (hb : PE X b (tV X.w X.K e O fb)) (hm : behindInMarks op b = false := by rfl) :
    PT X (.Compare a [op] [b] pos) (tW X.w X.K e O fun ρ => (fa ρ >>= fun x => fb ρ >>= fun y => g x y) >>= asB) := by
  refine pt_imp (pt_cmpR ho ha hb hm) fun σ H Q h => ?_
  exact two (asB_in h)
theorem w_not (h : PT X a (tW X.w X.K e O fw)) : PT X (.UnaryOp .Not a pos) (tW X.w X.K e O fun ρ => fw ρ >>= fun c => .ok (!c)) :=
  pt_imp (pt_not h) fun σ H Q ⟨B, ρ, G, r, q⟩ => ⟨B, ρ, G, r, gd_mono (gd_bind.mp q) fun c z => z⟩
section
variable {rs : List Expr} {fu : Env' → R Bool}
theorem w_and1 (h : PT X a (tW X.w X.K e O fw)) : PW X (.BoolOp .And [a] pos) (tW X.w X.K e O fw) := pw_and1 h
theorem w_or1 (h : PT X a (tW X.w X.K e O fw)) : PW X (.BoolOp .Or [a] pos) (tW X.w X.K e O fw) := pw_or1 h
theorem w_and (h : PT X a (tW X.w X.K e O fw)) (h2 : PW X (.BoolOp .And (b :: rs) pos) (tW X.w X.K e O fu)) : PW X (.BoolOp .And (a :: b :: rs) pos) (tW X.w X.K e O fun ρ => fw ρ >>= fun c => if c then fu ρ else .ok false) := by
  refine pw_imp (pw_and h h2) fun σ H Q ⟨B, ρ, G, r, q⟩ => ⟨B, ρ, G, r, gd_mono (gd_bind.mp q) fun c z G1 H1 g1 => ?_⟩
  cases c with
  | true => exact ⟨B, ρ, G1, r.grow g1, gd_mono z fun c2 z2 G2 H2 g2 => z2 G2 H2 (g1.trans g2)⟩
  | false => exact z G1 H1 g1
theorem w_or (h : PT X a (tW X.w X.K e O fw)) (h2 : PW X (.BoolOp .Or (b :: rs) pos) (tW X.w X.K e O fu)) : PW X (.BoolOp .Or (a :: b :: rs) pos) (tW X.w X.K e O fun ρ => fw ρ >>= fun c => if c then .ok true else fu ρ) := by
  refine pw_imp (pw_or h h2) fun σ H Q ⟨B, ρ, G, r, q⟩ => ⟨B, ρ, G, r, gd_mono (gd_bind.mp q) fun c z G1 H1 g1 => ?_⟩
  cases c with
  | true => exact z G1 H1 g1
  | false => exact ⟨B, ρ, G1, r.grow g1, gd_mono z fun c2 z2 G2 H2 g2 => z2 G2 H2 (g1.trans g2)⟩
/-- .. as values, all but the last True or False -/
theorem v_one {op} (h : PE X a (tV X.w X.K e O fa)) : PE X (.BoolOp op [a] pos) (tV X.w X.K e O fa) := pe_one h
theorem v_and (h : PE X a (tV X.w X.K e O fa)) (h2 : PE X (.BoolOp .And (b :: rs) pos) (tV X.w X.K e O fb)) : PE X (.BoolOp .And (a :: b :: rs) pos) (tV X.w X.K e O fun ρ => (fa ρ >>= asB) >>= fun c => if c then fb ρ else .ok (.bool false)) := by
  refine pe_imp (pe_and h h2) fun σ H Q ⟨B, ρ, G, r, q⟩ => asB_in ⟨B, ρ, G, r, gd_mono (gd_bind.mp q) fun c z G1 H1 g1 => ?_⟩
  cases c with
  | true => exact ⟨B, ρ, G1, r.grow g1, gd_mono z fun d z2 v G2 H2 g2 t => z2 v G2 H2 (g1.trans g2) t⟩
  | false => exact z _ G1 H1 g1 (.bl false)
theorem v_or (h : PE X a (tV X.w X.K e O fa)) (h2 : PE X (.BoolOp .Or (b :: rs) pos) (tV X.w X.K e O fb)) : PE X (.BoolOp .Or (a :: b :: rs) pos) (tV X.w X.K e O fun ρ => (fa ρ >>= asB) >>= fun c => if c then .ok (.bool true) else fb ρ) := by
  refine pe_imp (pe_or h h2) fun σ H Q ⟨B, ρ, G, r, q⟩ => asB_in ⟨B, ρ, G, r, gd_mono (gd_bind.mp q) fun c z G1 H1 g1 => ?_⟩
  cases c with
  | true => exact z _ G1 H1 g1 (.bl true)
  | false => exact ⟨B, ρ, G1, r.grow g1, gd_mono z fun d z2 v G2 H2 g2 t => z2 v G2 H2 (g1.trans g2) t⟩
theorem v_not (h : PE X a (tV X.w X.K e O fa)) : PE X (.UnaryOp .Not a pos) (tV X.w X.K e O fun ρ => (fa ρ >>= asB) >>= fun c => .ok (.bool (!c))) := by
  refine pe_imp (pe_not h) fun σ H Q ⟨B, ρ, G, r, q⟩ => asB_in ⟨B, ρ, G, r, gd_mono (gd_bind.mp q) fun c z G1 H1 g1 => z _ G1 H1 g1 (.bl _)⟩
end
theorem v_if {c : Expr} (hc : PT X c (tW X.w X.K e O fw)) (ha : PE X a (tV X.w X.K e O fa)) (hb : PE X b (tV X.w X.K e O fb)) : PE X (.IfExp c a b pos) (tV X.w X.K e O fun ρ => fw ρ >>= fun k => if k then fa ρ else fb ρ) := by
  refine pe_imp (pe_ifExp hc ha hb) fun σ H Q ⟨B, ρ, G, r, q⟩ => ⟨B, ρ, G, r, gd_mono (gd_bind.mp q) fun k z G1 H1 g1 => ?_⟩
  cases k with
  | true => exact iteT ⟨B, ρ, G1, r.grow g1, gd_mono z fun d z2 v G2 H2 g2 t => z2 v G2 H2 (g1.trans g2) t⟩
  | false => exact iteF ⟨B, ρ, G1, r.grow g1, gd_mono z fun d z2 v G2 H2 g2 t => z2 v G2 H2 (g1.trans g2) t⟩

/-! ### what a slot of one's own says, where nothing of it is kept -/
def scalar : D → Bool
  | .none | .bool _ | .int _ | .str _ => true
  | _ => false
theorem Dt.scal {w : World} {K : PySem.W.Frag} {G G' : Hp} {v : V} {d : D} (t : Dt w K G v d) (h : scalar d = true) : Dt w K G' v d := by
  cases t with
  | non => exact .non
  | bl b => exact .bl b
  | int i => exact .int i
  | str x => exact .str x
  | lst _ _ => exact nomatch h
  | tup _ _ => exact nomatch h
  | dct _ _ _ _ _ _ => exact nomatch h
  | scr _ _ => exact nomatch h
  | exc _ _ => exact nomatch h
/-- all slots frozen, for the time of one look -/
theorem Rp.allFrz {w : World} {K : PySem.W.Frag} {B : Bas} {ρ : Env'} {σ : L2.St} {G H : Hp} (r : Rp w K B O ρ σ G H) : ∃ G1, Sub G G1 ∧ Rp w K ⟨G1, H⟩ [] ρ σ G1 H := by
  -- every tracked list or dict is frozen
  refine ⟨H, r.sub, r.len, ⟨Sub.refl _, Sub.refl _, fun _ _ => rfl⟩, fun i d e _ => ?_, (fun _ _ _ z => nomatch z), (fun _ _ _ _ _ z => nomatch z)⟩
  by_cases hi : i ∈ O
  · obtain ⟨a, h1, h2, h3, h4⟩ := r.own i d e hi
    obtain ⟨u, hu⟩ := h2.there
    refine ⟨_, h1, (h2.dt h3 hu).sub fun b o q => ?_⟩
    by_cases hb : b = a
    · subst hb; rw [upd_same] at q; cases q; exact hu
    · rw [upd_ne hb] at q; exact r.sub b o q
  · obtain ⟨v, h1, h2⟩ := r.dat i d e hi
    exact ⟨v, h1, h2.sub r.sub⟩
def asS : D → R D
  | .none => .ok .none
  | .bool b => .ok (.bool b)
  | .int i => .ok (.int i)
  | .str x => .ok (.str x)
  | _ => stk
theorem asS_eq {e : Nat → D → Prop} {d : D} {q : D → Prop} (h : gd (asS d) q e) : scalar d = true ∧ q d := by
  cases d <;> first | exact ⟨rfl, h⟩ | exact h.elim
theorem v_look (h : PE X a (tV X.w X.K noE [] fa)) : PE X a (tV X.w X.K noE O fun ρ => fa ρ >>= asS) := by
  refine pe_imp h fun σ H Q ⟨B, ρ, G, r, q⟩ => ?_
  obtain ⟨G1, s1, r1⟩ := r.allFrz
  refine ⟨_, ρ, G1, r1, gd_mono (gd_bind.mp q) fun d z v G2 H2 g2 t => ?_⟩
  obtain ⟨sc, z⟩ := asS_eq z
  exact z v G H2 ⟨r.sub.trans g2.keep, g2.keep, fun _ _ => rfl⟩ (t.scal sc)
theorem w_look (h : PT X a (tW X.w X.K noE [] fw)) : PT X a (tW X.w X.K noE O fw) := by
  refine pt_imp h fun σ H Q ⟨B, ρ, G, r, q⟩ => ?_
  obtain ⟨G1, s1, r1⟩ := r.allFrz
  exact ⟨_, ρ, G1, r1, gd_mono q fun d z G2 H2 g2 => z G H2 ⟨r.sub.trans g2.keep, g2.keep, fun _ _ => rfl⟩⟩

/-! ### argument lists, displays -/
theorem a_nil : PA X [] (tA X.w X.K e O fun _ => .ok []) := pa_imp pa_nil fun σ H Q ⟨B, ρ, G, r, q⟩ => q [] G H r.here .nil
theorem a_cons (ha : PE X a (tV X.w X.K e O fa)) (hs : PA X es (tA X.w X.K e O fs)) (h : starEach (a :: es) X.env = (false, eval a X.env) :: starEach es X.env := by rfl) :
    PA X (a :: es) (tA X.w X.K e O fun ρ => fa ρ >>= fun x => fs ρ >>= fun xs => .ok (x :: xs)) :=
  pa_imp (pa_cons ha hs h) fun σ H Q ⟨B, ρ, G, r, q⟩ => ⟨B, ρ, G, r, gd_mono (gd_bind.mp q) fun x q v G1 H1 g1 t1 => ⟨B, ρ, G1, r.grow g1, gd_mono (gd_bind.mp q) fun xs q vs G2 H2 g2 t2 =>
    q (v :: vs) G2 H2 (g1.trans g2) (.cons (t1.sub (g2.up g1.sub)) t2)⟩⟩
def lenOk (n : Nat) : R Unit := if n ≤ 16777216 then .ok () else stk
theorem lenOk_in {e : Nat → D → Prop} {n : Nat} {q : Unit → Prop} (h : gd (lenOk n) q e) : n ≤ sizeLine ∧ q () := by
  unfold lenOk at h
  split at h
  · rename_i hn; exact ⟨by rw [sizeLine_eq]; exact hn, h⟩
  · exact h.elim
theorem v_tup {k} (hs : PA X es (tA X.w X.K e O fs)) : PE X (.Tuple es k pos) (tV X.w X.K e O fun ρ => fs ρ >>= fun xs => lenOk xs.length >>= fun _ => .ok (.tuple xs)) :=
  pe_imp (pe_tup hs) fun σ H Q ⟨B, ρ, G, r, q⟩ => ⟨B, ρ, G, r, gd_mono (gd_bind.mp q) fun xs q vs G1 H1 g1 t => by
    obtain ⟨hl, q⟩ := lenOk_in (gd_bind.mp q)
    refine ⟨by rw [t.length]; exact hl, fun p np => ?_⟩
    have g2 := Gr.new (o := .tup vs) g1.sub np
    exact q _ _ _ (g1.trans g2) (.tup (.inl (.inl upd_same)) (t.sub (g2.up g1.sub)))⟩
theorem o_lst (hs : PA X es (tA X.w X.K e O fs)) : PE X (.List es pos) (tO X.w X.K e O fun ρ => fs ρ >>= fun xs => lenOk xs.length >>= fun _ => .ok (.list xs)) :=
  pe_imp (pe_lst hs) fun σ H Q ⟨B, ρ, G, r, q⟩ => ⟨B, ρ, G, r, gd_mono (gd_bind.mp q) fun xs q vs G1 H1 g1 t => by
    obtain ⟨hl, q⟩ := lenOk_in (gd_bind.mp q)
    refine ⟨by rw [t.length]; exact hl, fun p np => ?_⟩
    have hn : H p = none := by
      cases z : H p with
      | none => rfl
      | some o => rw [g1.keep p o z] at np; cases np
    refine q p G1 _ (g1.trans (Gr.own g1.sub np)) hn ?_ (.inl ⟨vs, xs, rfl, upd_same, t⟩)
    cases z : G1 p with
    | none => rfl
    | some o => rw [g1.sub p o z] at np; cases np⟩
theorem v_own (h : PE X a (tO X.w X.K e O fa)) : PE X a (tV X.w X.K e O fa) := by
  refine pe_imp h fun σ H Q ⟨B, ρ, G, r, q⟩ => ⟨B, ρ, G, r, gd_mono q fun d z p G1 H1 g1 n1 n2 o => ?_⟩
  obtain ⟨u, hu⟩ := o.there
  exact z (.ref p) _ H1 (g1.frz n1 hu) (o.dt n2 hu)
theorem v_lst (hs : PA X es (tA X.w X.K e O fs)) : PE X (.List es pos) (tV X.w X.K e O fun ρ => fs ρ >>= fun xs => lenOk xs.length >>= fun _ => .ok (.list xs)) := v_own (o_lst hs)

/-! ### slices -/
def asI : D → R Int
  | .int i => .ok i
  | _ => stk
def rS (w : World) (K : PySem.W.Frag) (g : D → Option Int → Option Int → R D) : V → Option Int → Option Int → Hp → VK → Prop := fun x lo hi H Q => ∃ G da e, Sub G H ∧ Dt w K G x da ∧
  gd (g da lo hi) (fun d => ∀ v G' H', Gr G H G' H' → Dt w K G' v d → Q v H') e
def tP (w : World) (K : PySem.W.Frag) (e : Bas → Nat → D → Prop) (O : List Nat) (f : Env' → R (Option Int)) : TO := fun σ H Q => ∃ B ρ G, Rp w K B O ρ σ G H ∧
  gd (f ρ) (fun o => ∀ G' H', Gr G H G' H' → Q o H') (e B)
theorem po_imp {o : Option Expr} {t t' : TO} (h : PO X o t) (i : ∀ σ H Q, t' σ H Q → t σ H Q) : PO X o t' := ⟨fun p s σ H Q I q => h.run p s σ H Q I (i σ H Q q)⟩
theorem p_no : PO X none (tP X.w X.K e O fun _ => .ok none) := po_imp po_none fun σ H Q ⟨B, ρ, G, r, q⟩ => q G H r.here
theorem asI_in {e : Nat → D → Prop} {d : D} {v : V} {G : Hp} {q : Int → Prop} (t : Dt X.w X.K G v d) (h : gd (asI d) q e) : ∃ i, v = .int i ∧ q i := by
  cases t with
  | int i => exact ⟨i, rfl, h⟩
  | non => exact h.elim
  | bl _ => exact h.elim
  | str _ => exact h.elim
  | lst _ _ => exact h.elim
  | tup _ _ => exact h.elim
  | dct _ _ _ _ _ _ => exact h.elim
  | scr _ _ => exact h.elim
  | exc _ _ => exact h.elim
theorem p_so (h : PE X a (tV X.w X.K e O fa)) : PO X (some a) (tP X.w X.K e O fun ρ => fa ρ >>= fun d => asI d >>= fun i => .ok (some i)) :=
  po_imp (po_some h) fun σ H Q ⟨B, ρ, G, r, q⟩ => ⟨B, ρ, G, r, gd_mono (gd_bind.mp q) fun d z v G1 H1 g1 t => by
    obtain ⟨i, rfl, z⟩ := asI_in t (gd_bind.mp z)
    exact ⟨i, rfl, z G1 H1 g1⟩⟩
theorem v_sl {lo hi : Option Expr} {fl fh : Env' → R (Option Int)} {p2 : Pos} {g : D → Option Int → Option Int → R D} (hr : SlR X (rS X.w X.K g)) (ha : PE X a (tV X.w X.K e O fa)) (hl : PO X lo (tP X.w X.K e O fl)) (hh : PO X hi (tP X.w X.K e O fh)) :
    PE X (.Subscript a (.Slice lo hi none p2) pos) (tV X.w X.K e O fun ρ => fa ρ >>= fun x => fl ρ >>= fun l => fh ρ >>= fun h => g x l h) :=
  pe_imp (pe_slice hr ha hl hh) fun σ H Q ⟨B, ρ, G, r, q⟩ => ⟨B, ρ, G, r, gd_mono (gd_bind.mp q) fun x q v G1 H1 g1 t1 => ⟨B, ρ, G1, r.grow g1, gd_mono (gd_bind.mp q) fun l q G2 H2 g2 => ⟨B, ρ, G2, (r.grow g1).grow g2,
    gd_mono (gd_bind.mp q) fun h q G3 H3 g3 => ⟨G3, x, e B, g3.sub, t1.sub ((g2.trans g3).up g1.sub), gd_mono q fun d q v G' H' g4 t => q v G' H' (((g1.trans g2).trans g3).trans g4) t⟩⟩⟩⟩

/-! ### calls of built-ins by value -/
def rC (w : World) (K : PySem.W.Frag) (g : List D → R D) : List V → Hp → VK → Prop := fun xs H Q => ∃ G ds e, Sub G H ∧ DtAll w K G xs ds ∧
  gd (g ds) (fun d => ∀ v G' H', Gr G H G' H' → Dt w K G' v d → Q v H') e
def rCo (w : World) (K : PySem.W.Frag) (g : List D → R D) : List V → Hp → VK → Prop := fun xs H Q => ∃ G ds e, Sub G H ∧ DtAll w K G xs ds ∧
  gd (g ds) (fun d => ∀ a G' H', Gr G H G' H' → H a = none → G' a = none → Own w K G' H' a d → Q (.ref a) H') e
theorem callr_imp {f : Value} {r r' : List V → Hp → VK → Prop} (h : CallR X f r) (i : ∀ x H Q, r' x H Q → r x H Q) : CallR X f r' := fun p s σ H x u Q I a q => h p s σ H x u Q I a (i x H Q q)
theorem args {g : List D → R D} {σ : L2.St} {H : Hp} {Q : VK} (h : tV X.w X.K e O (fun ρ => fs ρ >>= g) σ H Q) : tA X.w X.K e O fs σ H fun vs H1 => rC X.w X.K g vs H1 Q := by
  obtain ⟨B, ρ, G, r, h⟩ := h
  exact ⟨B, ρ, G, r, gd_mono (gd_bind.mp h) fun ds h vs G1 H1 g1 t => ⟨G1, ds, e B, g1.sub, t, gd_mono h fun d q v G' H' g2 t => q v G' H' (g1.trans g2) t⟩⟩
theorem argsO {g : List D → R D} {σ : L2.St} {H : Hp} {Q : VK} (h : tO X.w X.K e O (fun ρ => fs ρ >>= g) σ H Q) : tA X.w X.K e O fs σ H fun vs H1 => rCo X.w X.K g vs H1 Q := by
  obtain ⟨B, ρ, G, r, h⟩ := h
  refine ⟨B, ρ, G, r, gd_mono (gd_bind.mp h) fun ds h vs G1 H1 g1 t => ⟨G1, ds, e B, g1.sub, t, gd_mono h fun d q a G' H' g2 n t => q a G' H' (g1.trans g2) ?_ t⟩⟩
  cases z : H a with
  | none => rfl
  | some o => rw [g1.keep a o z] at n; cases n
section
variable {x : Str} {p : Pos} {id T : String} {g : List D → R D}
theorem v_cb (hc : CallR X (.builtin id) (rC X.w X.K g)) (hm : X.mg x = none) (hs : PA X (a :: es) (tA X.w X.K e O fs)) (hv : bootBuiltins x = some (.builtin id) := by decide +kernel) (hg : Gl X x := by rfl) (hn : x ≠ "__name__" := by decide) (hdb : (x == ("__debug__" : Str)) = false := by decide)
    (he : starEach (a :: es) X.env = (false, eval a X.env) :: starEach es X.env := by rfl) (hpl : (backTo pos (starEach es X.env)).any (·.1) = false := by rfl) : PE X (.Call (.Name x p) (a :: es) [] pos) (tV X.w X.K e O fun ρ => fs ρ >>= g) :=
  pe_imp (pe_callB hc hg hm hv hs hn hdb he hpl) fun _ _ _ h => args h
theorem o_cb (hc : CallR X (.builtin id) (rCo X.w X.K g)) (hm : X.mg x = none) (hs : PA X (a :: es) (tA X.w X.K e O fs)) (hv : bootBuiltins x = some (.builtin id) := by decide +kernel) (hg : Gl X x := by rfl) (hn : x ≠ "__name__" := by decide) (hdb : (x == ("__debug__" : Str)) = false := by decide)
    (he : starEach (a :: es) X.env = (false, eval a X.env) :: starEach es X.env := by rfl) (hpl : (backTo pos (starEach es X.env)).any (·.1) = false := by rfl) : PE X (.Call (.Name x p) (a :: es) [] pos) (tO X.w X.K e O fun ρ => fs ρ >>= g) :=
  pe_imp (pe_callB hc hg hm hv hs hn hdb he hpl) fun _ _ _ h => argsO h
theorem v_ct (hc : CallR X (.type T) (rC X.w X.K g)) (hm : X.mg x = none) (hs : PA X (a :: es) (tA X.w X.K e O fs)) (hv : bootBuiltins x = some (.type T) := by decide +kernel) (hg : Gl X x := by rfl) (hn : x ≠ "__name__" := by decide) (hdb : (x == ("__debug__" : Str)) = false := by decide)
    (he : starEach (a :: es) X.env = (false, eval a X.env) :: starEach es X.env := by rfl) (hpl : (backTo pos (starEach es X.env)).any (·.1) = false := by rfl) : PE X (.Call (.Name x p) (a :: es) [] pos) (tV X.w X.K e O fun ρ => fs ρ >>= g) :=
  pe_imp (pe_callTy hc hg hm hv hs hn hdb he hpl) fun _ _ _ h => args h
theorem o_ct (hc : CallR X (.type T) (rCo X.w X.K g)) (hm : X.mg x = none) (hs : PA X (a :: es) (tA X.w X.K e O fs)) (hv : bootBuiltins x = some (.type T) := by decide +kernel) (hg : Gl X x := by rfl) (hn : x ≠ "__name__" := by decide) (hdb : (x == ("__debug__" : Str)) = false := by decide)
    (he : starEach (a :: es) X.env = (false, eval a X.env) :: starEach es X.env := by rfl) (hpl : (backTo pos (starEach es X.env)).any (·.1) = false := by rfl) : PE X (.Call (.Name x p) (a :: es) [] pos) (tO X.w X.K e O fun ρ => fs ρ >>= g) :=
  pe_imp (pe_callTy hc hg hm hv hs hn hdb he hpl) fun _ _ _ h => argsO h
end

/-! ### calls of defs -/
/-- the promise of a def: from frozen data it gives f's datum, frozen (fr: a new list or dict of one's own) -/
def Back (w : World) (K : PySem.W.Frag) (fr : Bool) (G H G' H' : Hp) (v : V) (d : D) : Prop := Gr G H G' H' ∧
  match fr with
  | true => ∃ a, v = .ref a ∧ H a = none ∧ G' a = none ∧ Own w K G' H' a d
  | false => Dt w K G' v d
def fnD (n : Nat) (f : List D → R D) (ds : List D) : R D := if ds.length = n then f ds else stk
def spD (w : World) (K : PySem.W.Frag) (cl : Nat → Addr) (n : Nat) (fr : Bool) (f : List D → R D) : Sp := fun vs H Q E => ∃ ds G, Sub G H ∧ DtAll w K G vs ds ∧
  gd (fnD n f ds) (fun d => ∀ v G' H', Back w K fr G H G' H' v d → Q v H') fun c d => ∀ v G' H' dd, Gr G H G' H' → H dd = none → Dt w K G' v d → H' dd = some (.xd [("at", v)]) → E (.ref (cl c)) (some dd) H'
/-- the global x is such a def -/
structure Cal (P : Program) (w : World) (K : PySem.W.Frag) (mg : Str → Option Value) (base : Heap) (CX : CXT) (cl : Nat → Addr) (k : Nat) (x : Str) (n : Nat) (fr : Bool) (f : List D → R D) : Prop where
  ex : ∃ (a : Addr) (fd : FuncData) (ps : List Str), FnOk P w K mg base CX k a fd ps (spD w K cl n fr f) ∧ mg x = some (.ref a) ∧ PySem.W.keepIn K (.ref a) = true ∧ Binds K fd ps []
section
variable {CX : CXT} {cl : Nat → Addr} {k j n : Nat} {x : Str} {p : Pos} {f : List D → R D} {E : XK}
theorem none_of_keep {H H' : Hp} {a : Addr} (k : Sub H H') (n : H' a = none) : H a = none := by
  cases z : H a with
  | none => rfl
  | some o => rw [k a o z] at n; cases n
/-- what is wished of an error, as the callee's E -/
def Wish (e : Bas → Nat → D → Prop) (w : World) (K : PySem.W.Frag) (cl : Nat → Addr) (E : XK) : Prop := ∀ B c d, e B c d → ∀ v G' H' dd, Gr B.G B.H G' H' → B.H dd = none → Dt w K G' v d → H' dd = some (.xd [("at", v)]) → E (.ref (cl c)) (some dd) H'
theorem v_fn (C : Cal X.prog X.w X.K X.mg X.base CX cl k x n false f) (hr : Room j X.A) (hx : Passes CX X E) (hw : Wish e X.w X.K cl E) (hs : PA X (a :: es) (tA X.w X.K e O fs)) (hk : k ≤ j := by decide) (hg : Gl X x := by rfl) (hdb : (x == ("__debug__" : Str)) = false := by decide)
    (he : starEach (a :: es) X.env = (false, eval a X.env) :: starEach es X.env := by rfl) (hpl : (backTo pos (starEach es X.env)).any (·.1) = false := by rfl) : PE X (.Call (.Name x p) (a :: es) [] pos) (tV X.w X.K e O fun ρ => fs ρ >>= fnD n f) := by
  obtain ⟨fa, fd, ps, F, m, kp, b⟩ := C.ex
  refine pe_imp (pe_call F (hr.mono hk) hg m kp b .nil hx hs hdb he hpl) fun σ H Q ⟨B, ρ, G, r, q⟩ => ⟨B, ρ, G, r, gd_mono (gd_bind.mp q) fun ds q vs G1 H1 g1 t => ?_⟩
  refine ⟨ds, G1, g1.sub, by rw [List.append_nil]; exact t, gd_mono2 q (fun d q v G2 H2 bk => q v G2 H2 (g1.trans bk.1) bk.2) fun c d h v G' H' dd g' n' t' h' => hw B c d h v G' H' dd ((r.gr.trans g1).trans g') (none_of_keep (r.gr.trans g1).keep n') t' h'⟩
theorem o_fn (C : Cal X.prog X.w X.K X.mg X.base CX cl k x n true f) (hr : Room j X.A) (hx : Passes CX X E) (hw : Wish e X.w X.K cl E) (hs : PA X (a :: es) (tA X.w X.K e O fs)) (hk : k ≤ j := by decide) (hg : Gl X x := by rfl) (hdb : (x == ("__debug__" : Str)) = false := by decide)
    (he : starEach (a :: es) X.env = (false, eval a X.env) :: starEach es X.env := by rfl) (hpl : (backTo pos (starEach es X.env)).any (·.1) = false := by rfl) : PE X (.Call (.Name x p) (a :: es) [] pos) (tO X.w X.K e O fun ρ => fs ρ >>= fnD n f) := by
  obtain ⟨fa, fd, ps, F, m, kp, b⟩ := C.ex
  refine pe_imp (pe_call F (hr.mono hk) hg m kp b .nil hx hs hdb he hpl) fun σ H Q ⟨B, ρ, G, r, q⟩ => ⟨B, ρ, G, r, gd_mono (gd_bind.mp q) fun ds q vs G1 H1 g1 t => ?_⟩
  refine ⟨ds, G1, g1.sub, by rw [List.append_nil]; exact t, gd_mono2 q (fun d q v G2 H2 bk => ?_) fun c d h v G' H' dd g' n' t' h' => hw B c d h v G' H' dd ((r.gr.trans g1).trans g') (none_of_keep (r.gr.trans g1).keep n') t' h'⟩
  obtain ⟨g2, a, rfl, n1, n2, o⟩ := bk
  refine q a G2 H2 (g1.trans g2) ?_ n2 o
  cases z : H a with
  | none => rfl
  | some u => rw [g1.keep a u z] at n1; cases n1
end
end
end Vs

set_option Elab.async false
set_option linter.all false
set_option maxRecDepth 100000
/-! Targets, walks, statements, loops, comprehensions, a def's rule. -/
namespace Vs
open PySem PySem.Spec PyProof.Rows L2

/-! ### slots stored, frozen -/
section
variable {w : World} {K : PySem.W.Frag} {B : Bas} {O O' : List Nat} {ρ : Env'} {σ : L2.St} {G H : Hp} {i : Nat} {d : D} {v : V}
theorem get_set {α : Type} {l : List α} {i j : Nat} {x y : α} (h : (l.set i x)[j]? = some y) : (j = i ∧ y = x ∧ i < l.length) ∨ (j ≠ i ∧ l[j]? = some y) := by
  by_cases e : j = i
  · subst e
    by_cases hl : j < l.length
    · rw [List.getElem?_set_self hl] at h
      exact .inl ⟨rfl, (Option.some.inj h).symm, hl⟩
    · rw [List.getElem?_eq_none (by rw [List.length_set]; omega)] at h
      cases h
  · rw [List.getElem?_set_ne (Ne.symm e)] at h
    exact .inr ⟨e, h⟩
/-- the slot i gets frozen data -/
theorem Rp.put (r : Rp w K B O ρ σ G H) (t : Dt w K G v d) (h1 : ∀ j ∈ O', j ∈ O ∧ j ≠ i) (h2 : ∀ j ∈ O, j = i ∨ j ∈ O') : Rp w K B O' (ρ.set i (some d)) (σ.set i (some v)) G H where
  len := by rw [List.length_set, List.length_set]; exact r.len
  gr := r.gr
  dat := fun j dj e n => by
    rcases get_set e with ⟨rfl, e2, hl⟩ | ⟨ne, e2⟩
    · cases e2
      exact ⟨v, List.getElem?_set_self (by rw [r.len]; exact hl), t⟩
    · obtain ⟨u, q1, q2⟩ := r.dat j dj e2 fun hj => (h2 j hj).elim ne n
      exact ⟨u, by rw [List.getElem?_set_ne (Ne.symm ne)]; exact q1, q2⟩
  own := fun j dj e hj => by
    obtain ⟨ho, ne⟩ := h1 j hj
    rcases get_set e with ⟨e2, _, _⟩ | ⟨_, e2⟩
    · exact absurd e2 ne
    · obtain ⟨a, q1, q2⟩ := r.own j dj e2 ho
      exact ⟨a, by rw [List.getElem?_set_ne (Ne.symm ne)]; exact q1, q2⟩
  sep := fun j k a dj dk hj hk e1 e2 s1 s2 => by
    obtain ⟨o1, n1⟩ := h1 j hj
    obtain ⟨o2, n2⟩ := h1 k hk
    rw [List.getElem?_set_ne (Ne.symm n1)] at e1 s1
    rw [List.getElem?_set_ne (Ne.symm n2)] at e2 s2
    exact r.sep j k a dj dk o1 o2 e1 e2 s1 s2
/-- the slot i gets a new object of one's own -/
theorem Rp.putO {G' H' : Hp} {a : Addr} (r : Rp w K B O ρ σ G H) (g : Gr G H G' H') (n1 : H a = none) (n2 : G' a = none) (o : Own w K G' H' a d) (h0 : i ∈ O') (h1 : ∀ j ∈ O', j = i ∨ j ∈ O) (h2 : ∀ j ∈ O, j = i ∨ j ∈ O') :
    Rp w K B O' (ρ.set i (some d)) (σ.set i (some (.ref a))) G' H' where
  len := by rw [List.length_set, List.length_set]; exact r.len
  gr := r.gr.trans g
  dat := fun j dj e n => by
    rcases get_set e with ⟨rfl, e2, hl⟩ | ⟨ne, e2⟩
    · exact absurd h0 n
    · obtain ⟨u, q1, q2⟩ := (r.grow g).dat j dj e2 fun hj => (h2 j hj).elim ne n
      exact ⟨u, by rw [List.getElem?_set_ne (Ne.symm ne)]; exact q1, q2⟩
  own := fun j dj e hj => by
    rcases get_set e with ⟨rfl, e2, hl⟩ | ⟨ne, e2⟩
    · cases e2
      refine ⟨a, List.getElem?_set_self (by rw [r.len]; exact hl), o, n2, ?_⟩
      cases z : B.H a with
      | none => rfl
      | some u => rw [r.gr.keep a u z] at n1; cases n1
    · obtain ⟨b, q1, q2⟩ := (r.grow g).own j dj e2 ((h1 j hj).resolve_left ne)
      exact ⟨b, by rw [List.getElem?_set_ne (Ne.symm ne)]; exact q1, q2⟩
  sep := fun j k b dj dk hj hk e1 e2 s1 s2 => by
    have apart : ∀ (k : Nat) (dk : D), k ∈ O → ρ[k]? = some (some dk) → σ[k]? ≠ some (some (.ref a)) := fun k dk hk e z => by
      obtain ⟨c, q1, q2, _⟩ := r.own k dk e hk
      rw [z] at q1; cases q1
      obtain ⟨u, hu⟩ := q2.there
      rw [hu] at n1; cases n1
    rcases get_set e1 with ⟨z1, _, hl⟩ | ⟨ne1, f1⟩
    · rw [z1, List.getElem?_set_self (by rw [r.len]; exact hl)] at s1
      cases s1
      rcases get_set e2 with ⟨z2, _, _⟩ | ⟨ne2, f2⟩
      · rw [z1, z2]
      · rw [List.getElem?_set_ne (Ne.symm ne2)] at s2
        exact absurd s2 (apart k dk ((h1 k hk).resolve_left ne2) f2)
    · rw [List.getElem?_set_ne (Ne.symm ne1)] at s1
      rcases get_set e2 with ⟨z2, _, hl⟩ | ⟨ne2, f2⟩
      · rw [z2, List.getElem?_set_self (by rw [r.len]; exact hl)] at s2
        cases s2
        exact absurd s1 (apart j dj ((h1 j hj).resolve_left ne1) f1)
      · rw [List.getElem?_set_ne (Ne.symm ne2)] at s2
        exact r.sep j k b dj dk ((h1 j hj).resolve_left ne1) ((h1 k hk).resolve_left ne2) f1 f2 s1 s2
/-- an object of one's own is written -/
theorem Rp.wr {o : HO} {a : Addr} {d0 : D} (r : Rp w K B O ρ σ G H) (hi : i ∈ O) (e : ρ[i]? = some (some d0)) (s : σ[i]? = some (some (.ref a))) (q : Own w K G (upd H a o) a d) : Rp w K B O (ρ.set i (some d)) σ G (upd H a o) := by
  have sp := r.own i d0 e hi
  obtain ⟨a', s', o0, ng, nb⟩ := sp
  rw [s] at s'; cases s'
  have hl : i < ρ.length := (List.getElem?_eq_some_iff.mp e).1
  refine ⟨by rw [List.length_set]; exact r.len, ⟨fun b u z => ?_, fun b u z => ?_, r.gr.fix⟩, fun j dj ej n => ?_, fun j dj ej hj => ?_, fun j k b dj dk hj hk e1 e2 s1 s2 => ?_⟩
  · rw [upd_ne (ne_of_none z ng)]; exact r.sub b u z
  · rw [upd_ne (ne_of_none z nb)]; exact r.gr.keep b u z
  · rcases get_set ej with ⟨rfl, _, _⟩ | ⟨ne, ej⟩
    · exact absurd hi n
    · exact r.dat j dj ej n
  · rcases get_set ej with ⟨rfl, e2, _⟩ | ⟨ne, ej⟩
    · cases e2; exact ⟨a, s, q, ng, nb⟩
    · obtain ⟨b, q1, q2, q3⟩ := r.own j dj ej hj
      have nb' : b ≠ a := fun z => by subst z; exact ne (r.sep j i b dj d0 hj hi ej e q1 s)
      exact ⟨b, q1, q2.grow (Sub.refl _) (upd_ne nb'), q3⟩
  · have at_ : ∀ {k : Nat} {dk : D}, (ρ.set i (some d))[k]? = some (some dk) → ∃ dk', ρ[k]? = some (some dk') := fun {k dk} z => by
      rcases get_set z with ⟨rfl, _, _⟩ | ⟨_, z⟩
      · exact ⟨_, e⟩
      · exact ⟨_, z⟩
    obtain ⟨x1, e1⟩ := at_ e1
    obtain ⟨x2, e2⟩ := at_ e2
    exact r.sep j k b x1 x2 hj hk e1 e2 s1 s2
/-- one slot is frozen -/
theorem Rp.frz1 (r : Rp w K B O ρ σ G H) (i : Nat) : ∃ G', Sub G G' ∧ Rp w K B (O.filter fun j => decide (j ≠ i)) ρ σ G' H := by
  have mem : ∀ {j}, j ∈ (O.filter fun j => decide (j ≠ i)) ↔ j ∈ O ∧ j ≠ i := fun {j} => by rw [List.mem_filter, decide_eq_true_eq]
  by_cases hi : i ∈ O
  · cases e : ρ[i]? with
    | none => exact ⟨G, Sub.refl _, r.len, r.gr, fun j dj ej n => r.dat j dj ej fun hj => n (mem.mpr ⟨hj, fun z => by subst z; rw [e] at ej; cases ej⟩), fun j dj ej hj => r.own j dj ej (mem.mp hj).1, fun j k b dj dk hj hk => r.sep j k b dj dk (mem.mp hj).1 (mem.mp hk).1⟩
    | some od =>
      cases od with
      | none => exact ⟨G, Sub.refl _, r.len, r.gr, fun j dj ej n => r.dat j dj ej fun hj => n (mem.mpr ⟨hj, fun z => by subst z; rw [e] at ej; cases ej⟩), fun j dj ej hj => r.own j dj ej (mem.mp hj).1, fun j k b dj dk hj hk => r.sep j k b dj dk (mem.mp hj).1 (mem.mp hk).1⟩
      | some d0 =>
        obtain ⟨a, s, o, ng, nb⟩ := r.own i d0 e hi
        obtain ⟨u, hu⟩ := o.there
        have sg : Sub G (upd G a u) := fun b x z => by rw [upd_ne (ne_of_none z ng)]; exact z
        refine ⟨upd G a u, sg, r.len, ⟨fun b x z => ?_, r.gr.keep, fun b z => ?_⟩, fun j dj ej n => ?_, fun j dj ej hj => ?_, fun j k b dj dk hj hk => r.sep j k b dj dk (mem.mp hj).1 (mem.mp hk).1⟩
        · by_cases hb : b = a
          · subst hb; rw [upd_same] at z; cases z; exact hu
          · rw [upd_ne hb] at z; exact r.sub b x z
        · rw [upd_ne fun q => z (by rw [q]; exact nb)]; exact r.gr.fix b z
        · by_cases hj : j = i
          · subst hj; rw [e] at ej; cases ej; exact ⟨_, s, o.dt ng hu⟩
          · obtain ⟨x, q1, q2⟩ := r.dat j dj ej fun z => n (mem.mpr ⟨z, hj⟩)
            exact ⟨x, q1, q2.sub sg⟩
        · obtain ⟨hjO, hji⟩ := mem.mp hj
          obtain ⟨b, q1, q2, q3, q4⟩ := r.own j dj ej hjO
          have ne : b ≠ a := fun z => by subst z; exact hji (r.sep j i b dj d0 hjO hi ej e q1 s)
          exact ⟨b, q1, q2.grow sg rfl, by rw [upd_ne ne]; exact q3, q4⟩
  · exact ⟨G, Sub.refl _, r.len, r.gr, fun j dj ej n => r.dat j dj ej fun hj => n (mem.mpr ⟨hj, fun z => hi (z ▸ hj)⟩), fun j dj ej hj => r.own j dj ej (mem.mp hj).1, fun j k b dj dk hj hk => r.sep j k b dj dk (mem.mp hj).1 (mem.mp hk).1⟩
/-- an object that is neither frozen nor a slot's -/
theorem Rp.out {a : Addr} {o : HO} (r : Rp w K B O ρ σ G H) (n : G a = none) (nb : B.H a = none) (ap : ∀ (i : Nat) (d : D), i ∈ O → ρ[i]? = some (some d) → σ[i]? ≠ some (some (.ref a))) : Rp w K B O ρ σ G (upd H a o) where
  len := r.len
  gr := ⟨fun b u z => by rw [upd_ne (ne_of_none z n)]; exact r.sub b u z, fun b u z => by rw [upd_ne (ne_of_none z nb)]; exact r.gr.keep b u z, r.gr.fix⟩
  dat := r.dat
  own := fun i d e hi => by
    obtain ⟨b, q1, q2, q3⟩ := r.own i d e hi
    exact ⟨b, q1, q2.grow (Sub.refl _) (upd_ne fun z => ap i d hi e (by rw [← z]; exact q1)), q3⟩
  sep := r.sep
/-- what is known of O is a matter of its members -/
theorem Rp.re (r : Rp w K B O ρ σ G H) (h1 : ∀ j ∈ O', j ∈ O) (h2 : ∀ j ∈ O, j ∈ O') : Rp w K B O' ρ σ G H :=
  ⟨r.len, r.gr, fun j dj e n => r.dat j dj e fun z => n (h2 j z), fun j dj e hj => r.own j dj e (h1 j hj), fun j k b dj dk hj hk => r.sep j k b dj dk (h1 j hj) (h1 k hk)⟩
theorem Rp.frzTo (r : Rp w K B O ρ σ G H) (h1 : ∀ j ∈ O', j ∈ O) : ∃ G', Sub G G' ∧ Rp w K B O' ρ σ G' H := by
  have step : ∀ (l : List Nat) (O1 : List Nat) (G1 : Hp), Sub G G1 → Rp w K B O1 ρ σ G1 H → (∀ j ∈ O1, j ∈ O' ∨ j ∈ l) → (∀ j ∈ O', j ∈ O1) → (∀ j ∈ l, j ∉ O') → ∃ G', Sub G G' ∧ Rp w K B O' ρ σ G' H := by
    intro l
    induction l with
    | nil => intro O1 G1 s1 r1 a b _; exact ⟨G1, s1, r1.re b fun j hj => (a j hj).resolve_right (by simp)⟩
    | cons i l ih =>
      intro O1 G1 s1 r1 a b c
      obtain ⟨G2, s2, r2⟩ := r1.frz1 i
      refine ih _ G2 (s1.trans s2) r2 (fun j hj => ?_) (fun j hj => ?_) fun j hj => c j (List.mem_cons_of_mem _ hj)
      · obtain ⟨x, y⟩ := List.mem_filter.mp hj
        have y : j ≠ i := of_decide_eq_true y
        rcases a j x with z | z
        · exact .inl z
        · exact .inr ((List.mem_cons.mp z).resolve_left y)
      · exact List.mem_filter.mpr ⟨b j hj, decide_eq_true fun z => c i List.mem_cons_self (z ▸ hj)⟩
  refine step (O.filter fun j => decide (j ∉ O')) O G (Sub.refl _) r (fun j hj => ?_) h1 fun j hj => of_decide_eq_true (List.mem_filter.mp hj).2
  by_cases z : j ∈ O'
  · exact .inl z
  · exact .inr (List.mem_filter.mpr ⟨hj, decide_eq_true z⟩)
end

/-! ### statements -/
inductive Out where
  | nx (ρ : Env')
  | rt (d : D)
/-- what is wanted behind a statement -/
def Post (w : World) (K : PySem.W.Frag) (B : Bas) (O : List Nat) (fr : Bool) (G : Hp) (Dn : Ends) : Out → Prop
  | .nx ρ => ∀ σ G' H', Sub G G' → Rp w K B O ρ σ G' H' → Dn.nx σ H'
  | .rt d => ∀ v G' H', Back w K fr B.G B.H G' H' v d → Dn.rt v H'
def sV (w : World) (K : PySem.W.Frag) (e : Bas → Nat → D → Prop) (O O' : List Nat) (fr : Bool) (f : Env' → R Out) : TS := fun Dn σ H => ∃ B ρ G, Rp w K B O ρ σ G H ∧ gd (f ρ) (Post w K B O' fr G Dn) (e B)
theorem Post.up {w : World} {K : PySem.W.Frag} {B : Bas} {O : List Nat} {fr : Bool} {G G' : Hp} {Dn : Ends} {o : Out} (s : Sub G G') (h : Post w K B O fr G Dn o) : Post w K B O fr G' Dn o := by
  cases o with
  | nx ρ => exact fun σ G2 H2 s2 r => h σ G2 H2 (s.trans s2) r
  | rt d => exact h
def seqD (f g : Env' → R Out) : Env' → R Out := fun ρ => f ρ >>= fun o => match o with
  | .nx ρ' => g ρ'
  | .rt d => .ok (.rt d)
section
variable {X : Cx} {a b : Expr} {st : Stmt} {sts : List Stmt} {pos : Pos} {e : Bas → Nat → D → Prop} {O O1 O' : List Nat} {fr : Bool} {fa : Env' → R D} {f g : Env' → R Out} {fw : Env' → R Bool} {i : Nat}
theorem s_nil : PSs X [] (sV X.w X.K e O O fr fun ρ => .ok (.nx ρ)) := pss_imp pss_nil fun Dn σ H ⟨B, ρ, G, r, q⟩ => q σ G H (Sub.refl _) r
theorem s_cons (h1 : PS X st (sV X.w X.K e O O1 fr f)) (h2 : PSs X sts (sV X.w X.K e O1 O' fr g)) : PSs X (st :: sts) (sV X.w X.K e O O' fr (seqD f g)) := by
  refine pss_imp (pss_cons h1 h2) fun Dn σ H ⟨B, ρ, G, r, q⟩ => ⟨B, ρ, G, r, gd_mono (gd_bind.mp q) fun o q => ?_⟩
  cases o with
  | nx ρ' => exact fun σ' G' H' s' r' => ⟨B, ρ', G', r', gd_mono q fun o q => q.up s'⟩
  | rt d => exact q
theorem s_one (h1 : PS X st (sV X.w X.K e O O' fr f)) : PSs X [st] (sV X.w X.K e O O' fr f) := pss_one h1
/-- slots frozen ahead of a block; behind it -/
theorem s_frz (h : PSs X sts (sV X.w X.K e O1 O' fr f)) (h1 : ∀ j ∈ O1, j ∈ O := by decide) : PSs X sts (sV X.w X.K e O O' fr f) := by
  refine pss_imp h fun Dn σ H ⟨B, ρ, G, r, q⟩ => ?_
  obtain ⟨G', s', r'⟩ := r.frzTo h1
  exact ⟨B, ρ, G', r', gd_mono q fun o q => q.up s'⟩
theorem s_frzE (h : PSs X sts (sV X.w X.K e O O1 fr f)) (h1 : ∀ j ∈ O', j ∈ O1 := by decide) : PSs X sts (sV X.w X.K e O O' fr f) := by
  refine pss_imp h fun Dn σ H ⟨B, ρ, G, r, q⟩ => ⟨B, ρ, G, r, gd_mono q fun o q => ?_⟩
  cases o with
  | nx ρ' =>
    intro σ' G' H' s' r'
    obtain ⟨G2, s2, r2⟩ := r'.frzTo h1
    exact q σ' G2 H' (s'.trans s2) r2
  | rt d => exact q
theorem s_frz1 (h : PS X st (sV X.w X.K e O1 O' fr f)) (h1 : ∀ j ∈ O1, j ∈ O := by decide) : PS X st (sV X.w X.K e O O' fr f) := by
  refine ps_imp h fun Dn σ H ⟨B, ρ, G, r, q⟩ => ?_
  obtain ⟨G', s', r'⟩ := r.frzTo h1
  exact ⟨B, ρ, G', r', gd_mono q fun o q => q.up s'⟩
/-- a way that is not gone -/
theorem s_nev : PS X st (sV X.w X.K e O O' fr fun _ => stk) := ps_imp ps_never fun Dn σ H ⟨B, ρ, G, r, q⟩ => q
theorem s_nevs : PSs X sts (sV X.w X.K e O O' fr fun _ => stk) := pss_imp pss_never fun Dn σ H ⟨B, ρ, G, r, q⟩ => q
theorem s_doc {x j p p'} : PS X (.Expr (.Constant (.str x) j p) p') (sV X.w X.K e O O fr fun ρ => .ok (.nx ρ)) := ps_imp ps_doc fun Dn σ H ⟨B, ρ, G, r, q⟩ => q σ G H (Sub.refl _) r
theorem s_ex (h : PE X a (tV X.w X.K e O fa)) (hs : swapsWith a none pos.line X.env = pure false := by rfl) : PS X (.Expr a pos) (sV X.w X.K e O O fr fun ρ => fa ρ >>= fun _ => .ok (.nx ρ)) :=
  ps_imp (ps_expr h hs) fun Dn σ H ⟨B, ρ, G, r, q⟩ => ⟨B, ρ, G, r, gd_mono (gd_bind.mp q) fun d q v G1 H1 g1 t => q σ G1 H1 (g1.up r.sub) (r.grow g1)⟩
theorem s_ret (h : PE X a (tV X.w X.K e O fa)) : PS X (.Return (some a) pos) (sV X.w X.K e O O' false fun ρ => fa ρ >>= fun d => .ok (.rt d)) :=
  ps_imp (ps_ret h) fun Dn σ H ⟨B, ρ, G, r, q⟩ => ⟨B, ρ, G, r, gd_mono (gd_bind.mp q) fun d q v G1 H1 g1 t => q v G1 H1 ⟨r.gr.trans g1, t⟩⟩
theorem s_retO (h : PE X a (tO X.w X.K e O fa)) : PS X (.Return (some a) pos) (sV X.w X.K e O O' true fun ρ => fa ρ >>= fun d => .ok (.rt d)) := by
  refine ps_imp (ps_ret h) fun Dn σ H ⟨B, ρ, G, r, q⟩ => ⟨B, ρ, G, r, gd_mono (gd_bind.mp q) fun d q p G1 H1 g1 n1 n2 o => q (.ref p) G1 H1 ⟨r.gr.trans g1, p, rfl, ?_, n2, o⟩⟩
  cases z : B.H p with
  | none => rfl
  | some u => rw [r.gr.keep p u z] at n1; cases n1
/-- return x, x one's own -/
theorem s_retS (i : Nat) {x : Str} {p : Pos} (hi : i ∈ O := by decide) (hN : X.N[i]? = some x := by rfl) (hv : Vis X.env.scope x := by first | exact Or.inl rfl | exact Or.inr (Or.inl rfl) | exact Or.inr (Or.inr rfl)) (hd : (x == ("__debug__" : Str)) = false := by decide)
    (hc : (x == ("__classdict__" : Str)) = false := by decide) : PS X (.Return (some (.Name x p)) pos) (sV X.w X.K e O O' true fun ρ => gv ρ i >>= fun d => .ok (.rt d)) := by
  refine ps_imp (ps_ret (pv i hN hv hd hc)) fun Dn σ H ⟨B, ρ, G, r, q⟩ => ?_
  have q : gd (gv ρ i) _ (e B) := gd_bind.mp q
  unfold gv at q
  cases z : ρ[i]? with
  | none => rw [z] at q; exact q.elim
  | some o =>
    cases o with
    | none => rw [z] at q; exact q.elim
    | some d =>
      rw [z] at q
      obtain ⟨p, s1, o, n1, n2⟩ := r.own i d z hi
      exact ⟨_, s1, q (.ref p) G H ⟨r.gr, p, rfl, n2, n1, o⟩⟩
theorem s_retN : PS X (.Return none pos) (sV X.w X.K e O O' false fun _ => .ok (.rt .none)) := ps_imp ps_retN fun Dn σ H ⟨B, ρ, G, r, q⟩ => q .non G H ⟨r.gr, .non⟩
theorem s_if {c : Expr} {ys ns : List Stmt} (hc : PT X c (tW X.w X.K e O fw)) (hy : PSs X ys (sV X.w X.K e O O' fr f)) (hn : PSs X ns (sV X.w X.K e O O' fr g)) : PS X (.If c ys ns pos) (sV X.w X.K e O O' fr fun ρ => fw ρ >>= fun k => if k then f ρ else g ρ) := by
  refine ps_imp (ps_if hc hy hn) fun Dn σ H ⟨B, ρ, G, r, q⟩ => ⟨B, ρ, G, r, gd_mono (gd_bind.mp q) fun k q G1 H1 g1 => ?_⟩
  cases k with
  | true => exact iteT ⟨B, ρ, G1, r.grow g1, gd_mono q fun o q => q.up (g1.up r.sub)⟩
  | false => exact iteF ⟨B, ρ, G1, r.grow g1, gd_mono q fun o q => q.up (g1.up r.sub)⟩
def setD (i : Nat) (d : D) (ρ : Env') : R Out := .ok (.nx (ρ.set i (some d)))
theorem s_set (i : Nat) {x : Str} {p : Pos} (hN : X.N.Nodup) (h : PE X a (tV X.w X.K e O fa)) (h1 : ∀ j ∈ O', j ∈ O ∧ j ≠ i := by decide) (h2 : ∀ j ∈ O, j = i ∨ j ∈ O' := by decide) (hi : X.N[i]? = some x := by rfl) (hx : Loc X.env.scope x := by first | exact Or.inl rfl | exact Or.inr rfl) (hs : swapsWith a (some (.Name x p)) pos.line X.env = pure false := by rfl)
    (hf : X.fn x = true ∨ X.env.scope.names.lookup x = some .local := by first | exact .inl rfl | exact .inr rfl) : PS X (.Assign [.Name x p] a pos) (sV X.w X.K e O O' fr fun ρ => fa ρ >>= fun d => setD i d ρ) :=
  ps_imp (L2.ps_set hN hi hx h hs hf) fun Dn σ H ⟨B, ρ, G, r, q⟩ => ⟨B, ρ, G, r, gd_mono (gd_bind.mp q) fun d q v G1 H1 g1 t => q _ G1 H1 (g1.up r.sub) ((r.grow g1).put t h1 h2)⟩
theorem s_setO (i : Nat) {x : Str} {p : Pos} (hN : X.N.Nodup) (h : PE X a (tO X.w X.K e O fa)) (h0 : i ∈ O' := by decide) (h1 : ∀ j ∈ O', j = i ∨ j ∈ O := by decide) (h2 : ∀ j ∈ O, j = i ∨ j ∈ O' := by decide) (hi : X.N[i]? = some x := by rfl) (hx : Loc X.env.scope x := by first | exact Or.inl rfl | exact Or.inr rfl) (hs : swapsWith a (some (.Name x p)) pos.line X.env = pure false := by rfl)
    (hf : X.fn x = true ∨ X.env.scope.names.lookup x = some .local := by first | exact .inl rfl | exact .inr rfl) : PS X (.Assign [.Name x p] a pos) (sV X.w X.K e O O' fr fun ρ => fa ρ >>= fun d => setD i d ρ) :=
  ps_imp (L2.ps_set hN hi hx h hs hf) fun Dn σ H ⟨B, ρ, G, r, q⟩ => ⟨B, ρ, G, r, gd_mono (gd_bind.mp q) fun d q p G1 H1 g1 n1 n2 o => q _ G1 H1 (g1.up r.sub) (r.putO g1 n1 n2 o h0 h1 h2)⟩
end

/-! ### targets -/
/-- what a store into the slots vs leaves -/
structure Tg (vs O : List Nat) (ρ ρ' : Env') (σ σ' : L2.St) : Prop where
  off : ∀ j, j ∉ vs → σ'[j]? = σ[j]?
  len : σ'.length = σ.length
  own : ∀ j ∈ O, ρ'[j]? = ρ[j]? ∧ σ'[j]? = σ[j]?
/-- a target: where a datum goes; vs: the slots that it stores -/
def gT (w : World) (K : PySem.W.Frag) (e : Bas → Nat → D → Prop) (O : List Nat) (vs : List Nat) (tg : D → Env' → R Env') : TG := fun v σ H Q => ∃ B ρ G d, Rp w K B O ρ σ G H ∧ Dt w K G v d ∧
  gd (tg d ρ) (fun ρ' => ∀ σ', Tg vs O ρ ρ' σ σ' → Rp w K B O ρ' σ' G H → Q σ' H) (e B)
def gTs (w : World) (K : PySem.W.Frag) (e : Bas → Nat → D → Prop) (O : List Nat) (vs : List Nat) (tg : List D → Env' → R Env') : TGs := fun us σ H Q => ∃ B ρ G ds, Rp w K B O ρ σ G H ∧ DtAll w K G us ds ∧
  gd (tg ds ρ) (fun ρ' => ∀ σ', Tg vs O ρ ρ' σ σ' → Rp w K B O ρ' σ' G H → Q σ' H) (e B)
def tgN (i : Nat) : D → Env' → R Env' := fun d ρ => .ok (ρ.set i (some d))
def tsN : List D → Env' → R Env' := fun ds ρ => match ds with
  | [] => .ok ρ
  | _ => stk
def tsC (tg : D → Env' → R Env') (tgs : List D → Env' → R Env') : List D → Env' → R Env' := fun ds ρ => match ds with
  | d :: ds => tg d ρ >>= fun ρ1 => tgs ds ρ1
  | [] => stk
section
variable {X : Cx} {a : Expr} {as : List Expr} {pos : Pos} {e : Bas → Nat → D → Prop} {O vs ws : List Nat} {tg : D → Env' → R Env'} {tgs : List D → Env' → R Env'}
theorem pg_imp {t t' : TG} (h : PG X a t) (i : ∀ v σ H Q, t' v σ H Q → t v σ H Q) : PG X a t' := ⟨fun p s σ H v u Q I r q => h.run p s σ H v u Q I r (i v σ H Q q)⟩
theorem pgs_imp {t t' : TGs} (h : PGs X as t) (i : ∀ v σ H Q, t' v σ H Q → t v σ H Q) : PGs X as t' := ⟨fun p s σ H v u Q I r q => h.run p s σ H v u Q I r (i v σ H Q q)⟩
theorem g_nm (i : Nat) {x : Str} {p : Pos} (hN : X.N.Nodup) (ho : i ∉ O := by decide) (hi : X.N[i]? = some x := by rfl) (hx : Loc X.env.scope x := by first | exact Or.inl rfl | exact Or.inr rfl)
    (hf : X.fn x = true ∨ X.env.scope.names.lookup x = some .local := by first | exact .inl rfl | exact .inr rfl) : PG X (.Name x p) (gT X.w X.K e O [i] (tgN i)) :=
  pg_imp (pg_name hN hi hx hf) fun v σ H Q ⟨B, ρ, G, d, r, t, q⟩ => q _ ⟨fun j hj => List.getElem?_set_ne (fun z => hj (by rw [z]; exact List.mem_singleton_self _)), List.length_set .., fun j hj => have ne : i ≠ j := fun z => ho (by rw [z]; exact hj); ⟨List.getElem?_set_ne ne, List.getElem?_set_ne ne⟩⟩ (r.put t (fun j hj => ⟨hj, fun z => ho (by rw [← z]; exact hj)⟩) fun j hj => .inr hj)
theorem gs_nil : PGs X [] (gTs X.w X.K e O [] tsN) := by
  refine pgs_imp pgs_nil fun us σ H Q ⟨B, ρ, G, ds, r, t, q⟩ => ?_
  cases t with
  | nil => exact ⟨rfl, q σ ⟨fun _ _ => rfl, rfl, fun _ _ => ⟨rfl, rfl⟩⟩ r⟩
  | cons _ _ => exact q.elim
theorem gs_cons (h1 : PG X a (gT X.w X.K e O vs tg)) (h2 : PGs X as (gTs X.w X.K e O ws tgs)) (hs : (assignEach (a :: as) X.env).map (·.2) = assign a X.env :: (assignEach as X.env).map (·.2) := by rfl) :
    PGs X (a :: as) (gTs X.w X.K e O (vs ++ ws) (tsC tg tgs)) := by
  refine pgs_imp (pgs_cons h1 h2 hs) fun us σ H Q ⟨B, ρ, G, ds, r, t, q⟩ => ?_
  cases t with
  | nil => exact q.elim
  | cons t1 t2 =>
    refine ⟨_, _, rfl, B, ρ, G, _, r, t1, gd_mono (gd_bind.mp q) fun ρ1 q σ1 k1 r1 => ⟨B, ρ1, G, _, r1, t2, gd_mono q fun ρ2 q σ2 k2 r2 => q σ2 ⟨fun j hj => ?_, k2.len.trans k1.len, fun j hj => ⟨(k2.own j hj).1.trans (k1.own j hj).1, (k2.own j hj).2.trans (k1.own j hj).2⟩⟩ r2⟩⟩
    rw [k2.off j fun z => hj (List.mem_append_right _ z), k1.off j fun z => hj (List.mem_append_left _ z)]
def unT (n : Nat) (tgs : List D → Env' → R Env') (d : D) (ρ : Env') : R Env' := match d with
  | .tuple ds => if ds.length = n then tgs ds ρ else stk
  | _ => stk
theorem g_tup {k n : Nat} (hc : X.calm = true) (h : PGs X as (gTs X.w X.K e O vs tgs)) (hn : (assignEach as X.env).length = n := by rfl) (hst : (assignEach as X.env).findIdx? (·.1) = none := by rfl) : PG X (.Tuple as k pos) (gT X.w X.K e O vs (unT n tgs)) := by
  refine pg_imp (pg_tup hc h hn hst) fun v σ H Q ⟨B, ρ, G, d, r, t, q⟩ => ?_
  cases t with
  | tup s1 t1 =>
    unfold unT at q
    simp only at q
    split at q
    · rename_i hl
      exact ⟨_, _, rfl, SqT.sub r.sub s1, by rw [t1.length]; exact hl, B, ρ, G, _, r, t1, q⟩
    · exact q.elim
  | non => exact q.elim
  | bl _ => exact q.elim
  | int _ => exact q.elim
  | str _ => exact q.elim
  | lst _ _ => exact q.elim
  | dct _ _ _ _ _ _ => exact q.elim
  | scr _ _ => exact q.elim
  | exc _ _ => exact q.elim
/-- target = value, any target -/
theorem s_tg {b : Expr} {fa : Env' → R D} {fr : Bool} (h : PE X b (tV X.w X.K e O fa)) (hg : PG X a (gT X.w X.K e O vs tg)) (hs : swapsWithSole [a] b pos.line X.env = pure false := by rfl) (hw : swappedStores [a] b X.env = pure none := by rfl)
    (h1 : (assignEach [a] X.env).map (·.2) = [assign a X.env] := by rfl) : PS X (.Assign [a] b pos) (sV X.w X.K e O O fr fun ρ => fa ρ >>= fun d => tg d ρ >>= fun ρ' => .ok (.nx ρ')) :=
  ps_imp (ps_asg h hg hs hw h1) fun Dn σ H ⟨B, ρ, G, r, q⟩ => ⟨B, ρ, G, r, gd_mono (gd_bind.mp q) fun d q v G1 H1 g1 t => ⟨B, ρ, G1, d, r.grow g1, t, gd_mono (gd_bind.mp q) fun ρ1 q σ1 k1 r1 => q σ1 G1 H1 (g1.up r.sub) r1⟩⟩
/-- a, b = x, y with plain names -/
theorem s_par {i j : Nat} {x y : Str} {b c : Expr} {fs : Env' → R (List D)} {px py pt : Pos} {kt k2 pt2} {fr : Bool} (hc : X.calm = true) (hN : X.N.Nodup) (ha : PA X [b, c] (tA X.w X.K e O fs)) (hoi : i ∉ O := by decide) (hoj : j ∉ O := by decide) (hi : X.N[i]? = some x := by rfl) (hj : X.N[j]? = some y := by rfl) (hij : i ≠ j := by decide)
    (hx : X.env.scope.names.lookup x = some .local := by rfl) (hy : X.env.scope.names.lookup y = some .local := by rfl)
    (hw : swappedStores [.Tuple [.Name x px, .Name y py] kt pt] (.Tuple [b, c] k2 pt2) X.env = pure (some [x, y]) := by rfl)
    (hs : swapsWithSole [.Tuple [.Name x px, .Name y py] kt pt] (.Tuple [b, c] k2 pt2) pos.line X.env = pure false := by rfl) :
    PS X (.Assign [.Tuple [.Name x px, .Name y py] kt pt] (.Tuple [b, c] k2 pt2) pos) (sV X.w X.K e O O fr fun ρ => fs ρ >>= fun ds => match ds with | [d1, d2] => .ok (.nx ((ρ.set i (some d1)).set j (some d2))) | _ => stk) := by
  refine ps_imp (L2.ps_par hc hN hi hj hij hx hy ha hw hs) fun Dn σ H ⟨B, ρ, G, r, q⟩ => ⟨B, ρ, G, r, gd_mono (gd_bind.mp q) fun ds q vs G1 H1 g1 t => ?_⟩
  cases t with
  | nil => exact q.elim
  | cons t1 t =>
    cases t with
    | nil => exact q.elim
    | cons t2 t =>
      cases t with
      | cons _ _ => exact q.elim
      | nil =>
        refine ⟨_, _, rfl, q _ G1 H1 (g1.up r.sub) ?_⟩
        exact ((r.grow g1).put t1 (fun j hj => ⟨hj, fun z => hoi (by rw [← z]; exact hj)⟩) fun j hj => .inr hj).put t2 (fun j hj => ⟨hj, fun z => hoj (by rw [← z]; exact hj)⟩) fun j hj => .inr hj
end

/-! ### what is walked -/
/-- J walks the data ds from where the frozen part is G0 -/
structure Wk (w : World) (K : PySem.W.Frag) (J : It) (G0 : Hp) (ds : List D) : Prop where
  go : ∀ (i : Nat) (G H : Hp), Sub G0 G → Sub G H → i < ds.length → J.go i H
  stop : ∀ (G H : Hp), Sub G0 G → Sub G H → J.stop ds.length H
  yld : ∀ (i : Nat) (d : D) (G H : Hp) (x : V) (H' : Hp), Sub G0 G → Sub G H → ds[i]? = some d → J.yld i H x H' → ∃ G', Gr G H G' H' ∧ Dt w K G' x d
def iV (w : World) (K : PySem.W.Frag) (e : Bas → Nat → D → Prop) (O : List Nat) (f : Env' → R (List D)) : TI := fun σ H Q => ∃ B ρ G, Rp w K B O ρ σ G H ∧
  gd (f ρ) (fun ds => ∀ J G' H', Gr G H G' H' → Wk w K J G' ds → Q J H') (e B)
def itL : D → R (List D)
  | .list ds => .ok ds
  | _ => stk
def itT : D → R (List D)
  | .tuple ds => .ok ds
  | _ => stk
def itS : D → R (List D)
  | .str x => .ok (x.cps.toList.map fun c => .str ⟨#[c]⟩)
  | _ => stk
def rgD (lo : Int) (n : Nat) : List D := (List.range n).map fun (i : Nat) => .int (lo + i)
def enD (i : Nat) : List D → List D
  | [] => []
  | d :: ds => .tuple [.int (i : Nat), d] :: enD (i + 1) ds
theorem enD_get : ∀ (ds : List D) (k i : Nat) (d : D), (enD k ds)[i]? = some d → ∃ x, ds[i]? = some x ∧ d = .tuple [.int ((k + i : Nat) : Int), x]
  | [], _, _, _, h => by simp [enD] at h
  | x :: ds, k, 0, d, h => ⟨x, rfl, by simp [enD] at h; rw [← h]; rfl⟩
  | x :: ds, k, i + 1, d, h => by
    obtain ⟨y, h1, h2⟩ := enD_get ds (k + 1) i d (by simpa [enD] using h)
    exact ⟨y, h1, by rw [h2, show k + 1 + i = k + (i + 1) by omega]⟩
theorem enD_len : ∀ (ds : List D) (k : Nat), (enD k ds).length = ds.length
  | [], _ => rfl
  | _ :: ds, k => by rw [enD, List.length_cons, List.length_cons, enD_len ds]
section
variable {X : Cx} {a b tgt : Expr} {pos p : Pos} {e : Bas → Nat → D → Prop} {O : List Nat} {fa fb : Env' → R D} {fs : Env' → R (List D)}
theorem pi_imp {t t' : TI} (h : PI X tgt a t) (i : ∀ σ H Q, t' σ H Q → t σ H Q) : PI X tgt a t' := ⟨fun p s σ H Q I q => h.run p s σ H Q I (i σ H Q q)⟩
theorem wk_list {w : World} {K : PySem.W.Frag} {G : Hp} {a : Addr} {xs : List V} {ds : List D} (h : Rd G a (.lst xs)) (t : DtAll w K G xs ds) : Wk w K (Itl K a) G ds where
  go := fun i G' H s1 s2 hi => by
    have sq : SqL K H a xs := Rd.sq (Rd.sub s2 (Rd.sub s1 h))
    have hx : i < xs.length := by rw [t.length]; exact hi
    exact ⟨xs, xs[i], sq, List.getElem?_eq_getElem hx⟩
  stop := fun G' H s1 s2 => ⟨xs, Rd.sq (Rd.sub s2 (Rd.sub s1 h)), by rw [t.length]; exact Nat.le_refl _⟩
  yld := fun i d G' H x H' s1 s2 hd y => by
    obtain ⟨rfl, y⟩ := y
    have e1 := y xs (Rd.sq (Rd.sub s2 (Rd.sub s1 h)))
    obtain ⟨d', e2, t2⟩ := t.get e1
    rw [hd] at e2; cases e2
    exact ⟨G', Gr.refl s2, t2.sub s1⟩
theorem wk_tup {w : World} {K : PySem.W.Frag} {G : Hp} {a : Addr} {xs : List V} {ds : List D} (h : SqT K G a xs) (t : DtAll w K G xs ds) : Wk w K (Itt K a) G ds where
  go := fun i G' H s1 s2 hi => by
    have sq : SqT K H a xs := SqT.sub s2 (SqT.sub s1 h)
    have hx : i < xs.length := by rw [t.length]; exact hi
    exact ⟨xs, xs[i], sq, List.getElem?_eq_getElem hx⟩
  stop := fun G' H s1 s2 => ⟨xs, SqT.sub s2 (SqT.sub s1 h), by rw [t.length]; exact Nat.le_refl _⟩
  yld := fun i d G' H x H' s1 s2 hd y => by
    obtain ⟨rfl, y⟩ := y
    have e1 := y xs (SqT.sub s2 (SqT.sub s1 h))
    obtain ⟨d', e2, t2⟩ := t.get e1
    rw [hd] at e2; cases e2
    exact ⟨G', Gr.refl s2, t2.sub s1⟩
theorem wk_rng {w : World} {K : PySem.W.Frag} {G : Hp} {lo : Int} {n : Nat} : Wk w K (Itr lo n) G (rgD lo n) where
  go := fun i G' H s1 s2 hi => by
    rw [rgD, List.length_map, List.length_range] at hi
    exact hi
  stop := fun G' H s1 s2 => by
    show n ≤ _
    rw [rgD, List.length_map, List.length_range]
    exact Nat.le_refl _
  yld := fun i d G' H x H' s1 s2 hd y => by
    obtain ⟨rfl, rfl⟩ := y
    refine ⟨G', Gr.refl s2, ?_⟩
    rw [rgD, List.getElem?_map] at hd
    cases q : (List.range n)[i]? with
    | none => rw [q] at hd; cases hd
    | some k =>
      rw [q] at hd
      have e1 : k = i := by
        rw [List.getElem?_eq_some_iff] at q
        obtain ⟨h1, h2⟩ := q
        rw [List.getElem_range] at h2
        exact h2.symm
      subst e1
      cases hd
      exact .int _
theorem wk_en {w : World} {K : PySem.W.Frag} {G : Hp} {a : Addr} {xs : List V} {ds : List D} (h : Rd G a (.lst xs)) (t : DtAll w K G xs ds) : Wk w K (Ite K a) G (enD 0 ds) where
  go := fun i G' H s1 s2 hi => by
    have sq : SqL K H a xs := Rd.sq (Rd.sub s2 (Rd.sub s1 h))
    have hx : i < xs.length := by rw [t.length]; rw [enD_len] at hi; exact hi
    exact ⟨xs, xs[i], sq, List.getElem?_eq_getElem hx⟩
  stop := fun G' H s1 s2 => ⟨xs, Rd.sq (Rd.sub s2 (Rd.sub s1 h)), by rw [t.length, enD_len]; exact Nat.le_refl _⟩
  yld := fun i d G' H x H' s1 s2 hd y => by
    obtain ⟨T, z, rfl, nT, rfl, y⟩ := y
    have e1 := y xs (Rd.sq (Rd.sub s2 (Rd.sub s1 h)))
    obtain ⟨d', e2, t2⟩ := t.get e1
    obtain ⟨x, e3, rfl⟩ := enD_get ds 0 i d hd
    rw [e3] at e2; cases e2
    have g2 := Gr.new (o := .tup [.int (i : Nat), z]) s2 nT
    refine ⟨_, g2, .tup (.inl (.inl upd_same)) (.cons ?_ (.cons ((t2.sub s1).sub (g2.up s2)) .nil))⟩
    rw [Nat.zero_add]
    exact .int _
theorem wk_str {w : World} {K : PySem.W.Frag} {G : Hp} {x : Str} : Wk w K (Its x) G (x.cps.toList.map fun c => .str ⟨#[c]⟩) where
  go := fun i G' H s1 s2 hi => by
    rw [List.length_map, Array.length_toList] at hi
    exact hi
  stop := fun G' H s1 s2 => by
    show x.cps.size ≤ _
    rw [List.length_map, Array.length_toList]
    exact Nat.le_refl _
  yld := fun i d G' H v H' s1 s2 hd y => by
    obtain ⟨rfl, c, h1, rfl⟩ := y
    refine ⟨G', Gr.refl s2, ?_⟩
    rw [List.getElem?_map, Array.getElem?_toList, h1] at hd
    cases hd
    exact .str _
theorem i_lst (h : PE X a (tV X.w X.K e O fa)) : PI X tgt a (iV X.w X.K e O fun ρ => fa ρ >>= itL) := by
  refine pi_imp (pi_list h) fun σ H Q ⟨B, ρ, G, r, q⟩ => ⟨B, ρ, G, r, gd_mono (gd_bind.mp q) fun d q v G1 H1 g1 t => ?_⟩
  cases t with
  | lst s1 t1 => exact ⟨_, rfl, ⟨_, Rd.sq (Rd.sub g1.sub s1)⟩, q _ G1 H1 g1 (wk_list s1 t1)⟩
  | non => exact q.elim
  | bl _ => exact q.elim
  | int _ => exact q.elim
  | str _ => exact q.elim
  | tup _ _ => exact q.elim
  | dct _ _ _ _ _ _ => exact q.elim
  | scr _ _ => exact q.elim
  | exc _ _ => exact q.elim
theorem i_tup (h : PE X a (tV X.w X.K e O fa)) : PI X tgt a (iV X.w X.K e O fun ρ => fa ρ >>= itT) := by
  refine pi_imp (pi_tup h) fun σ H Q ⟨B, ρ, G, r, q⟩ => ⟨B, ρ, G, r, gd_mono (gd_bind.mp q) fun d q v G1 H1 g1 t => ?_⟩
  cases t with
  | tup s1 t1 => exact ⟨_, rfl, ⟨_, SqT.sub g1.sub s1⟩, q _ G1 H1 g1 (wk_tup s1 t1)⟩
  | non => exact q.elim
  | bl _ => exact q.elim
  | int _ => exact q.elim
  | str _ => exact q.elim
  | lst _ _ => exact q.elim
  | dct _ _ _ _ _ _ => exact q.elim
  | scr _ _ => exact q.elim
  | exc _ _ => exact q.elim
theorem i_str (h : PE X a (tV X.w X.K e O fa)) : PI X tgt a (iV X.w X.K e O fun ρ => fa ρ >>= itS) := by
  refine pi_imp (pi_str h) fun σ H Q ⟨B, ρ, G, r, q⟩ => ⟨B, ρ, G, r, gd_mono (gd_bind.mp q) fun d q v G1 H1 g1 t => ?_⟩
  cases t with
  | str x => exact ⟨_, rfl, q _ G1 H1 g1 wk_str⟩
  | non => exact q.elim
  | bl _ => exact q.elim
  | int _ => exact q.elim
  | lst _ _ => exact q.elim
  | tup _ _ => exact q.elim
  | dct _ _ _ _ _ _ => exact q.elim
  | scr _ _ => exact q.elim
  | exc _ _ => exact q.elim
theorem p62 {n : Int} (h : n.natAbs < 4611686018427387904) : -(2 ^ 62) ≤ n ∧ n < 2 ^ 62 := by
  have e : (2 : Int) ^ 62 = 4611686018427387904 := by decide
  rw [e]; omega
def rg1 : List D → R (List D)
  | [.int n] => if n.natAbs < 4611686018427387904 then .ok (rgD 0 n.toNat) else stk
  | _ => stk
def rg2 : List D → R (List D)
  | [.int m, .int n] => if m.natAbs < 4611686018427387904 ∧ n.natAbs < 4611686018427387904 then .ok (rgD m (n - m).toNat) else stk
  | _ => stk
theorem i_rg1 (hm : X.mg "range" = none) (h : PA X [a] (tA X.w X.K e O fs)) (hg : Gl X "range" := by rfl) (hs : starEach [a] X.env = [(false, eval a X.env)] := by rfl) : PI X tgt (.Call (.Name "range" p) [a] [] pos) (iV X.w X.K e O fun ρ => fs ρ >>= rg1) := by
  refine pi_imp (pi_range1 hg hm h hs) fun σ H Q ⟨B, ρ, G, r, q⟩ => ⟨B, ρ, G, r, gd_mono (gd_bind.mp q) fun ds q vs G1 H1 g1 t => ?_⟩
  unfold rg1 at q
  split at q
  · cases t with
    | cons t1 t2 =>
      cases t2
      cases t1
      split at q
      · rename_i hb
        exact ⟨_, rfl, (p62 hb).1, (p62 hb).2, q _ G1 H1 g1 wk_rng⟩
      · exact q.elim
  · exact q.elim
theorem i_rg2 (hm : X.mg "range" = none) (h : PA X [a, b] (tA X.w X.K e O fs)) (hg : Gl X "range" := by rfl) (hs : starEach [a, b] X.env = [(false, eval a X.env), (false, eval b X.env)] := by rfl) (hs2 : starEach [b] X.env = [(false, eval b X.env)] := by rfl) :
    PI X tgt (.Call (.Name "range" p) [a, b] [] pos) (iV X.w X.K e O fun ρ => fs ρ >>= rg2) := by
  refine pi_imp (pi_range2 hg hm h hs hs2) fun σ H Q ⟨B, ρ, G, r, q⟩ => ⟨B, ρ, G, r, gd_mono (gd_bind.mp q) fun ds q vs G1 H1 g1 t => ?_⟩
  unfold rg2 at q
  split at q
  · cases t with
    | cons t1 t2 =>
      cases t2 with
      | cons t2 t3 =>
        cases t3
        cases t1
        cases t2
        split at q
        · rename_i hb
          exact ⟨_, _, rfl, ⟨(p62 hb.1).1, (p62 hb.1).2, (p62 hb.2).1, (p62 hb.2).2⟩, q _ G1 H1 g1 wk_rng⟩
        · exact q.elim
  · exact q.elim
def en1 : List D → R (List D)
  | [.list ds] => .ok (enD 0 ds)
  | _ => stk
theorem i_en {elts : List Expr} {kk : Nat} {tp : Pos} (hm : X.mg "enumerate" = none) (h : PA X [a] (tA X.w X.K e O fs)) (hg : Gl X "enumerate" := by rfl) (hs : starEach [a] X.env = [(false, eval a X.env)] := by rfl) : PI X (.Tuple elts kk tp) (.Call (.Name "enumerate" p) [a] [] pos) (iV X.w X.K e O fun ρ => fs ρ >>= en1) := by
  refine pi_imp (pi_enum hg hm h hs) fun σ H Q ⟨B, ρ, G, r, q⟩ => ⟨B, ρ, G, r, gd_mono (gd_bind.mp q) fun ds q vs G1 H1 g1 t => ?_⟩
  unfold en1 at q
  split at q
  · cases t with
    | cons t1 t2 =>
      cases t2
      cases t1 with
      | lst s1 t1 => exact ⟨_, _, rfl, Rd.sq (Rd.sub g1.sub s1), q _ G1 H1 g1 (wk_en s1 t1)⟩
  · exact q.elim
end

/-! ### loops -/
def forD (tg : D → Env' → R Env') (fb : Env' → R Out) : List D → Env' → R Out
  | [], ρ => .ok (.nx ρ)
  | d :: ds, ρ => tg d ρ >>= fun ρ1 => fb ρ1 >>= fun o => match o with
    | .nx ρ2 => forD tg fb ds ρ2
    | .rt r => .ok (.rt r)
def whileD (fw : Env' → R Bool) (fb : Env' → R Out) : Nat → Env' → R Out
  | 0, _ => stk
  | n + 1, ρ => fw ρ >>= fun c => if c then fb ρ >>= fun o => match o with
      | .nx ρ2 => whileD fw fb n ρ2
      | .rt r => .ok (.rt r)
    else .ok (.nx ρ)
section
variable {X : Cx} {tgt iter c : Expr} {body : List Stmt} {pos : Pos} {e : Bas → Nat → D → Prop} {O vs : List Nat} {fr : Bool} {fi : Env' → R (List D)} {tg : D → Env' → R Env'} {fb : Env' → R Out} {fw : Env' → R Bool}
theorem s_for (hp : PassesOwn (model X.prog X.w) X.A X.env X.xe) (hc : X.calm = true) (hi : PI X tgt iter (iV X.w X.K e O fi)) (hg : PG X tgt (gT X.w X.K e O vs tg)) (hb : PSs X body (sV X.w X.K e O O fr fb)) (hs : ∀ x, foldedSetIterable iter X.env x = pure x := by intro _; rfl) :
    PS X (.For tgt iter body [] pos) (sV X.w X.K e O O fr fun ρ => fi ρ >>= fun ds => forD tg fb ds ρ) := by
  refine ps_imp (ps_for hp hc hi hg hb hs) fun Dn σ H ⟨B, ρ, G, r, q⟩ => ⟨B, ρ, G, r, gd_mono (gd_bind.mp q) fun ds q J G1 H1 g1 wk => ?_⟩
  refine ⟨fun i m σ H => m = ds.length - i ∧ i ≤ ds.length ∧ ∃ ρ G, Rp X.w X.K B O ρ σ G H ∧ Sub G1 G ∧ gd (forD tg fb (ds.drop i) ρ) (Post X.w X.K B O fr G Dn) (e B), ⟨ds.length, rfl, Nat.zero_le _, ρ, G1, r.grow g1, Sub.refl _, gd_mono q fun o q => q.up (g1.up r.sub)⟩, fun i m σ H hW => ?_⟩
  obtain ⟨rfl, hi, ρ1, G2, r1, s1, q1⟩ := hW
  by_cases hl : i < ds.length
  · refine .inr ⟨wk.go i G2 H s1 r1.sub hl, fun σ' H' => ∃ ρ2 G3, Rp X.w X.K B O ρ2 σ' G3 H' ∧ Sub G1 G3 ∧ gd (forD tg fb (ds.drop (i + 1)) ρ2) (Post X.w X.K B O fr G3 Dn) (e B), fun σ' H' ⟨ρ2, G3, r2, s2, q2⟩ => ⟨ds.length - (i + 1), by omega, rfl, hl, ρ2, G3, r2, s2, q2⟩, fun x H' y => ?_⟩
    rw [List.drop_eq_getElem_cons hl] at q1
    obtain ⟨G3, g3, t3⟩ := wk.yld i ds[i] G2 H x H' s1 r1.sub (List.getElem?_eq_getElem hl) y
    have s3 : Sub G1 G3 := s1.trans (g3.up r1.sub)
    refine ⟨B, ρ1, G3, ds[i], r1.grow g3, t3, gd_mono (gd_bind.mp q1) fun ρ2 q2 σ2 _ r2 => ⟨B, ρ2, G3, r2, gd_mono (gd_bind.mp q2) fun o q3 => ?_⟩⟩
    cases o with
    | nx ρ3 => exact fun σ4 G4 H4 s4 r4 => ⟨ρ3, G4, r4, s3.trans s4, gd_mono q3 fun o q => q.up ((g3.up r1.sub).trans s4)⟩
    | rt d => exact q3
  · have e1 : i = ds.length := by omega
    subst e1
    rw [List.drop_length] at q1
    exact .inl ⟨wk.stop G2 H s1 r1.sub, q1 σ G2 H (Sub.refl _) r1⟩
theorem s_while (n : Nat) (hp : PassesOwn (model X.prog X.w) X.A X.env X.xe) (hc : PT X c (tW X.w X.K e O fw)) (hb : PSs X body (sV X.w X.K e O O fr fb)) : PS X (.While c body [] pos) (sV X.w X.K e O O fr (whileD fw fb n)) := by
  refine ps_imp (ps_while hp hc hb) fun Dn σ H ⟨B, ρ, G, r, q⟩ => ?_
  refine ⟨fun m σ H => ∃ ρ G, Rp X.w X.K B O ρ σ G H ∧ gd (whileD fw fb m ρ) (Post X.w X.K B O fr G Dn) (e B), ⟨n, ρ, G, r, q⟩, fun m σ H hW => ?_⟩
  obtain ⟨ρ1, G1, r1, q1⟩ := hW
  cases m with
  | zero => exact q1.elim
  | succ m =>
    refine ⟨B, ρ1, G1, r1, gd_mono (gd_bind.mp q1) fun k q2 G2 H2 g2 => ?_⟩
    cases k with
    | true =>
      refine iteT ⟨fun σ' H' => ∃ ρ2 G3, Rp X.w X.K B O ρ2 σ' G3 H' ∧ gd (whileD fw fb m ρ2) (Post X.w X.K B O fr G3 Dn) (e B), fun σ' H' ⟨ρ2, G3, r2, q3⟩ => ⟨m, Nat.lt_succ_self _, ρ2, G3, r2, q3⟩, B, ρ1, G2, r1.grow g2, gd_mono (gd_bind.mp q2) fun o q3 => ?_⟩
      cases o with
      | nx ρ3 => exact fun σ4 G4 H4 s4 r4 => ⟨ρ3, G4, r4, gd_mono q3 fun o q => q.up ((g2.up r1.sub).trans s4)⟩
      | rt d => exact q3
    | false => exact iteF (q2 σ G2 H2 (g2.up r1.sub) (r1.grow g2))
end

/-! ### comprehensions -/
def noX {α : Type} : R α → R α
  | .ok a => .ok a
  | .error _ => stk
def wipeD (ρ : Env') : List Nat → Env'
  | [] => ρ
  | v :: vs => (wipeD ρ vs).set v none
def lcD (tg : D → Env' → R Env') (ft : Env' → R Bool) (fe : Env' → R D) (ρ : Env') : List D → R (List D)
  | [] => .ok []
  | d :: ds => tg d ρ >>= fun ρ1 => ft ρ1 >>= fun b => if b then fe ρ1 >>= fun y => lcD tg ft fe ρ ds >>= fun ys => .ok (y :: ys) else lcD tg ft fe ρ ds
theorem wipeD_len (ρ : Env') : ∀ vs, (wipeD ρ vs).length = ρ.length
  | [] => rfl
  | v :: vs => by rw [wipeD, List.length_set, wipeD_len ρ vs]
theorem wipeD_some {ρ : Env'} {i : Nat} {d : D} : ∀ {vs : List Nat}, (wipeD ρ vs)[i]? = some (some d) → ρ[i]? = some (some d) ∧ i ∉ vs
  | [], h => ⟨h, by simp⟩
  | v :: vs, h => by
    rcases get_set (show ((wipeD ρ vs).set v none)[i]? = some (some d) from h) with ⟨_, z, _⟩ | ⟨ne, z⟩
    · cases z
    · obtain ⟨h1, h2⟩ := wipeD_some z
      exact ⟨h1, fun q => (List.mem_cons.mp q).elim ne h2⟩
theorem wipe_get {σ : L2.St} {i : Nat} : ∀ {vs : List Nat}, i ∉ vs → (wipe σ vs)[i]? = σ[i]?
  | [], _ => rfl
  | v :: vs, h => by
    show ((wipe σ vs).set v none)[i]? = _
    rw [List.getElem?_set_ne fun z => h (by rw [z]; exact List.mem_cons_self)]
    exact wipe_get fun z => h (List.mem_cons_of_mem _ z)
theorem wipe_at {σ : L2.St} {i : Nat} (hl : i < σ.length) : ∀ {vs : List Nat}, i ∈ vs → (wipe σ vs)[i]? = some none
  | v :: vs, h => by
    show ((wipe σ vs).set v none)[i]? = _
    by_cases e : i = v
    · subst e
      exact List.getElem?_set_self (by rw [wipe_length]; exact hl)
    · rw [List.getElem?_set_ne (Ne.symm e)]
      exact wipe_at hl ((List.mem_cons.mp h).resolve_left e)
theorem wipe_same {σ σ' : L2.St} {vs ws : List Nat} (hl : σ'.length = σ.length) (h : ∀ j, j ∉ ws → σ'[j]? = σ[j]?) (hw : ∀ j ∈ ws, j ∈ vs) : wipe σ' vs = wipe σ vs := by
  apply List.ext_getElem?
  intro i
  by_cases hi : i ∈ vs
  · by_cases hlt : i < σ.length
    · rw [wipe_at hlt hi, wipe_at (by rw [hl]; exact hlt) hi]
    · rw [List.getElem?_eq_none (by rw [wipe_length]; omega), List.getElem?_eq_none (by rw [wipe_length]; omega)]
  · rw [wipe_get hi, wipe_get hi]
    exact h i fun z => hi (hw i z)
theorem wipe_wipe (σ : L2.St) (vs : List Nat) : wipe (wipe σ vs) vs = wipe σ vs := by
  apply List.ext_getElem?
  intro i
  by_cases hi : i ∈ vs
  · by_cases hlt : i < σ.length
    · rw [wipe_at hlt hi, wipe_at (by rw [wipe_length]; exact hlt) hi]
    · rw [List.getElem?_eq_none (by rw [wipe_length, wipe_length]; omega), List.getElem?_eq_none (by rw [wipe_length]; omega)]
  · rw [wipe_get hi]
theorem Rp.wipe {w : World} {K : PySem.W.Frag} {B : Bas} {O : List Nat} {ρ : Env'} {σ : L2.St} {G H : Hp} (r : Rp w K B O ρ σ G H) (vs : List Nat) : Rp w K B O (wipeD ρ vs) (L2.wipe σ vs) G H where
  len := by rw [wipe_length, wipeD_len]; exact r.len
  gr := r.gr
  dat := fun i d e n => by
    obtain ⟨h1, h2⟩ := wipeD_some e
    obtain ⟨v, q1, q2⟩ := r.dat i d h1 n
    exact ⟨v, by rw [wipe_get h2]; exact q1, q2⟩
  own := fun i d e n => by
    obtain ⟨h1, h2⟩ := wipeD_some e
    obtain ⟨a, q1, q2⟩ := r.own i d h1 n
    exact ⟨a, by rw [wipe_get h2]; exact q1, q2⟩
  sep := fun i j a di dj hi hj e1 e2 s1 s2 => by
    obtain ⟨h1, h2⟩ := wipeD_some e1
    obtain ⟨h3, h4⟩ := wipeD_some e2
    rw [wipe_get h2] at s1
    rw [wipe_get h4] at s2
    exact r.sep i j a di dj hi hj h1 h3 s1 s2
theorem noX_in {α : Type} {x : R α} {q : α → Prop} {e : Nat → D → Prop} (h : gd (noX x) q e) : ∃ a, x = .ok a ∧ q a := by
  cases x with
  | ok a => exact ⟨a, rfl, h⟩
  | error er => cases er <;> exact h.elim
theorem bind_ok {α β : Type} {x : R α} {f : α → R β} {b : β} (h : (x >>= f) = .ok b) : ∃ a, x = .ok a ∧ f a = .ok b := by
  cases x with
  | ok a => exact ⟨a, rfl, h⟩
  | error er => cases h
theorem gd_of {α : Type} {x : R α} {a : α} {q : α → Prop} {e : Nat → D → Prop} (h : x = .ok a) (hq : q a) : gd x q e := by rw [h]; exact hq
theorem lcD_len {tg : D → Env' → R Env'} {ft : Env' → R Bool} {fe : Env' → R D} {ρ : Env'} : ∀ {ds ys : List D}, lcD tg ft fe ρ ds = .ok ys → ys.length ≤ ds.length
  | [], ys, h => by cases h; exact Nat.le_refl _
  | d :: ds, ys, h => by
    obtain ⟨ρ1, h1, h⟩ := bind_ok (show (tg d ρ >>= fun ρ1 => ft ρ1 >>= fun b => if b then fe ρ1 >>= fun y => lcD tg ft fe ρ ds >>= fun ys => .ok (y :: ys) else lcD tg ft fe ρ ds) = .ok ys from h)
    obtain ⟨b, h2, h⟩ := bind_ok h
    cases b with
    | true =>
      obtain ⟨y, h3, h⟩ := bind_ok (show (fe ρ1 >>= fun y => lcD tg ft fe ρ ds >>= fun ys => .ok (y :: ys)) = .ok ys from h)
      obtain ⟨zs, h4, h⟩ := bind_ok h
      cases h
      have := lcD_len h4
      rw [List.length_cons, List.length_cons]
      omega
    | false =>
      have := lcD_len (show lcD tg ft fe ρ ds = .ok ys from h)
      rw [List.length_cons]
      omega

section
variable {X : Cx} {elt tgt iter : Expr} {ifs : List Expr} {scope : Scope} {own : List (Str × Nat)} {pos : Pos} {e : Bas → Nat → D → Prop} {O vs : List Nat} {fi : Env' → R (List D)} {tg : D → Env' → R Env'} {ft : Env' → R Bool} {fe : Env' → R D}
/-- the tests of a clause -/
theorem pts_imp {t t' : TT} (h : PTs X ifs t) (i : ∀ σ H Q, t' σ H Q → t σ H Q) : PTs X ifs t' := ⟨fun p s σ H Q I q => h.run p s σ H Q I (i σ H Q q)⟩
theorem t_no : PTs X [] (tW X.w X.K e O fun _ => .ok true) := pts_imp pts_nil fun σ H Q ⟨B, ρ, G, r, q⟩ => q G H r.here
theorem t_one {c : Expr} {fw : Env' → R Bool} (h : PT X c (tW X.w X.K e O fw)) : PTs X [c] (tW X.w X.K e O fw) := pts_one h
/-- the meaning of a comprehension -/
def compD (vs : List Nat) (fi : Env' → R (List D)) (tg : D → Env' → R Env') (ft : Env' → R Bool) (fe : Env' → R D) : Env' → R D := fun ρ => fi ρ >>= fun ds => lenOk ds.length >>= fun _ => noX (lcD tg ft fe (wipeD ρ vs) ds) >>= fun ys => .ok (.list ys)
theorem lc_in {w : World} {K : PySem.W.Frag} {σ : L2.St} {H : Hp} {Q : VK} {ws : List Nat} (hv : ∀ j ∈ ws, j ∈ vs)
    (h : tO w K e O (compD vs fi tg ft fe) σ H Q) : tLc (iV w K e O fi) (gT w K noE O ws tg) (tW w K noE O ft) (tV w K noE O fe) vs σ H Q := by
  obtain ⟨B, ρ, G, r, q⟩ := h
  refine ⟨B, ρ, G, r, gd_mono (gd_bind.mp q) fun ds q J G1 H1 g1 wk A nA => ?_⟩
  obtain ⟨hlen, q⟩ := lenOk_in (gd_bind.mp q)
  obtain ⟨ys, eys, q⟩ := noX_in (gd_bind.mp q)
  have r1 := r.grow g1
  have nA0 : H A = none := by
    cases z : H A with
    | none => rfl
    | some o => rw [g1.keep A o z] at nA; cases nA
  have nG1 : G1 A = none := by
    cases z : G1 A with
    | none => rfl
    | some o => rw [g1.sub A o z] at nA; cases nA
  have gA := Gr.own (o := .lst []) g1.sub nA
  have nB : B.H A = none := by
    cases z : B.H A with
    | none => rfl
    | some o => rw [r.gr.keep A o z] at nA0; cases nA0
  have ap : ∀ (i : Nat) (d : D), i ∈ O → (wipeD ρ vs)[i]? = some (some d) → (wipe σ vs)[i]? ≠ some (some (.ref A)) := fun i d hi e z => by
    obtain ⟨b, q1, q2, _⟩ := (r1.wipe vs).own i d e hi
    rw [z] at q1; cases q1
    obtain ⟨u, hu⟩ := q2.there
    rw [hu] at nA; cases nA
  refine ⟨fun i m H' => m = ds.length - i ∧ i ≤ ds.length ∧ ∃ G' acc dacc rest, Rp w K B O (wipeD ρ vs) (wipe σ vs) G' H' ∧ Gr G1 H1 G' H' ∧ G' A = none ∧ H' A = some (.lst acc) ∧ DtAll w K G' acc dacc ∧ lcD tg ft fe (wipeD ρ vs) (ds.drop i) = .ok rest ∧ dacc ++ rest = ys ∧ dacc.length ≤ i, ⟨ds.length, rfl, Nat.zero_le _, G1, [], [], ys, (r1.grow gA).wipe vs, gA, nG1, upd_same, .nil, eys, rfl, Nat.le_refl _⟩, fun i m H' hW => ?_⟩
  obtain ⟨rfl, hi, G', acc, dacc, rest, r', g', nG, hA, tA, eR, eY, hdl⟩ := hW
  by_cases hl : i < ds.length
  · refine .inr ⟨wk.go i G' H' (g'.up g1.sub) g'.sub hl, fun H2 => ∃ G2 acc dacc rest, Rp w K B O (wipeD ρ vs) (wipe σ vs) G2 H2 ∧ Gr G1 H1 G2 H2 ∧ G2 A = none ∧ H2 A = some (.lst acc) ∧ DtAll w K G2 acc dacc ∧ lcD tg ft fe (wipeD ρ vs) (ds.drop (i + 1)) = .ok rest ∧ dacc ++ rest = ys ∧ dacc.length ≤ i + 1, fun H2 h2 => ⟨ds.length - (i + 1), by omega, rfl, hl, h2⟩, fun x H2 y => ?_⟩
    obtain ⟨G2, g2, t2⟩ := wk.yld i ds[i] G' H' x H2 (g'.up g1.sub) g'.sub (List.getElem?_eq_getElem hl) y
    rw [List.drop_eq_getElem_cons hl] at eR
    obtain ⟨ρ1, e1, eR⟩ := bind_ok (show (tg ds[i] (wipeD ρ vs) >>= fun ρ1 => ft ρ1 >>= fun b => if b then fe ρ1 >>= fun y => lcD tg ft fe (wipeD ρ vs) (ds.drop (i + 1)) >>= fun ys => .ok (y :: ys) else lcD tg ft fe (wipeD ρ vs) (ds.drop (i + 1))) = .ok rest from eR)
    obtain ⟨b, e2, eR⟩ := bind_ok eR
    have neA : H' A ≠ none := by rw [hA]; exact fun z => nomatch z
    refine ⟨B, wipeD ρ vs, G2, ds[i], r'.grow g2, t2, gd_of e1 fun σ2 k2 r2 => ⟨?_, B, ρ1, G2, r2, gd_of e2 fun G3 H3 g3 => ?_⟩⟩
    · have := wipe_same (vs := vs) k2.len k2.off hv
      rw [this, wipe_wipe]
    · have g23 := g2.trans g3
      cases b with
      | false =>
        refine iteF ⟨G3, acc, dacc, rest, r'.grow g23, g'.trans g23, (g23.fix A neA).trans nG, g23.keep A _ hA, tA.sub (g23.up g'.sub), eR, eY, by omega⟩
      | true =>
        obtain ⟨y1, e3, eR⟩ := bind_ok (show (fe ρ1 >>= fun y => lcD tg ft fe (wipeD ρ vs) (ds.drop (i + 1)) >>= fun ys => .ok (y :: ys)) = .ok rest from eR)
        obtain ⟨zs, e4, eR⟩ := bind_ok eR
        cases eR
        refine iteT ⟨B, ρ1, G3, r2.grow g3, gd_of e3 fun u G4 H4 g4 t4 => ?_⟩
        have g24 := g23.trans g4
        have hA4 := g24.keep A _ hA
        have nG4 : G4 A = none := (g24.fix A neA).trans nG
        refine ⟨acc, hA4, by rw [tA.length]; omega, G4, acc ++ [u], dacc ++ [y1], zs, ?_, ?_, nG4, upd_same, (tA.sub (g24.up g'.sub)).append (.one t4), e4, by rw [List.append_assoc]; exact eY, by rw [List.length_append, List.length_singleton]; omega⟩
        · exact (r'.grow g24).out nG4 nB ap
        · exact (g'.trans g24).wr nA nG4
  · have ei : i = ds.length := by omega
    subst ei
    rw [List.drop_length] at eR
    cases eR
    rw [List.append_nil] at eY
    subst eY
    exact .inl ⟨wk.stop G' H' (g'.up g1.sub) g'.sub, q A G' H' (g1.trans g') nA0 nG (.inl ⟨acc, dacc, rfl, hA, tA⟩)⟩
end
end Vs

set_option Elab.async false
set_option linter.all false
set_option maxRecDepth 100000
/-! Comprehensions as expressions, lists of one's own written, the rule for a def. -/
namespace Vs
open PySem PySem.Spec PyProof.Rows L2

section
variable {X : Cx} {elt tgt iter tgt1 iter1 : Expr} {ifs ifs1 : List Expr} {scope : Scope} {own : List (Str × Nat)} {pos : Pos} {e : Bas → Nat → D → Prop} {O O' vs vs1 ws ws1 : List Nat} {fi fi1 : Env' → R (List D)} {tg tg1 : D → Env' → R Env'} {ft ft1 : Env' → R Bool} {fe : Env' → R D} {fr : Bool}
abbrev Blk (X : Cx) (scope : Scope) (φ : Cx → Prop) : Prop := ∀ (s : Shared) (H : Hp) (C : Addr) (cl : List (Str × Addr)) (fp : List Addr), φ (X.blk s H scope (compEnvC scope cl C X.env) fp)
theorem tlc_eq (hv : vs = own.map (·.2)) {wi : TI} {g : TG} {tt : TT} {te : TE} : tLc wi g tt te (own.map (·.2)) = tLc wi g tt te vs := by rw [hv]
theorem o_lc (own : List (Str × Nat)) (hc : X.calm = true) (hN : X.N.Nodup) (hi : PI X tgt iter (iV X.w X.K e O fi)) (ok : BlkOk X.N X.env.scope scope own) (hg : Blk X scope fun Y => PG Y tgt (gT Y.w Y.K noE O ws tg)) (ht : Blk X scope fun Y => PTs Y ifs (tW Y.w Y.K noE O ft)) (he : Blk X scope fun Y => PE Y elt (tV Y.w Y.K noE O fe))
    (hv : ∀ j ∈ ws, j ∈ own.map (·.2) := by decide) (hs : ∀ x, foldedSetIterable iter X.env x = pure x := by intro _; rfl) : PE X (.ListComp elt [⟨tgt, iter, ifs, 0⟩] scope pos) (tO X.w X.K e O (compD (own.map (·.2)) fi tg ft fe)) :=
  pe_imp (pe_lc hc hN hi ok hg ht he hs) fun σ H Q h => lc_in hv h
/-- x = [..] on one line, x a local -/
theorem s_lc (own : List (Str × Nat)) (i : Nat) {y : Str} {py spos : Pos} (hc : X.calm = true) (hN : X.N.Nodup) (hsw : swapsWith (.ListComp elt [⟨tgt, iter, ifs, 0⟩] scope pos) (some (.Name y py)) spos.line X.env = pure true) (hi : PI X tgt iter (iV X.w X.K e O fi)) (ok : BlkOk X.N X.env.scope scope own) (hg : Blk X scope fun Y => PG Y tgt (gT Y.w Y.K noE O ws tg)) (ht : Blk X scope fun Y => PTs Y ifs (tW Y.w Y.K noE O ft)) (he : Blk X scope fun Y => PE Y elt (tV Y.w Y.K noE O fe))
    (h0 : i ∈ O' := by decide) (h1 : ∀ j ∈ O', j = i ∨ j ∈ O := by decide) (h2 : ∀ j ∈ O, j = i ∨ j ∈ O' := by decide) (hy : X.N[i]? = some y := by rfl) (hyl : X.env.scope.names.lookup y = some .local := by rfl) (hv : ∀ j ∈ ws, j ∈ own.map (·.2) := by decide) (hs : ∀ x, foldedSetIterable iter X.env x = pure x := by intro _; rfl) :
    PS X (.Assign [.Name y py] (.ListComp elt [⟨tgt, iter, ifs, 0⟩] scope pos) spos) (sV X.w X.K e O O' fr fun ρ => compD (own.map (·.2)) fi tg ft fe ρ >>= fun d => setD i d ρ) := by
  refine ps_imp (ps_setLc (g := gT X.w X.K noE O ws tg) (tt := tW X.w X.K noE O ft) (te := tV X.w X.K noE O fe) hc hN hy hyl hsw hi ok hg ht he hs) fun Dn σ H ⟨B, ρ, G, r, q⟩ => ?_
  exact lc_in (e := e) hv ⟨B, ρ, G, r, gd_mono (gd_bind.mp q) fun d q p G1 H1 g1 n1 n2 o => q _ G1 H1 (g1.up r.sub) (r.putO g1 n1 n2 o h0 h1 h2)⟩

def lcD2 (tg : D → Env' → R Env') (ft : Env' → R Bool) (fi1 : Env' → R (List D)) (vs1 : List Nat) (tg1 : D → Env' → R Env') (ft1 : Env' → R Bool) (fe : Env' → R D) (ρ : Env') : List D → R (List D)
  | [] => .ok []
  | d :: ds => tg d ρ >>= fun ρ1 => ft ρ1 >>= fun b => if b then fi1 ρ1 >>= fun ds1 => lcD tg1 ft1 fe (wipeD ρ1 vs1) ds1 >>= fun ys => lcD2 tg ft fi1 vs1 tg1 ft1 fe ρ ds >>= fun zs => .ok (ys ++ zs) else lcD2 tg ft fi1 vs1 tg1 ft1 fe ρ ds
def compD2 (vs vs1 : List Nat) (fi : Env' → R (List D)) (tg : D → Env' → R Env') (ft : Env' → R Bool) (fi1 : Env' → R (List D)) (tg1 : D → Env' → R Env') (ft1 : Env' → R Bool) (fe : Env' → R D) : Env' → R D :=
  fun ρ => fi ρ >>= fun ds => noX (lcD2 tg ft fi1 vs1 tg1 ft1 fe (wipeD ρ vs) ds) >>= fun ys => lenOk ys.length >>= fun _ => .ok (.list ys)
theorem lc2_in {w : World} {K : PySem.W.Frag} {σ : L2.St} {H : Hp} {Q : VK} (hv : ∀ j ∈ ws, j ∈ vs) (hv1 : ∀ j ∈ ws1, j ∈ vs1)
    (h : tO w K e O (compD2 vs vs1 fi tg ft fi1 tg1 ft1 fe) σ H Q) : tLc2 (iV w K e O fi) (gT w K noE O ws tg) (tW w K noE O ft) (iV w K noE O fi1) (gT w K noE O ws1 tg1) (tW w K noE O ft1) (tV w K noE O fe) vs vs1 σ H Q := by
  obtain ⟨B, ρ, G, r, q⟩ := h
  refine ⟨B, ρ, G, r, gd_mono (gd_bind.mp q) fun ds q J G1 H1 g1 wk A nA => ?_⟩
  obtain ⟨ys, eys, q⟩ := noX_in (gd_bind.mp q)
  obtain ⟨hlen, q⟩ := lenOk_in (gd_bind.mp q)
  have r1 := r.grow g1
  have nA0 : H A = none := by
    cases z : H A with
    | none => rfl
    | some o => rw [g1.keep A o z] at nA; cases nA
  have nG1 : G1 A = none := by
    cases z : G1 A with
    | none => rfl
    | some o => rw [g1.sub A o z] at nA; cases nA
  have gA := Gr.own (o := .lst []) g1.sub nA
  have nB : B.H A = none := by
    cases z : B.H A with
    | none => rfl
    | some o => rw [r.gr.keep A o z] at nA0; cases nA0
  have ap : ∀ (i : Nat) (d : D), i ∈ O → (wipeD ρ vs)[i]? = some (some d) → (wipe σ vs)[i]? ≠ some (some (.ref A)) := fun i d hi e z => by
    obtain ⟨b, q1, q2, _⟩ := (r1.wipe vs).own i d e hi
    rw [z] at q1; cases q1
    obtain ⟨u, hu⟩ := q2.there
    rw [hu] at nA; cases nA
  refine ⟨fun i m H' => m = ds.length - i ∧ i ≤ ds.length ∧ ∃ G' acc dacc rest, Rp w K B O (wipeD ρ vs) (wipe σ vs) G' H' ∧ Gr G1 H1 G' H' ∧ G' A = none ∧ H' A = some (.lst acc) ∧ DtAll w K G' acc dacc ∧ lcD2 tg ft fi1 vs1 tg1 ft1 fe (wipeD ρ vs) (ds.drop i) = .ok rest ∧ dacc ++ rest = ys, ⟨ds.length, rfl, Nat.zero_le _, G1, [], [], ys, (r1.grow gA).wipe vs, gA, nG1, upd_same, .nil, eys, rfl⟩, fun i m H' hW => ?_⟩
  obtain ⟨rfl, hi, G', acc, dacc, rest, r', g', nG, hA, tA, eR, eY⟩ := hW
  by_cases hl : i < ds.length
  · refine .inr ⟨wk.go i G' H' (g'.up g1.sub) g'.sub hl, fun H2 => ∃ G2 acc dacc rest, Rp w K B O (wipeD ρ vs) (wipe σ vs) G2 H2 ∧ Gr G1 H1 G2 H2 ∧ G2 A = none ∧ H2 A = some (.lst acc) ∧ DtAll w K G2 acc dacc ∧ lcD2 tg ft fi1 vs1 tg1 ft1 fe (wipeD ρ vs) (ds.drop (i + 1)) = .ok rest ∧ dacc ++ rest = ys, fun H2 h2 => ⟨ds.length - (i + 1), by omega, rfl, hl, h2⟩, fun x H2 y => ?_⟩
    obtain ⟨G2, g2, t2⟩ := wk.yld i ds[i] G' H' x H2 (g'.up g1.sub) g'.sub (List.getElem?_eq_getElem hl) y
    rw [List.drop_eq_getElem_cons hl] at eR
    obtain ⟨ρ1, e1, eR⟩ := bind_ok (show (tg ds[i] (wipeD ρ vs) >>= fun ρ1 => ft ρ1 >>= fun b => if b then fi1 ρ1 >>= fun ds1 => lcD tg1 ft1 fe (wipeD ρ1 vs1) ds1 >>= fun ys => lcD2 tg ft fi1 vs1 tg1 ft1 fe (wipeD ρ vs) (ds.drop (i + 1)) >>= fun zs => .ok (ys ++ zs) else lcD2 tg ft fi1 vs1 tg1 ft1 fe (wipeD ρ vs) (ds.drop (i + 1))) = .ok rest from eR)
    obtain ⟨b, e2, eR⟩ := bind_ok eR
    have neA : H' A ≠ none := by rw [hA]; exact fun z => nomatch z
    refine ⟨B, wipeD ρ vs, G2, ds[i], r'.grow g2, t2, gd_of e1 fun σ2 k2 r2 => ⟨?_, B, ρ1, G2, r2, gd_of e2 fun G3 H3 g3 => ?_⟩⟩
    · have := wipe_same (vs := vs) k2.len k2.off hv
      rw [this, wipe_wipe]
    · have g23 := g2.trans g3
      cases b with
      | false => exact iteF ⟨G3, acc, dacc, rest, r'.grow g23, g'.trans g23, (g23.fix A neA).trans nG, g23.keep A _ hA, tA.sub (g23.up g'.sub), eR, eY⟩
      | true =>
        obtain ⟨ds1, e3, eR⟩ := bind_ok (show (fi1 ρ1 >>= fun ds1 => lcD tg1 ft1 fe (wipeD ρ1 vs1) ds1 >>= fun ys => lcD2 tg ft fi1 vs1 tg1 ft1 fe (wipeD ρ vs) (ds.drop (i + 1)) >>= fun zs => .ok (ys ++ zs)) = .ok rest from eR)
        obtain ⟨ys1, e4, eR⟩ := bind_ok eR
        obtain ⟨zs, e5, eR⟩ := bind_ok eR
        cases eR
        have ap2 : ∀ (i : Nat) (d : D), i ∈ O → (wipeD ρ1 vs1)[i]? = some (some d) → (wipe σ2 vs1)[i]? ≠ some (some (.ref A)) := fun i d hi e z => by
          obtain ⟨z1, z2⟩ := k2.own i hi
          obtain ⟨e1, _⟩ := wipeD_some e
          obtain ⟨z3, _⟩ := wipe_some z
          exact ap i d hi (z1.symm.trans e1) (z2.symm.trans z3)
        refine iteT ⟨B, ρ1, G3, r2.grow g3, gd_of e3 fun J1 G4 H4 g4 wk1 => ?_⟩
        have g24 := g23.trans g4
        refine ⟨fun j k H5 => k = ds1.length - j ∧ j ≤ ds1.length ∧ ∃ G5 acc dacc rest1, Rp w K B O (wipeD ρ vs) (wipe σ vs) G5 H5 ∧ Rp w K B O (wipeD ρ1 vs1) (wipe σ2 vs1) G5 H5 ∧ Gr G1 H1 G5 H5 ∧ Sub G4 G5 ∧ G5 A = none ∧ H5 A = some (.lst acc) ∧ DtAll w K G5 acc dacc ∧ lcD tg1 ft1 fe (wipeD ρ1 vs1) (ds1.drop j) = .ok rest1 ∧ dacc ++ (rest1 ++ zs) = ys,
          ⟨ds1.length, rfl, Nat.zero_le _, G4, acc, dacc, ys1, r'.grow g24, ((r2.grow g3).grow g4).wipe vs1, g'.trans g24, Sub.refl _, (g24.fix A neA).trans nG, g24.keep A _ hA, tA.sub (g24.up g'.sub), e4, eY⟩, fun j k H5 hW => ?_⟩
        obtain ⟨rfl, hj, G5, acc5, dacc5, rest5, r5, r5', g5, s5, nG5, hA5, tA5, eR5, eY5⟩ := hW
        have neA5 : H5 A ≠ none := by rw [hA5]; exact fun z => nomatch z
        by_cases hl5 : j < ds1.length
        · refine .inr ⟨wk1.go j G5 H5 s5 r5.sub hl5, fun H6 => ∃ G6 acc dacc rest1, Rp w K B O (wipeD ρ vs) (wipe σ vs) G6 H6 ∧ Rp w K B O (wipeD ρ1 vs1) (wipe σ2 vs1) G6 H6 ∧ Gr G1 H1 G6 H6 ∧ Sub G4 G6 ∧ G6 A = none ∧ H6 A = some (.lst acc) ∧ DtAll w K G6 acc dacc ∧ lcD tg1 ft1 fe (wipeD ρ1 vs1) (ds1.drop (j + 1)) = .ok rest1 ∧ dacc ++ (rest1 ++ zs) = ys, fun H6 h6 => ⟨ds1.length - (j + 1), by omega, rfl, hl5, h6⟩, fun x6 H6 y6 => ?_⟩
          obtain ⟨G6, g6, t6⟩ := wk1.yld j ds1[j] G5 H5 x6 H6 s5 r5.sub (List.getElem?_eq_getElem hl5) y6
          rw [List.drop_eq_getElem_cons hl5] at eR5
          obtain ⟨ρ6, f1, eR5⟩ := bind_ok (show (tg1 ds1[j] (wipeD ρ1 vs1) >>= fun ρ1' => ft1 ρ1' >>= fun b => if b then fe ρ1' >>= fun y => lcD tg1 ft1 fe (wipeD ρ1 vs1) (ds1.drop (j + 1)) >>= fun ys => .ok (y :: ys) else lcD tg1 ft1 fe (wipeD ρ1 vs1) (ds1.drop (j + 1))) = .ok rest5 from eR5)
          obtain ⟨b6, f2, eR5⟩ := bind_ok eR5
          refine ⟨B, wipeD ρ1 vs1, G6, ds1[j], r5'.grow g6, t6, gd_of f1 fun σ6 k6 r6 => ⟨?_, B, ρ6, G6, r6, gd_of f2 fun G7 H7 g7 => ?_⟩⟩
          · have := wipe_same (vs := vs1) k6.len k6.off hv1
            rw [this, wipe_wipe]
          · have g67 := g6.trans g7
            cases b6 with
            | false => exact iteF ⟨G7, acc5, dacc5, rest5, r5.grow g67, r5'.grow g67, g5.trans g67, s5.trans (g67.up r5.sub), (g67.fix A neA5).trans nG5, g67.keep A _ hA5, tA5.sub (g67.up r5.sub), eR5, eY5⟩
            | true =>
              obtain ⟨y1, f3, eR5⟩ := bind_ok (show (fe ρ6 >>= fun y => lcD tg1 ft1 fe (wipeD ρ1 vs1) (ds1.drop (j + 1)) >>= fun ys => .ok (y :: ys)) = .ok rest5 from eR5)
              obtain ⟨us, f4, eR5⟩ := bind_ok eR5
              cases eR5
              refine iteT ⟨B, ρ6, G7, r6.grow g7, gd_of f3 fun u G8 H8 g8 t8 => ?_⟩
              have g68 := g67.trans g8
              have hA8 := g68.keep A _ hA5
              have nG8 : G8 A = none := (g68.fix A neA5).trans nG5
              have hle : dacc5.length < ys.length := by
                rw [← eY5]
                simp only [List.length_append, List.length_cons]
                omega
              refine ⟨acc5, hA8, by rw [tA5.length]; omega, G8, acc5 ++ [u], dacc5 ++ [y1], us, (r5.grow g68).out nG8 nB ap, (r5'.grow g68).out nG8 nB ap2, (g5.trans g68).wr nA nG8, s5.trans (g68.up r5.sub), nG8, upd_same, (tA5.sub (g68.up r5.sub)).append (.one t8), f4, ?_⟩
              rw [List.append_assoc]
              exact eY5
        · have ej : j = ds1.length := by omega
          subst ej
          rw [List.drop_length] at eR5
          cases eR5
          exact .inl ⟨wk1.stop G5 H5 s5 r5.sub, G5, acc5, dacc5, zs, r5, g5, nG5, hA5, tA5, e5, eY5⟩
  · have ei : i = ds.length := by omega
    subst ei
    rw [List.drop_length] at eR
    cases eR
    rw [List.append_nil] at eY
    subst eY
    exact .inl ⟨wk.stop G' H' (g'.up g1.sub) g'.sub, q A G' H' (g1.trans g') nA0 nG (.inl ⟨acc, dacc, rfl, hA, tA⟩)⟩
theorem o_lc2 (own : List (Str × Nat)) (vs1 : List Nat) (hc : X.calm = true) (hN : X.N.Nodup) (hi : PI X tgt iter (iV X.w X.K e O fi)) (ok : BlkOk X.N X.env.scope scope own) (hg : Blk X scope fun Y => PG Y tgt (gT Y.w Y.K noE O ws tg)) (ht : Blk X scope fun Y => PTs Y ifs (tW Y.w Y.K noE O ft))
    (hi1 : Blk X scope fun Y => PI Y tgt1 iter1 (iV Y.w Y.K noE O fi1)) (hg1 : Blk X scope fun Y => PG Y tgt1 (gT Y.w Y.K noE O ws1 tg1)) (ht1 : Blk X scope fun Y => PTs Y ifs1 (tW Y.w Y.K noE O ft1)) (he : Blk X scope fun Y => PE Y elt (tV Y.w Y.K noE O fe))
    (hvo : ∀ i ∈ vs1, i ∈ own.map (·.2) := by decide) (hv : ∀ j ∈ ws, j ∈ own.map (·.2) := by decide) (hv1 : ∀ j ∈ ws1, j ∈ vs1 := by decide) (hs : ∀ x, foldedSetIterable iter X.env x = pure x := by intro _; rfl) (hs1 : ∀ env x, foldedSetIterable iter1 env x = pure x := by intro _ _; rfl) :
    PE X (.ListComp elt [⟨tgt, iter, ifs, 0⟩, ⟨tgt1, iter1, ifs1, 0⟩] scope pos) (tO X.w X.K e O (compD2 (own.map (·.2)) vs1 fi tg ft fi1 tg1 ft1 fe)) :=
  pe_imp (pe_lc2 (g := gT X.w X.K noE O ws tg) (tt := tW X.w X.K noE O ft) (wi1 := iV X.w X.K noE O fi1) (g1 := gT X.w X.K noE O ws1 tg1) (tt1 := tW X.w X.K noE O ft1) (te := tV X.w X.K noE O fe) hc hN hi ok hvo hg ht hi1 hg1 ht1 he hs hs1) fun σ H Q h => lc2_in hv hv1 h
end

/-! ### lists of one's own written -/
section
variable {X : Cx} {a : Expr} {pos p apos cpos : Pos} {e : Bas → Nat → D → Prop} {O : List Nat} {fr : Bool} {fa : Env' → R D}
theorem gv_in {e : Nat → D → Prop} {ρ : Env'} {i : Nat} {q : D → Prop} (h : gd (gv ρ i) q e) : ∃ d, ρ[i]? = some (some d) ∧ q d := by
  unfold gv at h
  cases z : ρ[i]? with
  | none => rw [z] at h; exact h.elim
  | some o =>
    cases o with
    | none => rw [z] at h; exact h.elim
    | some d => rw [z] at h; exact ⟨d, rfl, h⟩
def gl (ρ : Env') (i : Nat) : R (List D) := gv ρ i >>= itL
theorem gl_in {e : Nat → D → Prop} {ρ : Env'} {i : Nat} {q : List D → Prop} (h : gd (gl ρ i) q e) : ∃ ds, ρ[i]? = some (some (.list ds)) ∧ q ds := by
  obtain ⟨d, e1, h⟩ := gv_in (gd_bind.mp h)
  cases d <;> first | exact ⟨_, e1, h⟩ | exact h.elim
def apD (i : Nat) (xs : List D) (d : D) (ρ : Env') : R Out := if xs.length < 16777216 then setD i (.list (xs ++ [d])) ρ else stk
/-- x.append(e), x one's own -/
theorem s_app (i : Nat) {x : Str} (h : PE X a (tV X.w X.K e O fa)) (hi : i ∈ O := by decide) (hN : X.N[i]? = some x := by rfl) (hv : Vis X.env.scope x := by first | exact Or.inl rfl | exact Or.inr (Or.inl rfl) | exact Or.inr (Or.inr rfl)) (hd : (x == ("__debug__" : Str)) = false := by decide) (hc : (x == ("__classdict__" : Str)) = false := by decide)
    (hbase : attributeBase (.Name x p) "append" X.env (eval (.Name x p) X.env) = eval (.Name x p) X.env := by rfl)
    (hfew : ((backTo cpos (starEach [a] X.env)).all (fun x => !x.1) && (backToKw cpos (keywordEach [] X.env)).all (fun x => x.1.isSome) && decide ([a].length + ([] : List Keyword).length + (if ([] : List Keyword).isEmpty then 0 else 1) < 30)) = true := by rfl)
    (hline : (apos.endLine == cpos.line) = true := by rfl) (hst : starEach [a] X.env = (false, eval a X.env) :: starEach [] X.env := by rfl) (hpl : (backTo cpos (starEach [] X.env)).any (·.1) = false := by rfl)
    (hs : swapsWith (.Call (.Attribute (.Name x p) "append" apos) [a] [] cpos) none pos.line X.env = pure false := by rfl) :
    PS X (.Expr (.Call (.Attribute (.Name x p) "append" apos) [a] [] cpos) pos) (sV X.w X.K e O O fr fun ρ => gl ρ i >>= fun xs => fa ρ >>= fun d => apD i xs d ρ) := by
  refine ps_imp (ps_expr (pe_bm PySem.F.plainAttrs_list PySem.F.slot_list_append PySem.F.type_list_append mt_append (pv i hN hv hd hc) (pa_cons h pa_nil hst) hbase hfew hline hst hpl) hs) fun Dn σ H ⟨B, ρ, G, r, q⟩ => ?_
  obtain ⟨xs, e0, q⟩ := gl_in (gd_bind.mp q)
  obtain ⟨A, s0, o, n1, n2⟩ := r.own i _ e0 hi
  rcases o with ⟨vs, ds, ed, hA, tA⟩ | ⟨_, _, _, _, ed, _⟩
  · cases ed
    refine ⟨.ref A, s0, .inl ⟨rfl, vs, SqL.of hA⟩, B, ρ, G, r, gd_mono (gd_bind.mp q) fun d q v G1 H1 g1 t => ?_⟩
    unfold apD at q
    split at q
    · rename_i hl
      have hA1 := g1.keep A _ hA
      refine ⟨A, vs, v, rfl, rfl, hA1, by rw [tA.length, sizeLine_eq]; exact hl, q _ G1 _ (g1.up r.sub) ((r.grow g1).wr hi e0 s0 (.inl ⟨vs ++ [v], xs ++ [d], rfl, upd_same, (tA.sub (g1.up r.sub)).append (.one t)⟩))⟩
    · exact q.elim
  · cases ed
def exD (i : Nat) (xs : List D) (d : D) (ρ : Env') : R Out := match d with
  | .list ys => if xs.length + ys.length ≤ 16777216 then setD i (.list (xs ++ ys)) ρ else stk
  | _ => stk
/-- the item of a slot of one's own: a list's -/
def atD (xs : List D) (d : D) : R D := match d with
  | .int i => match atI xs i with
    | some y => .ok y
    | none => stk
  | _ => stk
end

/-! ### the rule for a def -/
def ret (fr : Bool) : Out → R D
  | .rt d => .ok d
  | .nx _ => if fr then stk else .ok .none
def arg0 (n : Nat) (ds : List D) : Env' := ds.map some ++ List.replicate (n - ds.length) none
theorem dtAll_start {w : World} {K : PySem.W.Frag} {G H : Hp} (s : Sub G H) {N : List Str} {vs : List V} {ds : List D} (t : DtAll w K G vs ds) : Rp w K ⟨G, H⟩ [] (arg0 N.length ds) (L2.start N vs) G H where
  len := by unfold L2.start arg0; simp only [List.length_append, List.length_map, List.length_replicate, t.length]
  gr := Gr.refl s
  dat := fun i d e _ => by
    unfold arg0 at e
    have hi : i < ds.length := by
      by_cases hi : i < ds.length
      · exact hi
      · rw [List.getElem?_append_right (by rw [List.length_map]; omega), List.getElem?_replicate] at e
        split at e <;> cases e
    rw [List.getElem?_append_left (by rw [List.length_map]; exact hi), List.getElem?_map] at e
    cases q : ds[i]? with
    | none => rw [q] at e; cases e
    | some d' =>
      rw [q] at e; cases e
      obtain ⟨v, h1, h2⟩ := t.get' q
      refine ⟨v, ?_, h2⟩
      unfold L2.start
      rw [List.getElem?_append_left (by rw [List.length_map, t.length]; exact hi), List.getElem?_map, h1]
      rfl
  own := fun _ _ _ z => by cases z
  sep := fun _ _ _ _ _ z => by cases z
section
variable {P : Program} {w : World} {K : PySem.W.Frag} {mg : Str → Option Value} {base : Heap} {cl : Nat → Addr} {x : Str} {st : Stmt} {a : Addr} {fd : FuncData} {N ps : List Str} {k n : Nat} {fr : Bool} {O' : List Nat} {fb : Env' → R Out}
/-- a def from which no error comes: its promise -/
theorem fnok_of (F : Fun K x x st a fd) (S : FnScope N ps (defScope st)) (hn : ps.length = n)
    (body : ∀ (cdv : Value) (A : Around) (outer : List Env) (s : Shared) (H : Hp) (E : XK), Room k (A.deeper (envOfC x (defScope st) s.heap.objs.size a cdv)) →
      PSs (cxOf CX0 P w K mg base N x (defScope st) a cdv A outer s H E).nox (defBody st) (sV w K noE [] O' fr fb)) :
    FnOk P w K mg base CX0 (k + 1) a fd ps (spD w K cl n fr (fun ds => noX (fb (arg0 N.length ds)) >>= ret fr)) := by
  refine F.ok S (fun vs H Q E h => ?_) (fun cdv A outer s H vs Q E hr h => ⟨_, body cdv A outer s H E hr, ?_⟩)
  · obtain ⟨ds, G, _, t, q⟩ := h
    unfold fnD at q
    split at q
    · rename_i hl
      rw [t.length, hl, hn]
    · exact q.elim
  · obtain ⟨ds, G, s1, t, q⟩ := h
    unfold fnD at q
    split at q
    · refine ⟨⟨G, H⟩, _, G, dtAll_start s1 t, ?_⟩
      obtain ⟨o, z, q⟩ := noX_in (gd_bind.mp q)
      rw [z]
      cases o with
      | rt d => exact q
      | nx ρ' =>
        intro σ' G' H' s' r'
        cases fr with
        | true => exact q.elim
        | false => exact q .non G' H' ⟨r'.gr, .non⟩
    · exact q.elim
theorem cal_of {g : Str} (F : Fun K x x st a fd) (m : mg g = some (.ref a)) (S : FnScope N ps (defScope st)) (b : Binds K fd ps []) (hn : ps.length = n)
    (body : ∀ (cdv : Value) (A : Around) (outer : List Env) (s : Shared) (H : Hp) (E : XK), Room k (A.deeper (envOfC x (defScope st) s.heap.objs.size a cdv)) →
      PSs (cxOf CX0 P w K mg base N x (defScope st) a cdv A outer s H E).nox (defBody st) (sV w K noE [] O' fr fb)) :
    Cal P w K mg base CX0 cl (k + 1) g n fr (fun ds => noX (fb (arg0 N.length ds)) >>= ret fr) :=
  ⟨a, fd, ps, fnok_of F S hn body, m, F.kp, b⟩
end
/-- the def under the global g -/
structure Gfn (K : PySem.W.Frag) (mg : Str → Option Value) (g x : Str) (st : Stmt) (ps : List Str) : Prop where
  ex : ∃ (a : Addr) (fd : FuncData), Fun K x x st a fd ∧ mg g = some (.ref a) ∧ Binds K fd ps []
end Vs

set_option Elab.async false
set_option linter.all false
set_option maxRecDepth 100000
/-! Operators on data. -/
namespace Vs
open PySem PySem.Spec PyProof.Rows L2

section
variable {X : Cx} {e : Bas → Nat → D → Prop}

/-! ### whole numbers -/
def arI (g : Int → Int → R D) : D → D → R D
  | .int i, .int j => g i j
  | _, _ => stk
theorem arI_in {e : Nat → D → Prop} {w : World} {K : PySem.W.Frag} {g : Int → Int → R D} {G : Hp} {x y : V} {da db : D} {q : D → Prop} (t1 : Dt w K G x da) (t2 : Dt w K G y db) (h : gd (arI g da db) q e) : ∃ i j, x = .int i ∧ y = .int j ∧ gd (g i j) q e := by
  cases t1 with
  | int i =>
    cases t2 with
    | int j => exact ⟨i, j, rfl, rfl, h⟩
    | non => exact h.elim
    | bl _ => exact h.elim
    | str _ => exact h.elim
    | lst _ _ => exact h.elim
    | tup _ _ => exact h.elim
    | dct _ _ _ _ _ _ => exact h.elim
    | scr _ _ => exact h.elim
    | exc _ _ => exact h.elim
  | non => exact h.elim
  | bl _ => exact h.elim
  | str _ => exact h.elim
  | lst _ _ => exact h.elim
  | tup _ _ => exact h.elim
  | dct _ _ _ _ _ _ => exact h.elim
  | scr _ _ => exact h.elim
  | exc _ _ => exact h.elim
theorem op_i {f : Value → Value → Sem Value} {C : Int → Int → Prop} {c : Int → Int → V} {g : Int → Int → R D} (h : OpR X f (rI C c)) (hg : ∀ i j (q : D → Prop) (e : Nat → D → Prop), gd (g i j) q e → C i j ∧ ∃ d, q d ∧ ∀ G : Hp, Dt X.w X.K G (c i j) d) : OpR X f (r2 X.w X.K (arI g)) :=
  opr_imp h fun x y H Q ⟨G, da, db, e, s, t1, t2, q⟩ => by
    obtain ⟨i, j, rfl, rfl, q⟩ := arI_in t1 t2 q
    obtain ⟨hc, d, q, t⟩ := hg i j _ e q
    exact ⟨i, j, rfl, rfl, hc, q _ G H (Gr.refl s) (t G)⟩
theorem op_i0 {f : Value → Value → Sem Value} {c : Int → Int → V} {g : Int → Int → R D} (h : OpR X f (rI0 c)) (hg : ∀ i j, ∃ d, g i j = .ok d ∧ ∀ G : Hp, Dt X.w X.K G (c i j) d) : OpR X f (r2 X.w X.K (arI g)) :=
  opr_imp h fun x y H Q ⟨G, da, db, e, s, t1, t2, q⟩ => by
    obtain ⟨i, j, rfl, rfl, q⟩ := arI_in t1 t2 q
    obtain ⟨d, z, t⟩ := hg i j
    rw [z] at q
    exact ⟨i, j, rfl, rfl, q _ G H (Gr.refl s) (t G)⟩
def subI : D → D → R D := arI fun i j => .ok (.int (i - j))
theorem d_sub : OpR X (binaryOp .Sub) (r2 X.w X.K subI) := op_i0 op_sub fun i j => ⟨_, rfl, fun _ => .int _⟩
def fdivI : D → D → R D := arI fun i j => if 0 < j ∧ j < 1073741824 then .ok (.int (i / j)) else stk
theorem d_fdiv : OpR X (binaryOp .FloorDiv) (r2 X.w X.K fdivI) := op_i op_fdiv fun i j q e h => by
  split at h
  · rename_i hc; exact ⟨hc, _, h, fun _ => .int _⟩
  · exact h.elim
def modI : D → D → R D := arI fun i j => if 0 < j then .ok (.int (i % j)) else stk
theorem d_mod : OpR X (binaryOp .Mod) (r2 X.w X.K modI) := op_i op_mod fun i j q e h => by
  split at h
  · rename_i hc; exact ⟨hc, _, h, fun _ => .int _⟩
  · exact h.elim
def powI : D → D → R D := arI fun i j => if 0 ≤ j ∧ j ≤ 1000000 ∧ i.natAbs < 18446744073709551616 then .ok (.int (i ^ j.toNat)) else stk
theorem d_pow : OpR X (binaryOp .Pow) (r2 X.w X.K powI) := op_i op_pow fun i j q e h => by
  split at h
  · rename_i hc; exact ⟨⟨hc.1, hc.2.1, by have := hc.2.2; omega⟩, _, h, fun _ => .int _⟩
  · exact h.elim
/-- ints compared -/
def cmpI (p : Int → Int → Bool) : D → D → R D := arI fun i j => .ok (.bool (p i j))
theorem d_ltI : OpR X (compareOp .Lt) (r2 X.w X.K (cmpI fun i j => decide (i < j))) := op_i0 op_lt fun i j => ⟨_, rfl, fun _ => .bl _⟩
theorem d_leI : OpR X (compareOp .LtE) (r2 X.w X.K (cmpI fun i j => decide (i ≤ j))) := op_i0 op_le fun i j => ⟨_, rfl, fun _ => .bl _⟩
theorem d_gtI : OpR X (compareOp .Gt) (r2 X.w X.K (cmpI fun i j => decide (j < i))) := op_i0 op_gt fun i j => ⟨_, rfl, fun _ => .bl _⟩
theorem d_geI : OpR X (compareOp .GtE) (r2 X.w X.K (cmpI fun i j => decide (j ≤ i))) := op_i0 op_ge fun i j => ⟨_, rfl, fun _ => .bl _⟩
/-- a < b < c -/
theorem ch_in {a b c : Expr} {O : List Nat} {fa fb fc : Env' → R D} {p q : Int → Int → Bool} {σ : L2.St} {H : Hp} {Q : VK}
    (h : tV X.w X.K e O (fun ρ => fa ρ >>= fun x => fb ρ >>= fun y => asI x >>= fun i => asI y >>= fun j => if p i j then fc ρ >>= fun z => asI z >>= fun k => .ok (.bool (q j k)) else .ok (.bool false)) σ H Q) :
    tChain (rI0 fun i j => .bl (p i j)) (rI0 fun i j => .bl (q i j)) (tV X.w X.K e O fa) (tV X.w X.K e O fb) (tV X.w X.K e O fc) σ H Q := by
  obtain ⟨B, ρ, G, r, h⟩ := h
  refine ⟨B, ρ, G, r, gd_mono (gd_bind.mp h) fun da h v G1 H1 g1 t1 => ⟨B, ρ, G1, r.grow g1, gd_mono (gd_bind.mp h) fun db h u G2 H2 g2 t2 => ?_⟩⟩
  obtain ⟨i, rfl, h⟩ := asI_in t1 (gd_bind.mp h)
  obtain ⟨j, rfl, h⟩ := asI_in t2 (gd_bind.mp h)
  refine ⟨i, j, rfl, rfl, _, rfl, ?_⟩
  split at h
  · rename_i hp
    rw [hp]
    refine iteT ⟨B, ρ, G2, (r.grow g1).grow g2, gd_mono (gd_bind.mp h) fun dc h y G3 H3 g3 t3 => ?_⟩
    obtain ⟨k, rfl, h⟩ := asI_in t3 (gd_bind.mp h)
    exact ⟨j, k, rfl, rfl, h _ G3 H3 ((g1.trans g2).trans g3) (.bl _)⟩
  · rename_i hp
    rw [Bool.not_eq_true] at hp
    rw [hp]
    exact iteF (h _ G2 H2 (g1.trans g2) (.bl _))
abbrev chD (p q : Int → Int → Bool) (fa fb fc : Env' → R D) : Env' → R D := fun ρ => fa ρ >>= fun x => fb ρ >>= fun y => asI x >>= fun i => asI y >>= fun j => if p i j then fc ρ >>= fun z => asI z >>= fun k => .ok (.bool (q j k)) else .ok (.bool false)
theorem v_ch {op op' : CmpOp} {a b c : Expr} {pos : Pos} {O : List Nat} {fa fb fc : Env' → R D} {p q : Int → Int → Bool} (h1 : OpR X (compareOp op) (rI0 fun i j => .bl (p i j))) (h2 : OpR X (compareOp op') (rI0 fun i j => .bl (q i j))) (ha : PE X a (tV X.w X.K e O fa)) (hb : PE X b (tV X.w X.K e O fb)) (hc : PE X c (tV X.w X.K e O fc))
    (hm : lastMarks [op, op'] [b, c] = false := by with_unfolding_all rfl) : PE X (.Compare a [op, op'] [b, c] pos) (tV X.w X.K e O (chD p q fa fb fc)) := pe_imp (pe_chain h1 h2 ha hb hc hm) fun _ _ _ h => ch_in (a := a) (b := b) (c := c) h
theorem w_ch {op op' : CmpOp} {a b c : Expr} {pos : Pos} {O : List Nat} {fa fb fc : Env' → R D} {p q : Int → Int → Bool} (h1 : OpR X (compareOp op) (rI0 fun i j => .bl (p i j))) (h2 : OpR X (compareOp op') (rI0 fun i j => .bl (q i j))) (ha : PE X a (tV X.w X.K e O fa)) (hb : PE X b (tV X.w X.K e O fb)) (hc : PE X c (tV X.w X.K e O fc))
    (hm : lastMarks [op, op'] [b, c] = false := by with_unfolding_all rfl) : PT X (.Compare a [op, op'] [b, c] pos) (tW X.w X.K e O fun ρ => chD p q fa fb fc ρ >>= asB) := by
  refine pt_imp (pt_chain h1 h2 ha hb hc hm) fun σ H Q h => ?_
  obtain ⟨B, ρ, G, r, h⟩ := h
  refine ch_in (a := a) (b := b) (c := c) (e := e) ⟨B, ρ, G, r, gd_mono (gd_bind.mp h) fun d h v G1 H1 g1 t => ?_⟩
  cases t with
  | bl k => exact ⟨k, rfl, h G1 H1 g1⟩
  | non => exact h.elim
  | int _ => exact h.elim
  | str _ => exact h.elim
  | lst _ _ => exact h.elim
  | tup _ _ => exact h.elim
  | dct _ _ _ _ _ _ => exact h.elim
  | scr _ _ => exact h.elim
  | exc _ _ => exact h.elim

/-! ### lists as they stand -/
theorem lst_at {pins : List (Addr × Obj)} {σ : L2.St} {H : Hp} {s : Shared} {l : Addr} {xs : List V} (I : Inv X pins σ H s) (h : Rd H l (.lst xs)) : xs.length ≤ sizeLine ∧ ∃ (its : List Value) (n : Nat), Vals xs its ∧ s.heap.get? l = some { cls := .type "list", data := .seq its.toArray n } := by
  obtain ⟨z, us, m, rel, at0⟩ := h.ok I.hok
  exact ⟨z, us, m, rel, at0⟩
def rCatL : R2 := fun x y H Q => ∃ l b xs zs, x = .ref l ∧ y = .ref b ∧ Rd H l (.lst xs) ∧ Rd H b (.lst zs) ∧ xs.length + zs.length ≤ sizeLine ∧ ∀ p, H p = none → Q (.ref p) (upd H p (.lst (xs ++ zs)))
theorem cat_rd : OpR X (binaryOp .Add) rCatL := by
  intro pins s σ H x y v u Q I rx ry h
  obtain ⟨l, b, xs, zs, e1, e2, hl, hb, hz, q⟩ := h
  subst e1
  subst e2
  obtain rfl : v = Value.ref l := rx
  obtain rfl : u = Value.ref b := ry
  obtain ⟨_, us, m, r1, at1⟩ := lst_at I hl
  obtain ⟨_, ws, k, r2, at2⟩ := lst_at I hb
  have n1 := r1.length
  have n2 := r2.length
  refine PySem.P.add_list at1 at2 ?_ (by rw [List.size_toArray, List.size_toArray]; omega)
  have both : us.toArray ++ ws.toArray = (us ++ ws).toArray := by simp
  rw [both]
  exact ⟨.ref _, _, I.lnew (t' := s.toks) (r1.append r2) (by rw [List.length_append]; omega), rfl, q _ I.fresh⟩

/-! ### + -/
def addD (a b : D) : R D := match a, b with
  | .int i, .int j => .ok (.int (i + j))
  | .str x, .str y => if x.length + y.length ≤ 16777216 then .ok (.str (x ++ y)) else stk
  | .list xs, .list ys => if xs.length + ys.length ≤ 16777216 then .ok (.list (xs ++ ys)) else stk
  | _, _ => stk
theorem d_add : OpR X (binaryOp .Add) (r2 X.w X.K addD) := by
  intro pins s σ H x y v u Q I rx ry ⟨G, da, db, e, sb, t1, t2, q⟩
  unfold addD at q
  split at q
  · cases t1; cases t2
    exact op_add pins s σ H _ _ v u Q I rx ry ⟨_, _, rfl, rfl, q _ G H (Gr.refl sb) (.int _)⟩
  · cases t1; cases t2
    split at q
    · rename_i hl
      exact op_add_str pins s σ H _ _ v u Q I rx ry ⟨_, _, rfl, rfl, by rw [sizeLine_eq]; exact hl, q _ G H (Gr.refl sb) (.str _)⟩
    · exact q.elim
  · cases t1 with
    | lst s1 a1 =>
      cases t2 with
      | lst s2 a2 =>
        split at q
        · rename_i hl
          refine cat_rd pins s σ H _ _ v u Q I rx ry ⟨_, _, _, _, rfl, rfl, Rd.sub sb s1, Rd.sub sb s2, by rw [a1.length, a2.length, sizeLine_eq]; exact hl, fun p np => ?_⟩
          exact q _ _ _ (Gr.new sb np) (.lst (.inl upd_same) ((a1.append a2).sub ((Gr.new sb np).up sb)))
        · exact q.elim
  · exact q.elim

/-! ### * -/
theorem p64 {i j : Int} (h : i.natAbs < 18446744073709551616 ∨ j.natAbs < 18446744073709551616) : (-(2 ^ 64) < i ∧ i < 2 ^ 64) ∨ (-(2 ^ 64) < j ∧ j < 2 ^ 64) := by
  have e : (2 : Int) ^ 64 = 18446744073709551616 := by decide
  rw [e]; omega
def mulI (a b : D) : R D := match a, b with
  | .int i, .int j => if i.natAbs < 18446744073709551616 ∨ j.natAbs < 18446744073709551616 then .ok (.int (i * j)) else stk
  | _, _ => stk
theorem d_mulI : OpR X (binaryOp .Mult) (r2 X.w X.K mulI) := by
  intro pins s σ H x y v u Q I rx ry ⟨G, da, db, e, sb, t1, t2, q⟩
  unfold mulI at q
  split at q
  · cases t1; cases t2
    split at q
    · rename_i hc
      exact op_mul pins s σ H _ _ v u Q I rx ry ⟨_, _, rfl, rfl, p64 hc, q _ G H (Gr.refl sb) (.int _)⟩
    · exact q.elim
  · exact q.elim

/-! ### == -/
mutual
theorem Dt.dp {w : World} {K : PySem.W.Frag} {G H : Hp} (s : Sub G H) : ∀ {v : V} {d : D}, Dt w K G v d → d.canLay0 = true → Dp K H v d
  | _, _, .non, _ => .non
  | _, _, .bl b, _ => .bl b
  | _, _, .int i, _ => .int i
  | _, _, .str x, _ => .str x
  | _, _, .lst h t, c => .lst (Rd.sq (Rd.sub s h)) (DtAll.dp s t (by simpa [PyData.canLay0] using c))
  | _, _, .tup h t, c => .tup (SqT.sub s h) (DtAll.dp s t (by simpa [PyData.canLay0] using c))
  | _, _, .dct _ _ _ _ _ _, c => by simp [PyData.canLay0] at c
  | _, _, .scr _ _, c => by simp [PyData.canLay0] at c
  | _, _, .exc _ _, c => by simp [PyData.canLay0] at c
theorem DtAll.dp {w : World} {K : PySem.W.Frag} {G H : Hp} (s : Sub G H) : ∀ {vs : List V} {ds : List D}, DtAll w K G vs ds → PyData.canLayAll0 ds = true → DpAll K H vs ds
  | _, _, .nil, _ => .nil
  | _, _, .cons h t, c => by
    rw [PyData.canLayAll0, Bool.and_eq_true] at c
    exact .cons (Dt.dp s h c.1) (DtAll.dp s t c.2)
end
theorem shaped_lay {d : D} (h : SeqAt.shaped d = true) : d.canLay0 = true := by
  unfold SeqAt.shaped at h
  rw [Bool.and_eq_true] at h
  exact h.1
def eqD (a b : D) : R D := match a, b with
  | .str x, .str y => .ok (.bool (decide (x = y)))
  | a, b => if SeqAt.shaped a = true ∧ SeqAt.shaped b = true then .ok (.bool (PyData.eqv a b)) else stk
def neD (a b : D) : R D := match a, b with
  | .str x, .str y => .ok (.bool (!decide (x = y)))
  | a, b => if SeqAt.shaped a = true ∧ SeqAt.shaped b = true then .ok (.bool (!PyData.eqv a b)) else stk
theorem dstr {i j : Str} : decide (V.str i = V.str j) = decide (i = j) := by
  rw [Bool.eq_iff_iff]
  simp
theorem d_eq (hu : X.A.units + 64 < cLine) : OpR X (compareOp .Eq) (r2 X.w X.K eqD) := by
  intro pins s σ H x y v u Q I rx ry ⟨G, da, db, e, sb, t1, t2, q⟩
  unfold eqD at q
  split at q
  · cases t1; cases t2
    exact op_eq pins s σ H _ _ v u Q I rx ry ⟨rfl, by rw [dstr]; exact q _ G H (Gr.refl sb) (.bl _)⟩
  · split at q
    · rename_i hc
      exact op_eqD hu pins s σ H _ _ v u Q I rx ry ⟨da, db, t1.dp sb (shaped_lay hc.1), t2.dp sb (shaped_lay hc.2), hc.1, hc.2, q _ G H (Gr.refl sb) (.bl _)⟩
    · exact q.elim
theorem d_ne (hu : X.A.units + 64 < cLine) : OpR X (compareOp .NotEq) (r2 X.w X.K neD) := by
  intro pins s σ H x y v u Q I rx ry ⟨G, da, db, e, sb, t1, t2, q⟩
  unfold neD at q
  split at q
  · cases t1; cases t2
    exact op_ne pins s σ H _ _ v u Q I rx ry ⟨rfl, by rw [dstr]; exact q _ G H (Gr.refl sb) (.bl _)⟩
  · split at q
    · rename_i hc
      exact op_neD hu pins s σ H _ _ v u Q I rx ry ⟨da, db, t1.dp sb (shaped_lay hc.1), t2.dp sb (shaped_lay hc.2), hc.1, hc.2, q _ G H (Gr.refl sb) (.bl _)⟩
    · exact q.elim
/-- is None -/
def isN (a b : D) : R D := match b with
  | .none => match a with
    | .none => .ok (.bool true)
    | _ => .ok (.bool false)
  | _ => stk
def notN (a b : D) : R D := match b with
  | .none => match a with
    | .none => .ok (.bool false)
    | _ => .ok (.bool true)
  | _ => stk
theorem non_dec {w : World} {K : PySem.W.Frag} {G : Hp} {v : V} {d : D} (t : Dt w K G v d) : decide (v = V.non) = match d with | .none => true | _ => false := by
  cases t <;> first | rfl | exact decide_eq_false (fun z => nomatch z)
theorem d_is : OpR X (compareOp .Is) (r2 X.w X.K isN) := opr_imp op_isN fun x y H Q ⟨G, da, db, e, sb, t1, t2, q⟩ => by
  unfold isN at q
  split at q
  · cases t2
    refine ⟨rfl, ?_⟩
    rw [non_dec t1]
    split at q
    · exact q _ G H (Gr.refl sb) (.bl _)
    · have q := q _ G H (Gr.refl sb) (.bl _)
      split
      · contradiction
      · exact q
  · exact q.elim
theorem d_isn : OpR X (compareOp .IsNot) (r2 X.w X.K notN) := opr_imp op_notN fun x y H Q ⟨G, da, db, e, sb, t1, t2, q⟩ => by
  unfold notN at q
  split at q
  · cases t2
    refine ⟨rfl, ?_⟩
    rw [non_dec t1]
    split at q
    · exact q _ G H (Gr.refl sb) (.bl _)
    · have q := q _ G H (Gr.refl sb) (.bl _)
      split
      · contradiction
      · exact q
  · exact q.elim
end
end Vs

set_option Elab.async false
set_option linter.all false
set_option maxRecDepth 100000
/-! in, subscripts, slices, built-ins on data. -/
namespace Vs
open PySem PySem.Spec PyProof.Rows L2

/-! ### dicts: keys -/
def atomK : D → Option Key
  | .int i => some (.inl i)
  | .str x => some (.inr x)
  | _ => none
def allAt (kvs : List (D × D)) : Bool := kvs.all fun p => (atomK p.1).isSome
def dfind (kvs : List (D × D)) (d : D) : Option D := (kvs.find? fun p => PyData.eqv p.1 d).map (·.2)
theorem atom_eqv {d d' : D} {k k' : Key} (h : atomK d = some k) (h' : atomK d' = some k') : PyData.eqv d d' = decide (k = k') := by
  cases d with
  | int i =>
    cases h
    cases d' with
    | int j => cases h'; rw [key_ll]; simp only [PyData.eqv]
    | str y => cases h'; rw [key_lr]; simp only [PyData.eqv]
    | _ => cases h'
  | str x =>
    cases h
    cases d' with
    | int j => cases h'; rw [key_rl]; simp only [PyData.eqv]
    | str y => cases h'; rw [key_rr]; simp only [PyData.eqv]; by_cases hh : x = y <;> simp [hh]
    | _ => cases h'
  | _ => cases h
theorem atom_V {w : World} {K : PySem.W.Frag} {G : Hp} {v : V} {d : D} {k : Key} (t : Dt w K G v d) (h : atomK d = some k) : v = kV k := by
  cases t with
  | int i => cases h; rfl
  | str x => cases h; rfl
  | non => cases h
  | bl _ => cases h
  | lst _ _ => cases h
  | tup _ _ => cases h
  | dct _ _ _ _ _ _ => cases h
  | scr _ _ => cases h
  | exc _ _ => cases h
theorem atom_is {P : Program} {w : World} {K : PySem.W.Frag} {G : Hp} {v : V} {u : Value} {d : D} {k : Key} (r : RelV v u) (t : Dt w K G v d) (h : atomK d = some k) : (mixKind P w).is k u = true := by
  have e := atom_V t h
  subst e
  exact kV_is r
theorem atom_hash {w : World} {d : D} {k : Key} (h : atomK d = some k) : hashD w d = keyH w k := by
  cases d <;> cases h <;> simp only [hashD, keyH]
section
variable {P : Program} {w : World} {K : PySem.W.Frag} {G : Hp}
theorem es_keys : ∀ {es : List DictEntry} {kvs : List (D × D)}, DtEs w K G es kvs → allAt kvs = true → ∀ e ∈ es, ∃ k, (mixKind P w).is k e.key = true ∧ e.hash = (mixKind P w).hash k
  | _, _, .nil, _, e, he => by cases he
  | _, _, .cons (dk := dk) rk tk hh rv tv r, ha, e, he => by
    unfold allAt at ha
    rw [List.all_cons, Bool.and_eq_true] at ha
    rcases List.mem_cons.mp he with rfl | he
    · obtain ⟨k, hk⟩ := Option.isSome_iff_exists.mp ha.1
      exact ⟨k, atom_is rk tk hk, by rw [hh, atom_hash hk]; rfl⟩
    · exact es_keys r ha.2 e he
theorem es_find {d : D} {k : Key} (hd : atomK d = some k) : ∀ {es : List DictEntry} {kvs : List (D × D)}, DtEs w K G es kvs → allAt kvs = true →
    (match dfind kvs d with
    | some dv => ∃ u vv, (es.find? fun e => (mixKind P w).is k e.key).map (·.val) = some u ∧ RelV vv u ∧ Dt w K G vv dv
    | none => (es.find? fun e => (mixKind P w).is k e.key).map (·.val) = none)
  | _, _, .nil, _ => rfl
  | _, _, .cons (e := e) (dk := dk) (dv := dv) (vv := vv) (es := es) (kvs := kvs) rk tk hh rv tv r, ha => by
    unfold allAt at ha
    rw [List.all_cons, Bool.and_eq_true] at ha
    obtain ⟨k', hk'⟩ := Option.isSome_iff_exists.mp ha.1
    have e1 : PyData.eqv dk d = decide (k' = k) := atom_eqv hk' hd
    have e2 : (mixKind P w).is k e.key = decide (k = k') := KeyKind.is_eq_decide (atom_is rk tk hk') k
    unfold dfind
    rw [List.find?_cons, List.find?_cons, e1, e2]
    by_cases hkk : k' = k
    · subst hkk
      rw [decide_eq_true rfl]
      exact ⟨e.val, vv, rfl, rv, tv⟩
    · rw [decide_eq_false hkk, decide_eq_false (Ne.symm hkk)]
      exact es_find hd r ha.2
end
section
variable {X : Cx} {pins : List (Addr × Obj)} {σ : L2.St} {H G : Hp} {s : Shared} {a : Addr} {o : Obj}
theorem dc_at (I : Inv X pins σ H s) (sb : Sub G H) (h : DcA X.K G a o) : s.heap.get? a = some o := by
  rcases h with h | h
  · exact (I.hok a _ (sb a _ h)).1
  · exact I.kIn a o h
theorem dc_map {es : Array DictEntry} {ep : Nat} {kvs : List (D × D)} (I : Inv X pins σ H s) (sb : Sub G H) (h : DcA X.K G a o) (ho : o.ExactDict) (hd : o.data = .dict es ep) (t : DtEs X.w X.K G es.toList kvs) (ha : allAt kvs = true) :
    s.heap.MapOf (mixKind X.prog X.w) a (fun k => findBy (mixKind X.prog X.w).is es k) :=
  ⟨o, es, ep, dc_at I sb h, ho, hd, fun e he => es_keys t ha e (Array.mem_toList_iff.mpr he), fun _ => rfl⟩
theorem dc_find {P : Program} {w : World} {K : PySem.W.Frag} {es : Array DictEntry} {kvs : List (D × D)} {d : D} {k : Key} (hk : atomK d = some k) (t : DtEs w K G es.toList kvs) (ha : allAt kvs = true) :
    (match dfind kvs d with
    | some dv => ∃ u vv, findBy (mixKind P w).is es k = some u ∧ RelV vv u ∧ Dt w K G vv dv
    | none => findBy (mixKind P w).is es k = none) := by
  unfold findBy
  rw [← Array.find?_toList]
  exact es_find hk t ha
end

/-! ### in -/
def strIn (x y : Str) : Bool := match x.cps.toList with
  | [c] => decide (c ∈ y.cps.toList)
  | _ => !(Builtin.Str.occurrences y x 0 y.length 1).isEmpty
theorem strIn_eq (x y : Str) : (!(Builtin.Str.occurrences y x 0 y.length 1).isEmpty) = strIn x y := by
  unfold strIn
  split
  · rename_i c h
    have e : x = ⟨#[c]⟩ := by
      obtain ⟨l⟩ := x
      have : l = #[c] := by rw [← Array.toArray_toList (xs := l)]; exact congrArg List.toArray h
      rw [this]
    subst e
    exact PySem.StrLaws.found_one y c
  · rfl
def inB (x c : D) : R Bool := match c with
  | .list ds => if SeqAt.shaped x = true ∧ SeqAt.shaped (.list ds) = true then .ok (ds.any fun z => PyData.eqv z x) else stk
  | .tuple ds => if SeqAt.shaped x = true ∧ SeqAt.shaped (.tuple ds) = true then .ok (ds.any fun z => PyData.eqv z x) else stk
  | .str y => match x with
    | .str z => .ok (strIn z y)
    | _ => stk
  | .dict kvs => if allAt kvs = true ∧ (atomK x).isSome = true then .ok (dfind kvs x).isSome else stk
  | _ => stk
def inD (x c : D) : R D := inB x c >>= fun b => .ok (.bool b)
def ninD (x c : D) : R D := inB x c >>= fun b => .ok (.bool (!b))
section
variable {X : Cx}
theorem in_rule (hu : X.A.units + 65 < cLine) {pins : List (Addr × Obj)} {s : Shared} {σ : L2.St} {G H : Hp} {x y : V} {v u : Value} {da db : D} {q : Bool → Prop} {e : Nat → D → Prop} (I : Inv X pins σ H s) (rx : RelV x v) (ry : RelV y u) (sb : Sub G H) (t1 : Dt X.w X.K G x da) (t2 : Dt X.w X.K G y db) (h : gd (inB da db) q e) :
    ∃ b, q b ∧ (∀ (E : Value → Shared → Prop) (Q : Value → Shared → Prop), (∀ s', Inv X pins σ H s' → Q (.bool b) s') → wpAny (model X.prog X.w) X.A (compareOp .In v u) Q E s) ∧ ∀ (E : Value → Shared → Prop) (Q : Value → Shared → Prop), (∀ s', Inv X pins σ H s' → Q (.bool (!b)) s') → wpAny (model X.prog X.w) X.A (compareOp .NotIn v u) Q E s := by
  unfold inB at h
  split at h
  · split at h
    · rename_i hc
      obtain ⟨as, r1⟩ := Dp.reads I da x v (t1.dp sb (shaped_lay hc.1)) rx
      obtain ⟨bs, r2⟩ := Dp.reads I _ y u (t2.dp sb (shaped_lay hc.2)) ry
      exact ⟨_, h, fun E Q hq => SeqAt.in_list_reads r2 r1 (SeqAt.canLay_of_shaped hc.2) (SeqAt.canLay_of_shaped hc.1) (room_in_shaped hc.1 hu) (hq s I), fun E Q hq => SeqAt.notIn_list_reads r2 r1 (SeqAt.canLay_of_shaped hc.2) (SeqAt.canLay_of_shaped hc.1) (room_in_shaped hc.1 hu) (hq s I)⟩
    · exact h.elim
  · split at h
    · rename_i hc
      obtain ⟨as, r1⟩ := Dp.reads I da x v (t1.dp sb (shaped_lay hc.1)) rx
      obtain ⟨bs, r2⟩ := Dp.reads I _ y u (t2.dp sb (shaped_lay hc.2)) ry
      exact ⟨_, h, fun E Q hq => SeqAt.in_tuple_reads r2 r1 (SeqAt.canLay_of_shaped hc.2) (SeqAt.canLay_of_shaped hc.1) (room_in_shaped hc.1 hu) (hq s I), fun E Q hq => SeqAt.notIn_tuple_reads r2 r1 (SeqAt.canLay_of_shaped hc.2) (SeqAt.canLay_of_shaped hc.1) (room_in_shaped hc.1 hu) (hq s I)⟩
    · exact h.elim
  · split at h
    · cases t1
      cases t2
      obtain ⟨t, rfl⟩ := rx
      obtain ⟨t', rfl⟩ := ry
      refine ⟨_, h, fun E Q hq => PyProof.Rows.in_str ?_, fun E Q hq => PyProof.Rows.notIn_str ?_⟩
      · rw [strIn_eq]; exact hq s I
      · rw [strIn_eq]; exact hq s I
    · exact h.elim
  · rename_i kvs0
    split at h
    · rename_i hc
      obtain ⟨k, hk⟩ := Option.isSome_iff_exists.mp hc.2
      cases t2 with
      | scr _ _ => simp [allAt, atomK] at hc
      | exc _ _ => simp [allAt, atomK] at hc
      | dct s1 s2 s3 s4 s5 s6 =>
        rename_i a o es ep
        obtain rfl : u = Value.ref a := ry
        have m := dc_map I sb s1 s3 s4 s5 hc.1
        have f := dc_find (P := X.prog) hk s5 hc.1
        have e1 : (findBy (mixKind X.prog X.w).is es k).isSome = (dfind kvs0 da).isSome := by
          split at f
          · rename_i dv hf
            obtain ⟨u, vv, f1, _⟩ := f
            rw [f1, hf]
            rfl
          · rename_i hf
            rw [f, hf]
            rfl
        refine ⟨_, h, fun E Q hq => wpAny_in_of (atom_is rx t1 hk) s2 m ?_, fun E Q hq => wpAny_notIn_of (atom_is rx t1 hk) s2 m ?_⟩
        · rw [e1]; exact hq _ (I.tok _)
        · rw [e1]; exact hq _ (I.tok _)
    · exact h.elim
  · exact h.elim
theorem d_in (hu : X.A.units + 65 < cLine) : OpR X (compareOp .In) (r2 X.w X.K inD) := by
  intro pins s σ H x y v u Q I rx ry ⟨G, da, db, e, sb, t1, t2, q⟩
  obtain ⟨b, q, h1, _⟩ := in_rule hu I rx ry sb t1 t2 (gd_bind.mp q)
  exact h1 _ _ fun s' I' => ⟨.bl b, H, I', rfl, q _ G H (Gr.refl sb) (.bl b)⟩
theorem d_nin (hu : X.A.units + 65 < cLine) : OpR X (compareOp .NotIn) (r2 X.w X.K ninD) := by
  intro pins s σ H x y v u Q I rx ry ⟨G, da, db, e, sb, t1, t2, q⟩
  obtain ⟨b, q, _, h1⟩ := in_rule hu I rx ry sb t1 t2 (gd_bind.mp q)
  exact h1 _ _ fun s' I' => ⟨.bl (!b), H, I', rfl, q _ G H (Gr.refl sb) (.bl _)⟩

/-! ### subscripts -/
def opt {α : Type} : Option α → R α
  | some a => .ok a
  | none => stk
theorem opt_in {α : Type} {o : Option α} {q : α → Prop} {e : Nat → D → Prop} (h : gd (opt o) q e) : ∃ a, o = some a ∧ q a := by
  cases o with
  | none => exact h.elim
  | some a => exact ⟨a, rfl, h⟩
def ixD (c i : D) : R D := match c with
  | .dict [(.none, .list ds), (.none, .none)] => asI i >>= fun i => opt (atI ds i)
  | .list ds => asI i >>= fun i => opt (atI ds i)
  | .tuple ds => asI i >>= fun i => opt (atI ds i)
  | .str x => asI i >>= fun i => lenOk x.length >>= fun _ => opt (atI x.cps.toList i) >>= fun c => .ok (.str ⟨#[c]⟩)
  | .dict kvs => if allAt kvs = true ∧ (atomK i).isSome = true then opt (dfind kvs i) else stk
  | _ => stk
theorem atI_dt {w : World} {K : PySem.W.Frag} {G : Hp} {vs : List V} {ds : List D} {i : Int} {d : D} (t : DtAll w K G vs ds) (h : atI ds i = some d) : ∃ v, atI vs i = some v ∧ Dt w K G v d := by
  unfold atI at h ⊢
  rw [t.length]
  cases q : ixN ds.length i with
  | none => rw [q] at h; cases h
  | some j =>
    rw [q] at h
    exact t.get' h
theorem d_ix : IxR X (r2 X.w X.K ixD) := by
  intro value slice pins s σ H x y v u Q I rx ry ⟨G, da, db, e, sb, t1, t2, q⟩ hs
  unfold ixD at q
  split at q
  · obtain ⟨i, rfl, q⟩ := asI_in t2 (gd_bind.mp q)
    obtain ⟨d, ed, q⟩ := opt_in q
    cases t1 with
    | scr s1 a1 =>
      obtain ⟨z, ez, tz⟩ := atI_dt a1 ed
      exact ix_list value slice pins s σ H _ _ v u Q I rx ry ⟨_, _, i, z, rfl, rfl, SqL.sub sb s1, ez, q z G H (Gr.refl sb) tz⟩ hs
    | dct _ _ _ _ _ u => simp at u
  · obtain ⟨i, rfl, q⟩ := asI_in t2 (gd_bind.mp q)
    obtain ⟨d, ed, q⟩ := opt_in q
    cases t1 with
    | lst s1 a1 =>
      obtain ⟨z, ez, tz⟩ := atI_dt a1 ed
      exact ix_list value slice pins s σ H _ _ v u Q I rx ry ⟨_, _, i, z, rfl, rfl, Rd.sq (Rd.sub sb s1), ez, q z G H (Gr.refl sb) tz⟩ hs
  · obtain ⟨i, rfl, q⟩ := asI_in t2 (gd_bind.mp q)
    obtain ⟨d, ed, q⟩ := opt_in q
    cases t1 with
    | tup s1 a1 =>
      obtain ⟨z, ez, tz⟩ := atI_dt a1 ed
      exact ix_tup value slice pins s σ H _ _ v u Q I rx ry ⟨_, _, i, z, rfl, rfl, SqT.sub sb s1, ez, q z G H (Gr.refl sb) tz⟩ hs
  · obtain ⟨i, rfl, q⟩ := asI_in t2 (gd_bind.mp q)
    obtain ⟨hl, q⟩ := lenOk_in (gd_bind.mp q)
    obtain ⟨c, ec, q⟩ := opt_in (gd_bind.mp q)
    cases t1
    exact ix_str value slice pins s σ H _ _ v u Q I rx ry ⟨_, i, c, rfl, rfl, hl, ec, q _ G H (Gr.refl sb) (.str _)⟩ hs
  · split at q
    · rename_i hc
      obtain ⟨k, hk⟩ := Option.isSome_iff_exists.mp hc.2
      obtain ⟨d, ed, q⟩ := opt_in q
      cases t1 with
      | scr _ _ => simp [allAt, atomK] at hc
      | exc _ _ => simp [allAt, atomK] at hc
      | dct s1 s2 s3 s4 s5 s6 =>
        rename_i a o es ep
        obtain rfl : v = Value.ref a := rx
        have m := dc_map I sb s1 s3 s4 s5 hc.1
        have f := dc_find (P := X.prog) hk s5 hc.1
        rw [ed] at f
        obtain ⟨u0, vv, f1, f2, f3⟩ := f
        exact tail_any m.typeIs slot_dict_getitem.lookup (wpAny_getItem_of (atom_is ry t2 hk) m f1 ⟨vv, H, I.tok _, f2, q vv G H (Gr.refl sb) f3⟩) hs
    · exact q.elim
  · exact q.elim

/-! ### slices -/
def cutA {α : Type} (xs : List α) (lo hi : Option Int) : List α := (xs.drop (HT.sIx xs.length 0 lo)).take (HT.sIx xs.length xs.length hi - HT.sIx xs.length 0 lo)
theorem cutV_eq (xs : List V) (lo hi : Option Int) : cutV xs lo hi = cutA xs lo hi := rfl
theorem cut_dt {w : World} {K : PySem.W.Frag} {G : Hp} {vs : List V} {ds : List D} {lo hi : Option Int} (t : DtAll w K G vs ds) : DtAll w K G (cutV vs lo hi) (cutA ds lo hi) := by
  unfold cutV cutA
  rw [t.length]
  exact (t.drop _).take _
def slD (c : D) (lo hi : Option Int) : R D := match c with
  | .list ds => .ok (.list (cutA ds lo hi))
  | .str x => lenOk x.length >>= fun _ => .ok (.str (cutS x lo hi))
  | _ => stk
theorem d_sl : SlR X (rS X.w X.K slD) := by
  intro pins s σ H x v vl vu lo hi sl Q I rx hs pl pu ⟨G, da, e, sb, t, q⟩
  unfold slD at q
  split at q
  · cases t with
    | lst s1 a1 => exact sl_list pins s σ H _ v vl vu lo hi sl Q I rx hs pl pu ⟨_, _, rfl, Rd.sq (Rd.sub sb s1), fun p np => q _ _ _ (Gr.new sb np) (.lst (.inl upd_same) ((cut_dt a1).sub ((Gr.new sb np).up sb)))⟩
  · obtain ⟨hl, q⟩ := lenOk_in (gd_bind.mp q)
    cases t
    exact sl_str pins s σ H _ v vl vu lo hi sl Q I rx hs pl pu ⟨_, rfl, hl, q _ G H (Gr.refl sb) (.str _)⟩
  · exact q.elim

/-! ### built-ins -/
def lenD : List D → R D
  | [.dict [(.none, .list ds), (.none, .none)]] => .ok (.int ds.length)
  | [.list ds] => .ok (.int ds.length)
  | [.tuple ds] => .ok (.int ds.length)
  | [.str x] => lenOk x.length >>= fun _ => .ok (.int x.length)
  | _ => stk
theorem c_len : CallR X (.builtin "len") (rC X.w X.K lenD) := callr_imp ((call_len_seq).or call_len_str) fun xs H Q ⟨G, ds, e, sb, t, q⟩ => by
  unfold lenD at q
  split at q
  · cases t with
    | cons t1 t2 =>
      cases t2
      cases t1 with
      | scr s1 a1 => exact .inl ⟨_, _, rfl, .inl (SqL.sub sb s1), by rw [a1.length]; exact q _ G H (Gr.refl sb) (.int _)⟩
      | dct _ _ _ _ _ u => simp at u
  · cases t with
    | cons t1 t2 =>
      cases t2
      cases t1 with
      | lst s1 a1 => exact .inl ⟨_, _, rfl, .inl (Rd.sq (Rd.sub sb s1)), by rw [a1.length]; exact q _ G H (Gr.refl sb) (.int _)⟩
  · cases t with
    | cons t1 t2 =>
      cases t2
      cases t1 with
      | tup s1 a1 => exact .inl ⟨_, _, rfl, .inr (SqT.sub sb s1), by rw [a1.length]; exact q _ G H (Gr.refl sb) (.int _)⟩
  · obtain ⟨hl, q⟩ := lenOk_in (gd_bind.mp q)
    cases t with
    | cons t1 t2 =>
      cases t2
      cases t1
      exact .inr ⟨_, rfl, hl, q _ G H (Gr.refl sb) (.int _)⟩
  · exact q.elim
def absD : List D → R D
  | [.int i] => .ok (.int (if i < 0 then -i else i))
  | _ => stk
theorem c_abs : CallR X (.builtin "abs") (rC X.w X.K absD) := callr_imp call_abs fun xs H Q ⟨G, ds, e, sb, t, q⟩ => by
  unfold absD at q
  split at q
  · cases t with
    | cons t1 t2 =>
      cases t2
      cases t1
      exact ⟨_, rfl, q _ G H (Gr.refl sb) (.int _)⟩
  · exact q.elim
def intD : List D → R D
  | [.int i] => .ok (.int i)
  | [.bool b] => .ok (.int (if b then 1 else 0))
  | _ => stk
theorem c_int : CallR X (.type "int") (rC X.w X.K intD) := callr_imp call_int1 fun xs H Q ⟨G, ds, e, sb, t, q⟩ => by
  unfold intD at q
  split at q
  · cases t with
    | cons t1 t2 =>
      cases t2
      cases t1
      exact .inl ⟨_, rfl, q _ G H (Gr.refl sb) (.int _)⟩
  · cases t with
    | cons t1 t2 =>
      cases t2
      cases t1
      exact .inr ⟨_, rfl, q _ G H (Gr.refl sb) (.int _)⟩
  · exact q.elim
def ints? : List D → Option (List Int)
  | [] => some []
  | .int i :: r => (ints? r).map (i :: ·)
  | _ :: _ => none
theorem ints_dt {w : World} {K : PySem.W.Frag} {G : Hp} : ∀ {vs : List V} {ds : List D} {ns : List Int}, DtAll w K G vs ds → ints? ds = some ns → vs = ns.map V.int ∧ ds = ns.map .int
  | _, _, _, .nil, h => by cases h; exact ⟨rfl, rfl⟩
  | _, _, ns, .cons (d := d) t1 t2, h => by
    cases t1 with
    | int i =>
      simp only [ints?] at h
      obtain ⟨ms, h1, h2⟩ := Option.map_eq_some_iff.mp h
      subst h2
      obtain ⟨e1, e2⟩ := ints_dt t2 h1
      exact ⟨by rw [e1]; rfl, by rw [e2]; rfl⟩
    | non => cases h
    | bl _ => cases h
    | str _ => cases h
    | lst _ _ => cases h
    | tup _ _ => cases h
    | dct _ _ _ _ _ _ => cases h
    | scr _ _ => cases h
    | exc _ _ => cases h
theorem ints_map : ∀ ns : List Int, ints? (ns.map .int) = some ns
  | [] => rfl
  | n :: ns => by rw [List.map_cons, ints?, ints_map ns]; rfl
def maxL : List Int → Int
  | [] => 0
  | x :: r => r.foldl max x
def minL : List Int → Int
  | [] => 0
  | x :: r => r.foldl min x
theorem foldl_max_le (r : List Int) : ∀ x : Int, x ≤ r.foldl max x ∧ (∀ y ∈ r, y ≤ r.foldl max x) ∧ (r.foldl max x = x ∨ r.foldl max x ∈ r) := by
  induction r with
  | nil => intro x; exact ⟨Int.le_refl _, (fun _ h => by cases h), .inl rfl⟩
  | cons a r ih =>
    intro x
    obtain ⟨h1, h2, h3⟩ := ih (max x a)
    rw [List.foldl_cons]
    refine ⟨by omega, fun y hy => ?_, ?_⟩
    · rcases List.mem_cons.mp hy with rfl | hy
      · omega
      · exact h2 y hy
    · rcases h3 with h3 | h3
      · rw [h3]
        by_cases h : x ≤ a
        · right; rw [Int.max_eq_right h]; exact List.mem_cons_self
        · left; omega
      · right; exact List.mem_cons_of_mem _ h3
theorem foldl_min_le (r : List Int) : ∀ x : Int, r.foldl min x ≤ x ∧ (∀ y ∈ r, r.foldl min x ≤ y) ∧ (r.foldl min x = x ∨ r.foldl min x ∈ r) := by
  induction r with
  | nil => intro x; exact ⟨Int.le_refl _, (fun _ h => by cases h), .inl rfl⟩
  | cons a r ih =>
    intro x
    obtain ⟨h1, h2, h3⟩ := ih (min x a)
    rw [List.foldl_cons]
    refine ⟨by omega, fun y hy => ?_, ?_⟩
    · rcases List.mem_cons.mp hy with rfl | hy
      · omega
      · exact h2 y hy
    · rcases h3 with h3 | h3
      · rw [h3]
        by_cases h : x ≤ a
        · left; omega
        · right; rw [Int.min_eq_right (by omega)]; exact List.mem_cons_self
      · right; exact List.mem_cons_of_mem _ h3
theorem maxL_is {ns : List Int} {m : Int} (h : m ∈ ns) (hm : ∀ y ∈ ns, y ≤ m) : m = maxL ns := by
  cases ns with
  | nil => cases h
  | cons x r =>
    obtain ⟨h1, h2, h3⟩ := foldl_max_le r x
    show m = r.foldl max x
    have a1 : m ≤ r.foldl max x := by
      rcases List.mem_cons.mp h with rfl | h
      · exact h1
      · exact h2 m h
    have a2 : r.foldl max x ≤ m := by
      rcases h3 with h3 | h3
      · rw [h3]; exact hm x List.mem_cons_self
      · exact hm _ (List.mem_cons_of_mem _ h3)
    omega
theorem minL_is {ns : List Int} {m : Int} (h : m ∈ ns) (hm : ∀ y ∈ ns, m ≤ y) : m = minL ns := by
  cases ns with
  | nil => cases h
  | cons x r =>
    obtain ⟨h1, h2, h3⟩ := foldl_min_le r x
    show m = r.foldl min x
    have a1 : r.foldl min x ≤ m := by
      rcases List.mem_cons.mp h with rfl | h
      · exact h1
      · exact h2 m h
    have a2 : m ≤ r.foldl min x := by
      rcases h3 with h3 | h3
      · rw [h3]; exact hm x List.mem_cons_self
      · exact hm _ (List.mem_cons_of_mem _ h3)
    omega
def maxD : List D → R D
  | [.list ds] => opt (ints? ds) >>= fun ns => if 0 < ns.length then .ok (.int (maxL ns)) else stk
  | _ => stk
def minD : List D → R D
  | [.list ds] => opt (ints? ds) >>= fun ns => if 0 < ns.length then .ok (.int (minL ns)) else stk
  | _ => stk
theorem c_max (hc : X.calm = true) : CallR X (.builtin "max") (rC X.w X.K maxD) := callr_imp (cr_max hc) fun xs H Q ⟨G, ds, e, sb, t, q⟩ => by
  unfold maxD at q
  split at q
  · cases t with
    | cons t1 t2 =>
      cases t2
      cases t1 with
      | lst s1 a1 =>
        obtain ⟨ns, en, q2⟩ := opt_in (gd_bind.mp q)
        obtain ⟨rfl, rfl⟩ := ints_dt a1 en
        split at q2
        · rename_i hp
          exact ⟨_, ns, rfl, Rd.sq (Rd.sub sb s1), hp, fun m hm hle => by rw [maxL_is hm hle]; exact q2 _ G H (Gr.refl sb) (.int _)⟩
        · exact q2.elim
  · exact q.elim
theorem c_min (hc : X.calm = true) : CallR X (.builtin "min") (rC X.w X.K minD) := callr_imp (cr_min hc) fun xs H Q ⟨G, ds, e, sb, t, q⟩ => by
  unfold minD at q
  split at q
  · cases t with
    | cons t1 t2 =>
      cases t2
      cases t1 with
      | lst s1 a1 =>
        obtain ⟨ns, en, q2⟩ := opt_in (gd_bind.mp q)
        obtain ⟨rfl, rfl⟩ := ints_dt a1 en
        split at q2
        · rename_i hp
          exact ⟨_, ns, rfl, Rd.sq (Rd.sub sb s1), hp, fun m hm hle => by rw [minL_is hm hle]; exact q2 _ G H (Gr.refl sb) (.int _)⟩
        · exact q2.elim
  · exact q.elim
def max2D : List D → R D
  | [.int i, .int j] => .ok (.int (if j > i then j else i))
  | _ => stk
def min2D : List D → R D
  | [.int i, .int j] => .ok (.int (if j < i then j else i))
  | _ => stk
theorem c_max2 (hc : X.calm = true) : CallR X (.builtin "max") (rC X.w X.K max2D) := callr_imp (call_max2 hc) fun xs H Q ⟨G, ds, e, sb, t, q⟩ => by
  unfold max2D at q
  split at q
  · cases t with
    | cons t1 t2 =>
      cases t2 with
      | cons t2 t3 =>
        cases t3
        cases t1
        cases t2
        exact ⟨_, _, rfl, q _ G H (Gr.refl sb) (.int _)⟩
  · exact q.elim
theorem c_min2 (hc : X.calm = true) : CallR X (.builtin "min") (rC X.w X.K min2D) := callr_imp (call_min2 hc) fun xs H Q ⟨G, ds, e, sb, t, q⟩ => by
  unfold min2D at q
  split at q
  · cases t with
    | cons t1 t2 =>
      cases t2 with
      | cons t2 t3 =>
        cases t3
        cases t1
        cases t2
        exact ⟨_, _, rfl, q _ G H (Gr.refl sb) (.int _)⟩
  · exact q.elim
def bls? : List D → Option (List Bool)
  | [] => some []
  | .bool i :: r => (bls? r).map (i :: ·)
  | _ :: _ => none
theorem bls_dt {w : World} {K : PySem.W.Frag} {G : Hp} : ∀ {vs : List V} {ds : List D} {ns : List Bool}, DtAll w K G vs ds → bls? ds = some ns → vs = ns.map V.bl ∧ ds = ns.map .bool
  | _, _, _, .nil, h => by cases h; exact ⟨rfl, rfl⟩
  | _, _, ns, .cons (d := d) t1 t2, h => by
    cases t1 with
    | bl i =>
      simp only [bls?] at h
      obtain ⟨ms, h1, h2⟩ := Option.map_eq_some_iff.mp h
      subst h2
      obtain ⟨e1, e2⟩ := bls_dt t2 h1
      exact ⟨by rw [e1]; rfl, by rw [e2]; rfl⟩
    | non => cases h
    | int _ => cases h
    | str _ => cases h
    | lst _ _ => cases h
    | tup _ _ => cases h
    | dct _ _ _ _ _ _ => cases h
    | scr _ _ => cases h
    | exc _ _ => cases h
theorem bls_map : ∀ ns : List Bool, bls? (ns.map .bool) = some ns
  | [] => rfl
  | n :: ns => by rw [List.map_cons, bls?, bls_map ns]; rfl
def allD : List D → R D
  | [.list ds] => opt (bls? ds) >>= fun bs => .ok (.bool (bs.all id))
  | _ => stk
def anyD : List D → R D
  | [.list ds] => opt (bls? ds) >>= fun bs => .ok (.bool (bs.any id))
  | _ => stk
theorem c_all (hc : X.calm = true) : CallR X (.builtin "all") (rC X.w X.K allD) := callr_imp (cr_all hc) fun xs H Q ⟨G, ds, e, sb, t, q⟩ => by
  unfold allD at q
  split at q
  · cases t with
    | cons t1 t2 =>
      cases t2
      cases t1 with
      | lst s1 a1 =>
        obtain ⟨ns, en, q2⟩ := opt_in (gd_bind.mp q)
        obtain ⟨rfl, rfl⟩ := bls_dt a1 en
        exact ⟨_, ns, rfl, Rd.sq (Rd.sub sb s1), q2 _ G H (Gr.refl sb) (.bl _)⟩
  · exact q.elim
theorem c_any (hc : X.calm = true) : CallR X (.builtin "any") (rC X.w X.K anyD) := callr_imp (cr_any hc) fun xs H Q ⟨G, ds, e, sb, t, q⟩ => by
  unfold anyD at q
  split at q
  · cases t with
    | cons t1 t2 =>
      cases t2
      cases t1 with
      | lst s1 a1 =>
        obtain ⟨ns, en, q2⟩ := opt_in (gd_bind.mp q)
        obtain ⟨rfl, rfl⟩ := bls_dt a1 en
        exact ⟨_, ns, rfl, Rd.sq (Rd.sub sb s1), q2 _ G H (Gr.refl sb) (.bl _)⟩
  · exact q.elim
/-- list(x) of a list or a tuple, as one's own -/
def listD : List D → R D
  | [.list ds] => .ok (.list ds)
  | [.tuple ds] => .ok (.list ds)
  | _ => stk
theorem own_new {w : World} {K : PySem.W.Frag} {G H : Hp} {p : Addr} {vs : List V} {ds : List D} (sb : Sub G H) (np : H p = none) (t : DtAll w K G vs ds) : Gr G H G (upd H p (.lst vs)) ∧ G p = none ∧ Own w K G (upd H p (.lst vs)) p (.list ds) := by
  refine ⟨Gr.own sb np, ?_, .inl ⟨vs, ds, rfl, upd_same, t⟩⟩
  cases z : G p with
  | none => rfl
  | some o => rw [sb p o z] at np; cases np
theorem c_list : CallR X (.type "list") (rCo X.w X.K listD) := callr_imp call_list_of fun xs H Q ⟨G, ds, e, sb, t, q⟩ => by
  unfold listD at q
  split at q
  · cases t with
    | cons t1 t2 =>
      cases t2
      cases t1 with
      | lst s1 a1 => exact ⟨_, _, rfl, .inl (Rd.sq (Rd.sub sb s1)), fun p np => let ⟨g, n, o⟩ := own_new sb np a1; q p _ _ g np n o⟩
  · cases t with
    | cons t1 t2 =>
      cases t2
      cases t1 with
      | tup s1 a1 => exact ⟨_, _, rfl, .inr (SqT.sub sb s1), fun p np => let ⟨g, n, o⟩ := own_new sb np a1; q p _ _ g np n o⟩
  · exact q.elim
section
variable {e : Bas → Nat → D → Prop}
def asStr : D → R Str
  | .str z => .ok z
  | _ => stk
theorem asStr_in {e : Nat → D → Prop} {w : World} {K : PySem.W.Frag} {d : D} {v : V} {G : Hp} {q : Str → Prop} (t : Dt w K G v d) (h : gd (asStr d) q e) : ∃ z, d = .str z ∧ v = .str z ∧ q z := by
  cases t with
  | str z => exact ⟨z, rfl, rfl, h⟩
  | non => exact h.elim
  | bl _ => exact h.elim
  | int _ => exact h.elim
  | lst _ _ => exact h.elim
  | tup _ _ => exact h.elim
  | dct _ _ _ _ _ _ => exact h.elim
  | scr _ _ => exact h.elim
  | exc _ _ => exact h.elim
end
/-! ### join -/
def strs? : List D → Option (List Str)
  | [] => some []
  | .str i :: r => (strs? r).map (i :: ·)
  | _ :: _ => none
theorem strs_dt {w : World} {K : PySem.W.Frag} {G : Hp} : ∀ {vs : List V} {ds : List D} {ns : List Str}, DtAll w K G vs ds → strs? ds = some ns → vs = ns.map V.str ∧ ds = ns.map .str
  | _, _, _, .nil, h => by cases h; exact ⟨rfl, rfl⟩
  | _, _, ns, .cons (d := d) t1 t2, h => by
    cases t1 with
    | str i =>
      simp only [strs?] at h
      obtain ⟨ms, h1, h2⟩ := Option.map_eq_some_iff.mp h
      subst h2
      obtain ⟨e1, e2⟩ := strs_dt t2 h1
      exact ⟨by rw [e1]; rfl, by rw [e2]; rfl⟩
    | non => cases h
    | bl _ => cases h
    | int _ => cases h
    | lst _ _ => cases h
    | tup _ _ => cases h
    | dct _ _ _ _ _ _ => cases h
    | scr _ _ => cases h
    | exc _ _ => cases h
theorem strs_map : ∀ ns : List Str, strs? (ns.map .str) = some ns
  | [] => rfl
  | n :: ns => by rw [List.map_cons, strs?, strs_map ns]; rfl
def joinD (s l : D) : R D := match s, l with
  | .str a, .list ds => opt (strs? ds) >>= fun ys => if (ys.map (·.length)).sum + ys.length * a.length ≤ 16777216 then .ok (.str (Str.join a ys)) else stk
  | _, _ => stk
theorem v_join {o a : Expr} {apos pos : Pos} {e : Bas → Nat → D → Prop} {O : List Nat} {fo fa : Env' → R D} (ho : PE X o (tV X.w X.K e O fo)) (ha : PE X a (tV X.w X.K e O fa)) (hs : starEach [a] X.env = [(false, eval a X.env)] := by rfl) (hbase : attributeBase o "join" X.env (eval o X.env) = eval o X.env := by rfl) (hline : (apos.endLine == pos.line) = true := by rfl) :
    PE X (.Call (.Attribute o "join" apos) [a] [] pos) (tV X.w X.K e O fun ρ => fo ρ >>= fun x => asStr x >>= fun _ => fa ρ >>= fun y => joinD x y) := by
  refine pe_imp (pe_join ho ha hs hbase hline) fun σ H Q ⟨B, ρ, G, r, q⟩ => ⟨B, ρ, G, r, gd_mono (gd_bind.mp q) fun d q v G1 H1 g1 t1 => ?_⟩
  obtain ⟨z, rfl, rfl, q⟩ := asStr_in t1 (gd_bind.mp q)
  refine ⟨⟨z, rfl⟩, B, ρ, G1, r.grow g1, gd_mono (gd_bind.mp q) fun d2 q u G2 H2 g2 t2 => ?_⟩
  unfold joinD at q
  split at q
  · rename_i hz
    cases hz
    cases t2 with
    | lst s1 a1 =>
      obtain ⟨ys, ey, q2⟩ := opt_in (gd_bind.mp q)
      obtain ⟨rfl, rfl⟩ := strs_dt a1 ey
      split at q2
      · rename_i hp
        refine ⟨_, _, ys, rfl, rfl, .inl (Rd.sq (Rd.sub g2.sub s1)), hp, ?_⟩
        rw [TL.join_eq]
        exact q2 _ G2 H2 (g1.trans g2) (.str _)
      · exact q2.elim
  · exact q.elim
end
end Vs

set_option Elab.async false
set_option linter.all false
set_option maxRecDepth 100000
/-! More rules on data: stars, counts, places, sums, order, comprehensions stored. -/
namespace Vs
open PySem PySem.Spec PyProof.Rows L2

theorem hu64 {k : Nat} {A : Around} (hr : Room k A) : A.units + 64 < cLine := by have := hr.un; omega
theorem hu65 {k : Nat} {A : Around} (hr : Room k A) : A.units + 65 < cLine := by have := hr.un; omega
theorem wish0 {w : World} {K : PySem.W.Frag} {cl : Nat → Addr} {E : XK} : Wish noE w K cl E := fun _ _ _ h => h.elim
/-- turns that a while may take -/
def FU : Nat := 1000000

section
variable {X : Cx} {a b : Expr} {es : List Expr} {pos p apos cpos : Pos} {e : Bas → Nat → D → Prop} {O O' vs ws : List Nat} {fr : Bool} {fa fb : Env' → R D} {fs : Env' → R (List D)}

/-! ### - -/
theorem v_negc {i : Int} {j p1} : PE X (.UnaryOp .USub (.Constant (.int i) j p1) pos) (tV X.w X.K e O fun _ => .ok (.int (-i))) :=
  pe_imp (pe_un un_neg pe_int) fun σ H Q ⟨B, ρ, G, r, q⟩ => ⟨i, rfl, q _ G H r.here (.int _)⟩
def negD (d : D) : R D := asI d >>= fun i => .ok (.int (-i))
theorem v_neg (h : PE X a (tV X.w X.K e O fa)) : PE X (.UnaryOp .USub a pos) (tV X.w X.K e O fun ρ => fa ρ >>= fun x => negD x) :=
  pe_imp (pe_un un_neg h) fun σ H Q ⟨B, ρ, G, r, q⟩ => ⟨B, ρ, G, r, gd_mono (gd_bind.mp q) fun d q v G1 H1 g1 t => by
    obtain ⟨i, rfl, q⟩ := asI_in t (gd_bind.mp q)
    exact ⟨i, rfl, q _ G1 H1 g1 (.int _)⟩⟩

/-! ### order (whole numbers) -/
def ltD : D → D → R D := cmpI fun i j => decide (i < j)
def leD : D → D → R D := cmpI fun i j => decide (i ≤ j)
def gtD : D → D → R D := cmpI fun i j => decide (j < i)
def geD : D → D → R D := cmpI fun i j => decide (j ≤ i)
theorem d_lt : OpR X (compareOp .Lt) (r2 X.w X.K ltD) := d_ltI
theorem d_le : OpR X (compareOp .LtE) (r2 X.w X.K leD) := d_leI
theorem d_gt : OpR X (compareOp .Gt) (r2 X.w X.K gtD) := d_gtI
theorem d_ge : OpR X (compareOp .GtE) (r2 X.w X.K geD) := d_geI

/-! ### is True -/
def asBB (a b : D) (g : Bool → Bool → Bool) : R D := match a, b with
  | .bool x, .bool y => .ok (.bool (g x y))
  | _, _ => stk
def isBD (a b : D) : R D := asBB a b fun x y => decide (x = y)
def notBD (a b : D) : R D := asBB a b fun x y => !decide (x = y)
theorem d_isb : OpR X (compareOp .Is) (r2 X.w X.K isBD) := opr_imp op_isBl fun x y H Q ⟨G, da, db, e, sb, t1, t2, q⟩ => by
  unfold isBD asBB at q
  split at q
  · cases t1; cases t2
    exact ⟨_, _, rfl, rfl, q _ G H (Gr.refl sb) (.bl _)⟩
  · exact q.elim
theorem d_isnb : OpR X (compareOp .IsNot) (r2 X.w X.K notBD) := opr_imp op_notBl fun x y H Q ⟨G, da, db, e, sb, t1, t2, q⟩ => by
  unfold notBD asBB at q
  split at q
  · cases t1; cases t2
    exact ⟨_, _, rfl, rfl, q _ G H (Gr.refl sb) (.bl _)⟩
  · exact q.elim

/-! ### stars -/
def seqOf : D → R (List D)
  | .list ds => .ok ds
  | .tuple ds => .ok ds
  | _ => stk
theorem a_star {p1 : Pos} (ha : PE X a (tV X.w X.K e O fa)) (hs : PA X es (tA X.w X.K e O fs)) (h : starEach (.Starred a p1 :: es) X.env = (true, eval a X.env) :: starEach es X.env := by rfl) :
    PA X (.Starred a p1 :: es) (tA X.w X.K e O fun ρ => fa ρ >>= fun x => seqOf x >>= fun zs => fs ρ >>= fun xs => .ok (zs ++ xs)) := by
  refine pa_imp (StX.pa_star ha hs h) fun σ H Q ⟨B, ρ, G, r, q⟩ => ⟨B, ρ, G, r, gd_mono (gd_bind.mp q) fun x q v G1 H1 g1 t1 => ?_⟩
  have key : ∀ (A : Addr) (us : List V) (zs : List D), v = .ref A → (SqT X.K H1 A us ∨ SqL X.K H1 A us) → DtAll X.w X.K G1 us zs → gd (fs ρ >>= fun xs => .ok (zs ++ xs)) (fun ds => ∀ vs G' H', Gr G H G' H' → DtAll X.w X.K G' vs ds → Q vs H') (e B) →
      ∃ a xs, v = .ref a ∧ (SqT X.K H1 a xs ∨ SqL X.K H1 a xs) ∧ tA X.w X.K e O fs σ H1 fun vs H2 => Q (xs ++ vs) H2 := fun A us zs e1 h1 h2 q =>
    ⟨A, us, e1, h1, B, ρ, G1, r.grow g1, gd_mono (gd_bind.mp q) fun xs q vs G2 H2 g2 t2 => q _ G2 H2 (g1.trans g2) ((h2.sub (g2.up g1.sub)).append t2)⟩
  unfold seqOf at q
  split at q
  · cases t1 with
    | lst s1 a1 => exact key _ _ _ rfl (.inr (Rd.sq (Rd.sub g1.sub s1))) a1 q
  · cases t1 with
    | tup s1 a1 => exact key _ _ _ rfl (.inl (SqT.sub g1.sub s1)) a1 q
  · exact q.elim

/-! ### texts: count -/
def countD (x y : D) : R D := asStr x >>= fun a => asStr y >>= fun b => .ok (.int (Txt.count a b))
theorem v_count (ho : PE X a (tV X.w X.K e O fa)) (hb : PE X b (tV X.w X.K e O fb)) (hs : starEach [b] X.env = [(false, eval b X.env)] := by rfl) (hbase : attributeBase a "count" X.env (eval a X.env) = eval a X.env := by rfl) (hline : (apos.endLine == pos.line) = true := by rfl) :
    PE X (.Call (.Attribute a "count" apos) [b] [] pos) (tV X.w X.K e O fun ρ => fa ρ >>= fun x => asStr x >>= fun _ => fb ρ >>= fun y => countD x y) := by
  refine pe_imp (pe_m1 PySem.F.slot_str_count PySem.F.type_str_count mt_count ho hb hs hbase hline) fun σ H Q ⟨B, ρ, G, r, q⟩ => ⟨B, ρ, G, r, gd_mono (gd_bind.mp q) fun d q v G1 H1 g1 t1 => ?_⟩
  obtain ⟨z, rfl, rfl, q⟩ := asStr_in t1 (gd_bind.mp q)
  refine ⟨⟨z, rfl⟩, B, ρ, G1, r.grow g1, gd_mono (gd_bind.mp q) fun d2 q u G2 H2 g2 t2 => ?_⟩
  unfold countD at q
  obtain ⟨z1, e1, _, q⟩ := asStr_in t1 (gd_bind.mp q)
  cases e1
  obtain ⟨y, rfl, rfl, q⟩ := asStr_in t2 (gd_bind.mp q)
  exact ⟨_, _, rfl, rfl, q _ G2 H2 (g1.trans g2) (.int _)⟩

/-! ### lists: the place of an item -/
def indexD (l d : D) : R D := itL l >>= fun ds => if SeqAt.shaped (.list ds) = true ∧ SeqAt.shaped d = true then opt (ds.findIdx? fun z => PyData.eqv z d) >>= fun j => .ok (.int (j : Nat)) else stk
theorem v_index (hu : X.A.units + 65 < cLine) (ho : PE X a (tV X.w X.K e O fa)) (hb : PE X b (tV X.w X.K e O fb))
    (hbase : attributeBase a "index" X.env (eval a X.env) = eval a X.env := by rfl)
    (hfew : ((backTo cpos (starEach [b] X.env)).all (fun x => !x.1) && (backToKw cpos (keywordEach [] X.env)).all (fun x => x.1.isSome) && decide ([b].length + ([] : List Keyword).length + (if ([] : List Keyword).isEmpty then 0 else 1) < 30)) = true := by rfl)
    (hline : (apos.endLine == cpos.line) = true := by rfl) (hst : starEach [b] X.env = (false, eval b X.env) :: starEach [] X.env := by rfl) (hpl : (backTo cpos (starEach [] X.env)).any (·.1) = false := by rfl) :
    PE X (.Call (.Attribute a "index" apos) [b] [] cpos) (tV X.w X.K e O fun ρ => fa ρ >>= fun x => itL x >>= fun _ => fb ρ >>= fun y => indexD x y) := by
  refine pe_imp (pe_bm PySem.F.plainAttrs_list PySem.F.slot_list_index PySem.F.type_list_index (mt_indexD hu) ho (pa_cons hb pa_nil hst) hbase hfew hline hst hpl) fun σ H Q ⟨B, ρ, G, r, q⟩ => ⟨B, ρ, G, r, gd_mono (gd_bind.mp q) fun d q v G1 H1 g1 t1 => ?_⟩
  cases t1 with
  | lst s1 a1 =>
    rename_i A xs ds
    refine ⟨.inl ⟨rfl, xs, Rd.sq (Rd.sub g1.sub s1)⟩, B, ρ, G1, r.grow g1, gd_mono (gd_bind.mp q) fun d2 q u G2 H2 g2 t2 => ?_⟩
    have q : gd (if SeqAt.shaped (.list ds) = true ∧ SeqAt.shaped d2 = true then opt (ds.findIdx? fun z => PyData.eqv z d2) >>= fun j => .ok (.int (j : Nat)) else stk) (fun d => ∀ v G' H', Gr G H G' H' → Dt X.w X.K G' v d → Q v H') (e B) := q
    split at q
    · rename_i hc
      obtain ⟨j, ej, q⟩ := opt_in (gd_bind.mp q)
      obtain ⟨hj, h1, h2⟩ := List.findIdx?_eq_some_iff_getElem.mp ej
      have tl : Dt X.w X.K G2 (.ref A) (.list ds) := .lst (Rd.sub (g2.up g1.sub) s1) (a1.sub (g2.up g1.sub))
      exact ⟨A, u, d2, ds, j, ds[j], rfl, rfl, tl.dp g2.sub (shaped_lay hc.1), t2.dp g2.sub (shaped_lay hc.2), hc.1, hc.2, List.getElem?_eq_getElem hj, h1, fun m z hm hz => by
        obtain ⟨hm2, ez⟩ := List.getElem?_eq_some_iff.mp hz
        have := h2 m hm
        rw [ez] at this
        simpa using this, q _ G2 H2 (g1.trans g2) (.int _)⟩
    · exact q.elim
  | non => exact q.elim
  | bl _ => exact q.elim
  | int _ => exact q.elim
  | str _ => exact q.elim
  | tup _ _ => exact q.elim
  | dct _ _ _ _ _ _ => exact q.elim
  | scr _ _ => exact q.elim
  | exc _ _ => exact q.elim

/-! ### sums -/
def sumD : List D → R D
  | [.list ds] => opt (ints? ds) >>= fun ns => .ok (.int ns.sum)
  | _ => stk
theorem c_sum (hc : X.calm = true) : CallR X (.builtin "sum") (rC X.w X.K sumD) := callr_imp (cr_sum hc) fun xs H Q ⟨G, ds, e, sb, t, q⟩ => by
  unfold sumD at q
  split at q
  · cases t with
    | cons t1 t2 =>
      cases t2
      cases t1 with
      | lst s1 a1 =>
        obtain ⟨ns, en, q2⟩ := opt_in (gd_bind.mp q)
        obtain ⟨rfl, rfl⟩ := ints_dt a1 en
        exact ⟨_, ns, rfl, Rd.sq (Rd.sub sb s1), q2 _ G H (Gr.refl sb) (.int _)⟩
  · exact q.elim

/-! ### a slot of one's own: its item -/
theorem v_ixo (i : Nat) {x : Str} (hb : PE X b (tV X.w X.K e O fb)) (hi : i ∈ O := by decide) (hN : X.N[i]? = some x := by rfl) (hv : Vis X.env.scope x := by first | exact Or.inl rfl | exact Or.inr (Or.inl rfl) | exact Or.inr (Or.inr rfl)) (hd : (x == ("__debug__" : Str)) = false := by decide)
    (hc : (x == ("__classdict__" : Str)) = false := by decide) (hs : PlainIx b := by exact fun _ _ => rfl) :
    PE X (.Subscript (.Name x p) b pos) (tV X.w X.K e O fun ρ => gl ρ i >>= fun ds => fb ρ >>= fun y => asI y >>= fun j => opt (atI ds j)) := by
  refine pe_imp (pe_ix ix_list (pv i hN hv hd hc) hb hs) fun σ H Q ⟨B, ρ, G, r, q⟩ => ?_
  obtain ⟨ds, e0, q⟩ := gl_in (gd_bind.mp q)
  obtain ⟨A, s0, o, n1, n2⟩ := r.own i _ e0 hi
  rcases o with ⟨us, ds', ed, hA, tA⟩ | ⟨_, _, _, _, ed, _⟩
  · cases ed
    refine ⟨.ref A, s0, B, ρ, G, r, gd_mono (gd_bind.mp q) fun d q v G1 H1 g1 t => ?_⟩
    obtain ⟨j, rfl, q⟩ := asI_in t (gd_bind.mp q)
    obtain ⟨y, ey, q⟩ := opt_in q
    obtain ⟨z, ez, tz⟩ := atI_dt tA ey
    exact ⟨A, us, j, z, rfl, rfl, .inl (.inl (g1.keep A _ hA)), ez, q z G1 H1 g1 (tz.sub (g1.up r.sub))⟩
  · cases ed

/-! ### x = [..] on one line, frozen -/
section
variable {elt tgt iter : Expr} {ifs : List Expr} {scope : Scope} {fi : Env' → R (List D)} {tg : D → Env' → R Env'} {ft : Env' → R Bool} {fe : Env' → R D}
theorem s_lcV (i : Nat) (own : List (Str × Nat)) {y : Str} {py spos : Pos} (hc : X.calm = true) (hN : X.N.Nodup) (hi : PI X tgt iter (iV X.w X.K e O fi)) (ok : BlkOk X.N X.env.scope scope own) (hg : Blk X scope fun Y => PG Y tgt (gT Y.w Y.K noE O ws tg)) (ht : Blk X scope fun Y => PTs Y ifs (tW Y.w Y.K noE O ft)) (he : Blk X scope fun Y => PE Y elt (tV Y.w Y.K noE O fe))
    (h1 : ∀ j ∈ O', j ∈ O ∧ j ≠ i := by decide) (h2 : ∀ j ∈ O, j = i ∨ j ∈ O' := by decide) (hy : X.N[i]? = some y := by rfl) (hyl : X.env.scope.names.lookup y = some .local := by rfl) (hv : ∀ j ∈ ws, j ∈ own.map (·.2) := by decide) (hs : ∀ x, foldedSetIterable iter X.env x = pure x := by intro _; rfl)
    (hsw : swapsWith (.ListComp elt [⟨tgt, iter, ifs, 0⟩] scope pos) (some (.Name y py)) spos.line X.env = pure true := by exact sw_true rfl rfl rfl (by decide +kernel)) :
    PS X (.Assign [.Name y py] (.ListComp elt [⟨tgt, iter, ifs, 0⟩] scope pos) spos) (sV X.w X.K e O O' fr fun ρ => compD (own.map (·.2)) fi tg ft fe ρ >>= fun d => setD i d ρ) := by
  refine ps_imp (ps_setLc (g := gT X.w X.K noE O ws tg) (tt := tW X.w X.K noE O ft) (te := tV X.w X.K noE O fe) hc hN hy hyl hsw hi ok hg ht he hs) fun Dn σ H ⟨B, ρ, G, r, q⟩ => ?_
  refine lc_in (e := e) hv ⟨B, ρ, G, r, gd_mono (gd_bind.mp q) fun d q p G1 H1 g1 n1 n2 o => ?_⟩
  obtain ⟨u, hu⟩ := o.there
  have g2 := g1.frz n1 hu
  exact q _ _ H1 (g2.up r.sub) ((r.grow g2).put (o.dt n2 hu) h1 h2)
end
end
end Vs

set_option Elab.async false
set_option linter.all false
set_option maxRecDepth 100000
namespace Vs
open PySem PySem.Spec PyProof.Rows L2

/-! ### constants of the module -/
section
variable {w : World} {K : PySem.W.Frag} {mg : Str → Option Value} {x : Str}
theorem Kon.int {i : Int} {t : Tok} (m : mg x = some (.int i t)) : Kon w K mg x (.int i) := ⟨.int i, _, m, ⟨t, rfl⟩, fun _ => .int i⟩
theorem Kon.str {z : Str} {t : Tok} (m : mg x = some (.str z t)) : Kon w K mg x (.str z) := ⟨.str z, _, m, ⟨t, rfl⟩, fun _ => .str z⟩
end

section
variable {w : World} {K : PySem.W.Frag} {mg : Str → Option Value} {x : Str}
theorem Kon.stx {z : Str} {t : Tok} {l : List Nat} (m : mg x = some (.str z t)) (h : z = tx l := by decide +kernel) : Kon w K mg x (.str (tx l)) := by subst h; exact Kon.str m
end
theorem v_stx {X : Cx} {e : Bas → Nat → D → Prop} {O : List Nat} {i : Str} {j p} (l : List Nat) (h : i = tx l := by decide +kernel) : PE X (.Constant (.str i) j p) (tV X.w X.K e O fun _ => .ok (.str (tx l))) := by subst h; exact v_str
/-! ### the script -/
theorem sp_law {w : World} {K : PySem.W.Frag} {cl : Nat → Addr} {H : Hp} {a : Addr} {ns : List Int} {f : List D → R D} (hS : SqL K H a (ns.map V.int)) (hf : f [.dict [(.none, .list (ns.map .int)), (.none, .none)]] = .ok (.bool true)) :
    spD w K cl 1 false f [.ref a] H (fun v _ => v = .bl true) fun _ _ _ => False := by
  have hd : ∀ ns : List Int, DtAll w K H (ns.map V.int) (ns.map .int) := fun ns => by
    induction ns with
    | nil => exact .nil
    | cons i ns ih => exact .cons (.int i) ih
  refine ⟨_, H, Sub.refl H, .one (.scr hS (hd ns)), ?_⟩
  unfold fnD
  rw [List.length_singleton, if_pos rfl, hf]
  intro v G' H' b
  cases b.2
  rfl

/-! ### x = [.. for .. for ..] on one line -/
section
variable {X : Cx} {e : Bas → Nat → D → Prop} {O O' ws ws1 : List Nat} {fr : Bool} {elt tgt iter tgt1 iter1 : Expr} {ifs ifs1 : List Expr} {scope : Scope} {pos : Pos} {fi fi1 : Env' → R (List D)} {tg tg1 : D → Env' → R Env'} {ft ft1 : Env' → R Bool} {fe : Env' → R D}
theorem s_lc2 (i : Nat) (own : List (Str × Nat)) (vs1 : List Nat) {y : Str} {py spos : Pos} (hc : X.calm = true) (hN : X.N.Nodup) (hi : PI X tgt iter (iV X.w X.K e O fi)) (ok : BlkOk X.N X.env.scope scope own) (hg : Blk X scope fun Y => PG Y tgt (gT Y.w Y.K noE O ws tg)) (ht : Blk X scope fun Y => PTs Y ifs (tW Y.w Y.K noE O ft))
    (hi1 : Blk X scope fun Y => PI Y tgt1 iter1 (iV Y.w Y.K noE O fi1)) (hg1 : Blk X scope fun Y => PG Y tgt1 (gT Y.w Y.K noE O ws1 tg1)) (ht1 : Blk X scope fun Y => PTs Y ifs1 (tW Y.w Y.K noE O ft1)) (he : Blk X scope fun Y => PE Y elt (tV Y.w Y.K noE O fe))
    (h1 : ∀ j ∈ O', j ∈ O ∧ j ≠ i := by decide) (h2 : ∀ j ∈ O, j = i ∨ j ∈ O' := by decide) (hy : X.N[i]? = some y := by rfl) (hyl : X.env.scope.names.lookup y = some .local := by rfl)
    (hvo : ∀ i ∈ vs1, i ∈ own.map (·.2) := by decide) (hv : ∀ j ∈ ws, j ∈ own.map (·.2) := by decide) (hv1 : ∀ j ∈ ws1, j ∈ vs1 := by decide) (hs : ∀ x, foldedSetIterable iter X.env x = pure x := by intro _; rfl) (hs1 : ∀ env x, foldedSetIterable iter1 env x = pure x := by intro _ _; rfl)
    (hsw : swapsWith (.ListComp elt [⟨tgt, iter, ifs, 0⟩, ⟨tgt1, iter1, ifs1, 0⟩] scope pos) (some (.Name y py)) spos.line X.env = pure true := by exact sw_true rfl rfl rfl (by decide +kernel)) :
    PS X (.Assign [.Name y py] (.ListComp elt [⟨tgt, iter, ifs, 0⟩, ⟨tgt1, iter1, ifs1, 0⟩] scope pos) spos) (sV X.w X.K e O O' fr fun ρ => compD2 (own.map (·.2)) vs1 fi tg ft fi1 tg1 ft1 fe ρ >>= fun d => setD i d ρ) := by
  refine ps_imp (ps_setLc2 (g := gT X.w X.K noE O ws tg) (tt := tW X.w X.K noE O ft) (wi1 := iV X.w X.K noE O fi1) (g1 := gT X.w X.K noE O ws1 tg1) (tt1 := tW X.w X.K noE O ft1) (te := tV X.w X.K noE O fe) hc hN hy hyl hsw hi ok hvo hg ht hi1 hg1 ht1 he hs hs1) fun Dn σ H ⟨B, ρ, G, r, q⟩ => ?_
  refine lc2_in (e := e) hv hv1 ⟨B, ρ, G, r, gd_mono (gd_bind.mp q) fun d q p G1 H1 g1 n1 n2 o => ?_⟩
  obtain ⟨u, hu⟩ := o.there
  have g2 := g1.frz n1 hu
  exact q _ _ H1 (g2.up r.sub) ((r.grow g2).put (o.dt n2 hu) h1 h2)
end
end Vs

set_option Elab.async false
set_option linter.all false
set_option maxRecDepth 100000
/-! sorted, on data that are alike. -/
namespace Vs
open PySem PySem.Spec PyProof.Rows L2
open PySem.W (EachIs AllAlike Sortable alike dataLe dataLt)

/-! ### the order, and sorting by inserting -/
def insD (x : D) : List D → List D
  | [] => [x]
  | y :: r => if dle x y then x :: y :: r else y :: insD x r
where dle (a b : D) : Bool := !dataLt b a
def isort : List D → List D
  | [] => []
  | x :: r => insD x (isort r)
theorem ins_len (x : D) : ∀ l : List D, (insD x l).length = l.length + 1
  | [] => rfl
  | y :: r => by
    show (if insD.dle x y then _ else _ : List D).length = _
    split
    · rfl
    · rw [List.length_cons, ins_len x r, List.length_cons]
theorem isort_len : ∀ l : List D, (isort l).length = l.length
  | [] => rfl
  | x :: r => by
    show (insD x (isort r)).length = _
    rw [ins_len, isort_len r, List.length_cons]
theorem le_is : dataLe false (fun d : D => d) = insD.dle := PySem.W.dataLe_eq false _
theorem le_tot : PySem.W.TotalLe insD.dle := by
  rw [← le_is]
  exact PySem.W.sortLe_total _ _ _
theorem ins_at {x : D} : ∀ {l r : List D}, (∀ b ∈ l, (!insD.dle x b) = true) → (∀ b ∈ r, insD.dle x b = true) → insD x (l ++ r) = l ++ x :: r
  | [], [], _, _ => rfl
  | [], y :: r, _, h => by
    show (if insD.dle x y then _ else _) = _
    rw [if_pos (h y List.mem_cons_self)]
    rfl
  | y :: l, r, h1, h2 => by
    have e := h1 y List.mem_cons_self
    rw [Bool.not_eq_true'] at e
    show (if insD.dle x y then _ else _) = _
    rw [e, if_neg Bool.false_ne_true]
    exact congrArg (y :: ·) (ins_at (fun b hb => h1 b (List.mem_cons_of_mem _ hb)) h2)
theorem isort_is : ∀ l : List D, l.mergeSort insD.dle = isort l
  | [] => by rw [List.mergeSort_nil]; rfl
  | x :: l => by
    have tr : ∀ a b c : D, insD.dle a b = true → insD.dle b c = true → insD.dle a c = true := le_tot.trans
    have to : ∀ a b : D, (insD.dle a b || insD.dle b a) = true := fun a b => by
      rcases le_tot.total a b with h | h <;> simp [h]
    obtain ⟨l1, l2, e1, e2, h⟩ := List.mergeSort_cons (le := insD.dle) tr to x l
    have p := List.pairwise_mergeSort (le := insD.dle) tr to (x :: l)
    rw [e1] at p ⊢
    show l1 ++ x :: l2 = insD x (isort l)
    rw [← isort_is l, e2]
    exact (ins_at h fun b hb => (List.pairwise_cons.mp (List.pairwise_append.mp p).2.1).1 b hb).symm
/-- what sorted may be asked -/
def srtOk (ds : List D) : Bool := ds.all (fun d => d.canLay0 && decide (d.depth ≤ 60) && ds.all fun d' => alike d d') && (ds.all (fun d => match d with | .tuple (_ :: _) => true | _ => false) || ds.all fun d => match d with | .none => false | .tuple _ => false | _ => true)
theorem srtOk_is {ds : List D} (h : srtOk ds = true) : (∀ d ∈ ds, d.canLay0 = true ∧ d.depth ≤ 60) ∧ AllAlike ds ∧ Sortable ds := by
  unfold srtOk at h
  rw [Bool.and_eq_true, Bool.or_eq_true, List.all_eq_true, List.all_eq_true, List.all_eq_true] at h
  obtain ⟨h1, h2⟩ := h
  refine ⟨fun d hd => ?_, fun d hd d' hd' => ?_, ?_⟩
  · have := h1 d hd
    rw [Bool.and_eq_true, Bool.and_eq_true] at this
    exact ⟨this.1.1, of_decide_eq_true this.1.2⟩
  · have := h1 d hd
    rw [Bool.and_eq_true, List.all_eq_true] at this
    exact this.2 d' hd'
  · rcases h2 with h2 | h2
    · refine .inl fun d hd => ?_
      have := h2 d hd
      split at this
      · exact ⟨_, _, rfl⟩
      · cases this
    · refine .inr fun d hd => ?_
      have := h2 d hd
      split at this
      · cases this
      · cases this
      · rename_i n1 n2
        exact ⟨n1, n2⟩

/-! ### sorted of what collects -/
section
variable {prog : Program} {w : World} {A : Around} {E : Value → Shared → Prop} {s : Shared}
theorem sorted_from {x : Value} {ds : List D} {R : Value → D → Prop} {Q : Value → Shared → Prop} (hL : ds.length ≤ sizeLine)
    (hc : ∀ Q' : List Value → Shared → Prop, (∀ (vs : List Value) (h' : Heap) (tk : Nat), (∀ b o, s.heap.get? b = some o → h'.get? b = some o) → EachIs R vs ds → EachIs (fun v b => ∃ as, Reads s.heap v b as) vs ds → Q' vs { s with heap := h', toks := tk }) → wpAny (model prog w) A.in1 (collect x) Q' E s)
    (hal : AllAlike ds) (hk : Sortable ds) (hu : ∀ d ∈ ds, A.units + 4 + d.depth < cLine)
    (h : ∀ (out : List Value) (h' : Heap) (tk n : Nat) (p : Addr), EachIs R out (isort ds) → (∀ b o, s.heap.get? b = some o → h'.get? b = some o) → s.heap.get? p = none → h'.get? p = some (seqObj "list" out.toArray n) → Q (.ref p) { s with heap := h', toks := tk }) :
    wpAny (model prog w) A (call (.builtin "sorted") [x]) Q E s := by
  refine PySem.Calls.call_function_entry kind_sorted plain_sorted entry_sorted (args_sorted1 _) ?_
  unfold Builtin.«sorted»
  refine wpAny_bind (m := checkCount "sorted" 1 1 _) (wpAny_pure ?_)
  refine wpAny_bind (hc _ fun vs h1 tk k1 e er => ?_)
  have hv : vs.length ≤ sizeLine := by rw [e.length]; exact hL
  refine wpAny_bind (wpAny_newList ?_ hv)
  have at1 : (h1.push (seqObj "list" vs.toArray 0)).get? h1.objs.size = some (seqObj "list" vs.toArray 0) := Heap.get?_push_size _ rfl
  have k2 : ∀ b o, s.heap.get? b = some o → (h1.push (seqObj "list" vs.toArray 0)).get? b = some o := fun b o q => Heap.get?_push_of_some _ (k1 b o q)
  have ne : ∀ b o, s.heap.get? b = some o → b ≠ h1.objs.size := fun b o q => Nat.ne_of_lt (Heap.lt_size (k1 b o q))
  have sz : s.heap.get? h1.objs.size = none := by
    cases q : s.heap.get? h1.objs.size with
    | none => rfl
    | some o => exact absurd rfl (ne _ o q)
  have er' : EachIs (fun v b => ∃ as, Reads (PySem.W.sortingHeap (h1.push (seqObj "list" vs.toArray 0)) h1.objs.size vs) v b as) vs ds := er.mono fun v d ⟨as, r⟩ => ⟨as, PyProof.Rows.Reads.keeps (fun b o q => PySem.W.sortingHeap_old (ne b o q) (k2 b o q)) r⟩
  have fin : ∀ out : List Value, EachIs R out (isort ds) → Q (.ref h1.objs.size) { s with heap := sortedHeap (h1.push (seqObj "list" vs.toArray 0)) h1.objs.size vs out.toArray, toks := tk } := fun out eo => by
    obtain ⟨n, hn⟩ := sortedHeap_at (out := out.toArray) at1
    refine h out _ tk n _ eo (fun b o q => ?_) sz hn
    rw [sortedHeap_old (ne b o q) (Heap.lt_size (k2 b o q))]
    exact k2 b o q
  refine wpAny_bind (wpAny_holding (wpAny_call_entry slot_list_sort ⟨_, at1, rfl⟩ entry_list_sort (PySem.W.list_sort_vals (κ := PySem.W.dataKind (PySem.W.sortingHeap (h1.push (seqObj "list" vs.toArray 0)) h1.objs.size vs) ds) at1 ?_ hv ⟨_, rfl, ?_⟩) (args_list_sort _)))
  · exact PySem.W.SortsAt.data er' hal hk fun d hd => by
      have := hu d hd
      show A.units + 1 + 1 + d.depth < cLine
      omega
  · refine wpAny_pure ⟨_, rfl, fin _ ?_⟩
    have q := PySem.W.sortVals_data (enc := fun d : D => d) false e er' (by rw [List.map_id']; exact hal)
    rw [List.map_id', le_is, isort_is] at q
    exact q
end

/-! ### the rule -/
section
variable {w : World} {K : PySem.W.Frag} {G : Hp}
def RD (w : World) (K : PySem.W.Frag) (G : Hp) (u : Value) (d : D) : Prop := ∃ v, RelV v u ∧ Dt w K G v d
theorem rd_of : ∀ {vs : List V} {us : List Value} {ds : List D}, Vals vs us → DtAll w K G vs ds → EachIs (RD w K G) us ds
  | _, _, _, .nil, .nil => .nil
  | _, _, _, .cons r rs, .cons t ts => .cons ⟨_, r, t⟩ (rd_of rs ts)
theorem rd_back : ∀ {us : List Value} {ds : List D}, EachIs (RD w K G) us ds → ∃ vs, Vals vs us ∧ DtAll w K G vs ds
  | _, _, .nil => ⟨[], .nil, .nil⟩
  | _, _, .cons ⟨v, r, t⟩ e => by
    obtain ⟨vs, rs, ts⟩ := rd_back e
    exact ⟨v :: vs, .cons r rs, .cons t ts⟩
theorem rd_reads {X : Cx} {pins : List (Addr × Obj)} {σ : L2.St} {H : Hp} {s : Shared} (I : Inv X pins σ H s) (sb : Sub G H) : ∀ {us : List Value} {ds : List D}, (∀ d ∈ ds, d.canLay0 = true ∧ d.depth ≤ 60) → EachIs (RD X.w X.K G) us ds → EachIs (fun v b => ∃ as, Reads s.heap v b as) us ds
  | _, _, _, .nil => .nil
  | _, _, h, .cons ⟨v, r, t⟩ e => .cons (Dp.reads I _ v _ (t.dp sb (h _ List.mem_cons_self).1) r) (rd_reads I sb (fun d hd => h d (List.mem_cons_of_mem _ hd)) e)
end
def srt (ds : List D) : R D := if srtOk ds = true ∧ ds.length ≤ sizeLine then .ok (.list (isort ds)) else stk
def sortedD : List D → R D
  | [.list ds] => srt ds
  | [.str x] => srt (x.cps.toList.map fun c => .str ⟨#[c]⟩)
  | _ => stk
theorem signs_rd {w : World} {K : PySem.W.Frag} {G : Hp} {x : Str} {acc : Array Value} (h : ItemsOf (SignAt x) acc x.cps.size) : EachIs (RD w K G) acc.toList (x.cps.toList.map fun c => .str ⟨#[c]⟩) := by
  have key : ∀ (us : List Value) (cs : List Nat), us.length = cs.length → (∀ (j : Nat) (v : Value), us[j]? = some v → ∃ c u, cs[j]? = some c ∧ v = Value.str ⟨#[c]⟩ u) → EachIs (RD w K G) us (cs.map fun c => .str ⟨#[c]⟩) := by
    intro us
    induction us with
    | nil => intro cs hl _; cases cs with
      | nil => exact .nil
      | cons _ _ => cases hl
    | cons v us ih => intro cs hl hj; cases cs with
      | nil => cases hl
      | cons c cs =>
        obtain ⟨c', u, e1, e2⟩ := hj 0 v rfl
        cases e1
        exact .cons ⟨.str ⟨#[c]⟩, ⟨u, e2⟩, .str _⟩ (ih cs (Nat.succ.inj hl) fun j v hv => hj (j + 1) v hv)
  refine key _ _ (by rw [Array.length_toList, Array.length_toList]; exact h.1) fun j v hv => ?_
  obtain ⟨c, u, e1, e2⟩ := h.2 j v (by rw [← Array.getElem?_toList]; exact hv)
  exact ⟨c, u, by rw [Array.getElem?_toList]; exact e1, e2⟩
theorem srt_run {X : Cx} {pins : List (Addr × Obj)} {σ : L2.St} {G H : Hp} {s : Shared} {Q : VK} {e : Nat → D → Prop} {u : Value} {ds : List D} (hu : X.A.units + 65 < cLine) (I : Inv X pins σ H s) (sb : Sub G H)
    (hc : ∀ Q' : List Value → Shared → Prop, (∀ (vs : List Value) (h' : Heap) (tk : Nat), (∀ b o, s.heap.get? b = some o → h'.get? b = some o) → EachIs (RD X.w X.K G) vs ds → Q' vs { s with heap := h', toks := tk }) → wpAny (model X.prog X.w) X.A.in1 (collect u) Q' X.xe s)
    (q : gd (srt ds) (fun d => ∀ a G' H', Gr G H G' H' → H a = none → G' a = none → Own X.w X.K G' H' a d → Q (.ref a) H') e) :
    wpAny (model X.prog X.w) X.A (call (.builtin "sorted") [u]) (EP X pins σ Q) X.xe s := by
  unfold srt at q
  split at q
  · rename_i hs
    obtain ⟨k1, k2, k3⟩ := srtOk_is hs.1
    refine sorted_from (R := RD X.w X.K G) hs.2 (fun Q' h => hc Q' fun vs h' tk k e => h vs h' tk k e (rd_reads I sb k1 e)) k2 k3 (fun d hd => ?_) fun out h' tk n p eo k pn hp => ?_
    · have := (k1 d hd).2
      omega
    · obtain ⟨xs, rv, t⟩ := rd_back eo
      have Hp : H p = none := I.hok.gone pn
      obtain ⟨g, n2, o⟩ := own_new sb Hp t
      have hl : xs.length ≤ sizeLine := by
        rw [t.length, isort_len]
        exact hs.2
      exact ⟨.ref p, upd H p (.lst xs), I.laidN (t' := tk) k pn Hp ⟨hl, out, n, rv, hp⟩, rfl, q p _ _ g Hp n2 o⟩
  · exact q.elim
theorem c_sorted {X : Cx} (hu : X.A.units + 65 < cLine) (hh : X.A.handled = none) : CallR X (.builtin "sorted") (rCo X.w X.K sortedD) := by
  intro pins s σ H xs us Q I r ⟨G, ds, e, sb, t, q⟩
  unfold sortedD at q
  split at q
  · cases t with
    | cons t1 t2 =>
      cases t2
      cases t1 with
      | lst s1 a1 =>
        obtain ⟨its, rv, hl, hz⟩ := I.list (Rd.sq (Rd.sub sb s1))
        rw [Vals.ref1 r]
        refine srt_run hu I sb (fun Q' h => collect_list hl.isList ?_ (by rw [← rv.length]; exact hz)) q
        refine h its _ s.toks (fun b o z => ?_) (rd_of rv a1)
        rw [Heap.get?_update_ne _ _ _ _ (Nat.ne_of_lt (Heap.lt_size z))]
        exact Heap.get?_push_of_some _ z
  · cases t with
    | cons t1 t2 =>
      cases t2
      cases t1 with
      | str =>
        rename_i x
        obtain ⟨u, rfl, ru⟩ := vals1 r
        obtain ⟨tk, rfl⟩ := ru
        have hlen : x.cps.size ≤ sizeLine := by
          unfold srt at q
          split at q
          · rename_i hs
            have := hs.2
            rw [List.length_map, Array.length_toList] at this
            exact this
          · exact q.elim
        refine srt_run hu I sb (fun Q' h => wpAny_collect_str (A := X.A.in1) (show X.A.in1.handled = none from hh) x tk (fun s' acc k1 k2 k3 k4 k5 => ?_) hlen) q
        obtain ⟨h', g', d', t', o'⟩ := s'
        cases k2; cases k3; cases k4
        exact h acc.toList h' t' k1 (signs_rd k5)
  · exact q.elim
end Vs

set_option Elab.async false
set_option linter.all false
set_option maxRecDepth 100000
/-! sets made of lists: whole numbers and texts. -/
namespace Vs
open PySem PySem.Spec PyProof.Rows L2

/-! ### each once -/
def addK {α : Type} [DecidableEq α] (l : List α) (x : α) : List α := if x ∈ l then l else l ++ [x]
def onceTo {α : Type} [DecidableEq α] (val : Nat → α) : Nat → List α
  | 0 => []
  | i + 1 => addK (onceTo val i) (val i)
theorem onceTo_le {α : Type} [DecidableEq α] (val : Nat → α) : ∀ i, (onceTo val i).length ≤ i
  | 0 => Nat.le_refl _
  | i + 1 => by
    have := onceTo_le val i
    show (addK _ _).length ≤ _
    unfold addK
    split
    · omega
    · rw [List.length_append, List.length_singleton]; omega
section
variable {prog : Program} {w : World} {κ : Type} [DecidableEq κ] {knd : KeyKind prog w κ} {A : Around} {R : Result → Shared → Prop} {I : Addr} {fp wr : List Addr} {Γ : Array GenState → Array GenState → Prop} {n : Nat} {P : Nat → Value → Prop} {St : Nat → Shared → Prop}
/-- the set at S holds just l -/
def SetL (knd : KeyKind prog w κ) (h : Heap) (S : Addr) (l : List κ) : Prop := h.SetOf knd S (fun k => decide (k ∈ l)) l.length
theorem SetL.keep {h h' : Heap} {S : Addr} {l : List κ} (x : SetL knd h S l) (k : ∀ o, h.get? S = some o → h'.get? S = some o) : SetL knd h' S l := by
  obtain ⟨o, es, ep, tb, ho, rest⟩ := x
  exact ⟨o, es, ep, tb, k o ho, rest⟩
theorem SetL.add {h : Heap} {S : Addr} {l : List κ} {k : κ} (x : h.SetOf knd S (fun k' => decide (k' ∈ l) || decide (k' = k)) (if decide (k ∈ l) then l.length else l.length + 1)) : SetL knd h S (addK l k) := by
  unfold SetL addK
  by_cases hk : k ∈ l
  · rw [if_pos hk]
    rw [decide_eq_true hk, if_pos rfl] at x
    refine cast (congrArg (fun f => h.SetOf knd S f l.length) (funext fun k' => ?_)) x
    by_cases e : k' = k
    · subst e; simp [hk]
    · simp [e]
  · rw [if_neg hk]
    rw [decide_eq_false hk, if_neg Bool.false_ne_true] at x
    rw [List.length_append, List.length_singleton]
    refine cast (congrArg (fun f => h.SetOf knd S f (l.length + 1)) (funext fun k' => ?_)) x
    simp [List.mem_append]
end
/-- how a set is kept: what stands at it when just l is in it -/
structure SetF (prog : Program) (w : World) (κ : Type) [DecidableEq κ] where
  isk : κ → Value → Prop
  Φ : Heap → Addr → List κ → Prop
  keep : ∀ {h h' : Heap} {S : Addr} {l : List κ}, Φ h S l → (∀ o, h.get? S = some o → h'.get? S = some o) → Φ h' S l
  add : ∀ {A : Around} {E : Value → Shared → Prop} {s : Shared} {S : Addr} {l : List κ} {k : κ} {v : Value} {Q : Bool → Shared → Prop}, isk k v → Φ s.heap S l → l.length + 1 < scanBound →
    (∀ b h', Heap.SameBut S s.heap h' → Φ h' S (addK l k) → Q b { s with heap := h', toks := s.toks + 1 }) → wpAny (model prog w) A (setAdd S v) Q E s
  new : ∀ {h : Heap} {S : Addr}, h.get? S = some { cls := .type "set", dict := none, data := .set #[] 0 (.fresh 0 0 (!w.params.followText "set-order")) } → Φ h S []
def setF_of {prog : Program} {w : World} {κ : Type} [DecidableEq κ] (knd : KeyKind prog w κ) : SetF prog w κ where
  isk := fun k v => knd.is k v = true ∧ v.scannable = true
  Φ := SetL knd
  keep := fun x k => x.keep k
  add := fun {A E s S l k v Q} hk x1 hl h => by
    unfold setAdd
    refine wpAny_holding (wpAny_bind (knd.pyHash hk.1 ?_))
    exact wpAny_setAddHashed_of (s := { s with toks := s.toks + 1 }) hk.1 hk.2 x1 hl fun h' sb x2 => h _ h' sb (SetL.add x2)
  new := fun {h S} e => cast (congrArg (fun f => h.SetOf knd S f 0) (funext fun k => by simp)) ((PyProof.Rows.setObjOf_fresh (knd := knd) _).setOf e (by decide))
section
variable {prog : Program} {w : World} {κ : Type} [DecidableEq κ] {knd : KeyKind prog w κ} {A : Around} {R : Result → Shared → Prop} {I : Addr} {fp wr : List Addr} {Γ : Array GenState → Array GenState → Prop} {n : Nat} {P : Nat → Value → Prop} {St : Nat → Shared → Prop}
theorem set_loop (W : WalksS prog w A.in1 I fp wr Γ n P St) (S : Addr) (nS : S ∉ fp) (F : SetF prog w κ) (val : Nat → κ) (hval : ∀ i v, P i v → F.isk (val i) v) (hn : n + 1 < scanBound) :
    ∀ (m i : Nat) (s : Shared), i + m = n → St i s → F.Φ s.heap S (onceTo val i) →
      (∀ s', Moved (S :: wr) Γ s s' → F.Φ s'.heap S (onceTo val n) → R (.ok (.ret .none)) s') →
      codeAny (model prog w) A (.builtin "set.update.loop" ⟨[.ref S, .ref I], []⟩) R s
  | 0, i, s, e, st, x, r => by
    obtain rfl : i = n := by omega
    refine codeAny_builtin PyProof.Rows.F.entry_set_update_loop ?_
    rw [Around.under_plainId PyProof.Rows.F.plain_set_update_loop _]
    show wpAny _ A.in1 (pyNext (.ref I) >>= _) _ _ s
    refine wpAny_bind (W.done s _ _ st fun s' mv => ?_)
    exact wpAny_pure (r s' (mv.mono fun b hb => List.mem_cons_of_mem _ hb) (F.keep x fun o => mv.heap S o fun z => nS (W.sub _ z)))
  | m + 1, i, s, e, st, x, r => by
    have lt : i < n := by omega
    refine codeAny_builtin PyProof.Rows.F.entry_set_update_loop ?_
    rw [Around.under_plainId PyProof.Rows.F.plain_set_update_loop _]
    show wpAny _ A.in1 (pyNext (.ref I) >>= _) _ _ s
    refine wpAny_bind (W.item i s _ _ lt st fun v s1 hP st1 mv => ?_)
    have hk := hval i v hP
    have x1 : F.Φ s1.heap S (onceTo val i) := F.keep x fun o => mv.heap S o fun z => nS (W.sub _ z)
    show wpAny _ A.in1 (holding [v] (setAdd S v) >>= _) _ _ s1
    refine wpAny_bind (wpAny_holding ?_)
    refine F.add hk x1 (by have := onceTo_le val i; omega) fun b h' sb x2 => ?_
    have x3 : F.Φ h' S (onceTo val (i + 1)) := x2
    have st2 := W.frame (i + 1) s1 h' (s1.toks + 1) st1 (Nat.le_succ _) fun b hb o q => (sb.2 b fun z => nS (z ▸ hb)).trans q
    refine wpAny_pure ⟨plainId_quiet PyProof.Rows.F.plain_set_update_loop _, set_loop W S nS F val hval hn m (i + 1) _ (by omega) st2 x3 fun s' mv2 x4 => r s' ?_ x4⟩
    exact Moved.trans W.gtrans ((mv.mono fun b hb => List.mem_cons_of_mem _ hb).then_heap (Nat.le_succ _) fun b o hb q => (sb.2 b fun z => hb (z ▸ List.mem_cons_self)).trans q) mv2
end

section
variable {prog : Program} {w : World} {κ : Type} [DecidableEq κ] {knd : KeyKind prog w κ} {A : Around} {E : Value → Shared → Prop} {s : Shared}
/-- an empty set, new -/
abbrev newSet (led : Bool) : Obj := { cls := .type "set", dict := none, data := .set #[] 0 (.fresh 0 0 led) }
theorem set_new_as (a : Value) {Q₁ : Value → Shared → Prop} (h : Q₁ (.ref s.heap.objs.size) { s with heap := s.heap.push (newSet (!w.params.followText "set-order")) }) : codeAny (model prog w) A (.call (.builtin "set.__new__") ⟨[.type "set", a], []⟩) (wants Q₁ E) s := by
  refine codeAny_of_tree ?_
  show wpAny _ A.in1 (do checkBuiltinCall "set.__new__" ⟨[.type "set", a], []⟩; again _) _ _ s
  refine wpAny_bind (wpAny_of_eq (PySem.F.newCall_set_1 a) (wpAny_pure ⟨plainId_quiet PySem.F.plain_set_new _, codeAny_builtin PySem.F.entry_set_new ?_⟩))
  rw [Around.under_plainId PySem.F.plain_set_new _]
  have hsub := PySem.sub_set_self
  unfold Builtin.«set.__new__» Builtin.Frozenset.newClass
  cases s
  dsimp only
  wp_walk
  refine PySem.wpAny_askSetting (wpAny_pure ?_)
  dsimp only
  simp only [newObj]
  exact wpAny_bind (wpAny_alloc (wpAny_pure (wpAny_pure h)))
set_option maxHeartbeats 3200000 in
theorem call_set_F {l : Addr} {items : Array Value} {Q : Value → Shared → Prop} (F : SetF prog w κ) (val : Nat → κ) (hh : A.handled = none) (hl : s.heap.IsList l items) (hval : ∀ i v, items[i]? = some v → F.isk (val i) v) (hn : items.size + 1 < scanBound)
    (q : ∀ (h' : Heap) (tk : Nat), F.Φ h' s.heap.objs.size (onceTo val items.size) → (∀ b o, s.heap.get? b = some o → h'.get? b = some o) → Q (.ref s.heap.objs.size) { s with heap := h', toks := tk }) :
    wpAny (model prog w) A (call (.type "set") [.ref l]) Q E s := by
  obtain ⟨c, tl, hmro⟩ := PySem.F.called_set.mro
  have u1 := PySem.F.called_set.made
  have u2 := PySem.F.called_set.sub
  have u3 := PySem.F.called_set.notType
  have u4 := PySem.F.called_set.canCreate
  have u5 := PySem.F.typeCall_set_1 (.ref l)
  refine wpAny_call (codeAny_of_tree ?_)
  show wpAny _ _ (callAny (.type "set") _) _ _ _
  refine wpAny_pure ⟨Code.quiet_builtin _ (by decide +kernel), codeAny_builtin PySem.F.entry_type_call ?_⟩
  rw [Around.under_plain (weight_type_call_type "set" [.ref l] []) rfl]
  repeat (any_goals (first | assumption | wp_step))
  generalize hled : (!w.params.followText "set-order") = led
  refine codeAny_mono (set_new_as (.ref l) (E := E) (Q₁ := fun ob t => ob = .ref s.heap.objs.size ∧ t = { s with heap := s.heap.push (newSet led) }) ⟨rfl, by rw [hled]⟩) fun r t hr => ?_
  cases r with
  | error e => exact hr
  | ok fl =>
    cases fl with
    | ret ob =>
      obtain ⟨rfl, rfl⟩ := hr
      have atS : (s.heap.push (newSet led)).get? s.heap.objs.size = some (newSet led) := Heap.get?_push_size _ rfl
      have isS : Shared.TypeIs { s with heap := s.heap.push (newSet led) } (.ref s.heap.objs.size) "set" := ⟨_, atS, rfl⟩
      have v1 := PySem.F.called_set.init.lookup
      have v2 := PySem.F.called_set.init.bind (.ref s.heap.objs.size)
      repeat (any_goals (first | assumption | wp_step))
      refine codeAny_mono (codeAny_call_builtin (R := wants (fun r t => r = .none ∧ ∃ h' tk, t = { s with heap := h', toks := tk } ∧ F.Φ h' s.heap.objs.size (onceTo val items.size) ∧ ∀ b o, s.heap.get? b = some o → h'.get? b = some o) E) PySem.F.called_set.init.plain PySem.F.entry_set_init (check_set_init_1 isS ?_)) fun r2 t2 hr2 => ?_
      · obtain ⟨⟨ocls, odict, odata, oslots⟩, hol, hcl, nl, hdl⟩ := hl
        simp only at hcl hdl
        subst hcl; subst hdl
        have hol2 := Heap.get?_push_of_some (newSet led) hol
        have x1 := PySem.F.sub_list_set
        have x2 := PySem.F.sub_list_frozenset
        have x3 : (Value.type "list" == Value.type "dict") = false := by decide
        have hl1 : (s.heap.push (newSet led)).IsList l items := ⟨_, hol2, rfl, nl, rfl⟩
        unfold Builtin.«set.__init__» noKeywords Builtin.Frozenset.updateFrom
        generalize hPI : pyIter = PI
        wp_walk
        subst hPI
        refine wpAny_pyIter_list hl1 (wpAny_bind (wpAny_runValue ?_))
        have lS : l < s.heap.objs.size := Heap.lt_size hol
        have hh3 : A.in1.in1.in1.handled = none := by simp [hh]
        have nI : l ≠ (s.heap.push (newSet led)).objs.size := by
          rw [Heap.size_push]; exact Nat.ne_of_lt (Nat.lt_succ_of_lt lS)
        have nS : s.heap.objs.size ∉ [(s.heap.push (newSet led)).objs.size, l] := by
          rw [Heap.size_push]; simp only [List.mem_cons, List.mem_singleton, List.not_mem_nil, or_false, not_or]; exact ⟨Nat.ne_of_lt (Nat.lt_succ_self _), Nat.ne_of_gt lS⟩
        refine set_loop ((Walks.list hh3 _ l nI items).toS) s.heap.objs.size nS F val hval hn items.size 0 _ (Nat.zero_add _) ⟨⟨_, Heap.get?_push_size _ rfl, rfl, rfl⟩, (hl1.push _)⟩ (F.new (by rw [hled]; exact Heap.get?_push_of_some _ atS)) ?_
        intro t mv x
        obtain ⟨h', g', d', tk', os'⟩ := t
        have eg : g' = s.gens := mv.gens
        have ed : d' = s.drawn := mv.drawn
        have eo : os' = s.os := mv.os
        subst eg; subst ed; subst eo
        show wpAny _ _ _ _ _ _
        refine wpAny_pure ?_
        show wpAny _ _ (PySem.ret Value.none) _ _ _
        refine wpAny_pure ⟨rfl, h', tk', rfl, x, fun b o e => mv.heap b o ?_ (Heap.get?_push_of_some _ (Heap.get?_push_of_some _ e))⟩
        have lb := Heap.lt_size e
        rw [Heap.size_push]
        simp only [List.mem_cons, List.mem_singleton, List.not_mem_nil, or_false, not_or]
        exact ⟨Nat.ne_of_lt lb, Nat.ne_of_lt (Nat.lt_succ_of_lt lb)⟩
      · cases r2 with
        | error e => exact hr2
        | ok f2 =>
          cases f2 with
          | ret r =>
            obtain ⟨rfl, h', tk, rfl, x, k⟩ := hr2
            repeat (any_goals (first | assumption | wp_step))
            exact q _ _ x k
          | _ => exact hr2.elim
    | _ => exact hr.elim
theorem call_set_l {l : Addr} {items : Array Value} {Q : Value → Shared → Prop} (val : Nat → κ) (hh : A.handled = none) (hl : s.heap.IsList l items) (hval : ∀ i v, items[i]? = some v → knd.is (val i) v = true ∧ v.scannable = true) (hn : items.size + 1 < scanBound)
    (q : ∀ (h' : Heap) (tk : Nat), SetL knd h' s.heap.objs.size (onceTo val items.size) → (∀ b o, s.heap.get? b = some o → h'.get? b = some o) → Q (.ref s.heap.objs.size) { s with heap := h', toks := tk }) :
    wpAny (model prog w) A (call (.type "set") [.ref l]) Q E s := call_set_F (setF_of knd) val hh hl hval hn q
end
end Vs

set_option Elab.async false
set_option linter.all false
set_option maxRecDepth 100000
namespace Vs
open PySem PySem.Spec PyProof.Rows L2

/-! ### len(set(xs)), xs a list of whole numbers, of texts -/
def keys? : List D → Option (List Key)
  | [] => some []
  | d :: r => match atomK d with
    | some k => (keys? r).map (k :: ·)
    | none => none
def once {α : Type} [DecidableEq α] (l : List α) : List α := l.foldl addK []
theorem onceTo_is {α : Type} [DecidableEq α] (x0 : α) : ∀ (l : List α) (i : Nat), i ≤ l.length → onceTo (fun j => l.getD j x0) i = once (l.take i)
  | l, 0, _ => by rw [List.take_zero]; rfl
  | l, i + 1, h => by
    have h1 : i < l.length := by omega
    rw [List.take_add_one, List.getElem?_eq_getElem h1]
    show addK (onceTo _ i) (l.getD i x0) = once (l.take i ++ [l[i]])
    rw [onceTo_is x0 l i (by omega)]
    unfold once
    rw [List.foldl_append, List.getD_eq_getElem?_getD, List.getElem?_eq_getElem h1]
    rfl
def lenSetD (d : D) : R D := itL d >>= fun ds => opt (keys? ds) >>= fun ks => if ks.length + 1 < 4096 then .ok (.int (once ks).length) else stk
theorem keys_dt {w : World} {K : PySem.W.Frag} {G : Hp} : ∀ {vs : List V} {ds : List D} {ks : List Key}, DtAll w K G vs ds → keys? ds = some ks → vs = ks.map kV
  | _, _, _, .nil, h => by cases h; rfl
  | _, _, ks, .cons (d := d) t ts, h => by
    unfold keys? at h
    split at h
    · rename_i k hk
      obtain ⟨ms, h1, h2⟩ := Option.map_eq_some_iff.mp h
      subst h2
      rw [keys_dt ts h1, atom_V t hk]
      rfl
    · cases h
theorem keys_at : ∀ {ks : List Key} {us : List Value}, Vals (ks.map kV) us → ∀ (i : Nat) (v : Value), us[i]? = some v → ∃ k, ks[i]? = some k ∧ RelV (kV k) v
  | [], _, .nil, i, v, h => by simp at h
  | k :: ks, _, .cons r rs, 0, v, h => by simp at h; subst h; exact ⟨k, rfl, r⟩
  | k :: ks, _, .cons r rs, i + 1, v, h => keys_at rs i v (by simpa using h)
section
variable {X : Cx} {a : Expr} {e : Bas → Nat → D → Prop} {O : List Nat} {fa : Env' → R D} {p p2 q pos : Pos}
theorem v_lenset (hm : X.mg "len" = none) (hm2 : X.mg "set" = none) (hc : X.calm = true) (ha : PE X a (tV X.w X.K e O fa)) (hg : Gl X "len" := by rfl) (hg2 : Gl X "set" := by rfl) (na : starEach [a] X.env = (false, eval a X.env) :: starEach [] X.env := by rfl) :
    PE X (.Call (.Name "len" p) [.Call (.Name "set" p2) [a] [] q] [] pos) (tV X.w X.K e O fun ρ => fa ρ >>= fun x => lenSetD x) := by
  refine ⟨fun pins s σ H Q I ⟨B, ρ, G, r, g⟩ => ?_⟩
  refine Call_ (ld_blt I hg hm boot_len ?_)
  refine PyProof.Rows.callWith_builtin1 (PyProof.Rows.args_cons ?_ rfl) rfl rfl
  refine Call_ (ld_blt I hg2 hm2 boot_set ?_)
  have key : tV X.w X.K e O fa σ H fun x H1 => ∃ (l : Addr) (ks : List Key), x = .ref l ∧ SqL X.K H1 l (ks.map kV) ∧ ks.length + 1 < 4096 ∧ Q (.int (once ks).length) H1 := by
    refine ⟨B, ρ, G, r, gd_mono (gd_bind.mp g) fun d g v G1 H1 g1 t => ?_⟩
    unfold lenSetD at g
    cases t with
    | lst s1 a1 =>
      obtain ⟨ks, hk, g⟩ := opt_in (gd_bind.mp g)
      split at g
      · rename_i hl
        refine ⟨_, ks, rfl, ?_, hl, g _ G1 H1 g1 (.int _)⟩
        rw [← keys_dt a1 hk]
        exact Rd.sq (Rd.sub g1.sub s1)
      · exact g.elim
    | non => exact g.elim
    | bl _ => exact g.elim
    | int _ => exact g.elim
    | str _ => exact g.elim
    | tup _ _ => exact g.elim
    | dct _ _ _ _ _ _ => exact g.elim
    | scr _ _ => exact g.elim
    | exc _ _ => exact g.elim
  refine PyProof.Rows.callWith_type1 (PyProof.Rows.args_cons (thn (ha.run pins s σ H _ I key) fun v s1 ⟨x, H1, I1, r1, l, ks, e1, hS, hl, q1⟩ => PyProof.Rows.args_nil ?_) na) na rfl
  subst e1
  cases r1
  obtain ⟨its, rv, pl, hz⟩ := I1.list hS
  have hlen : its.toArray.size = ks.length := by rw [List.size_toArray, ← rv.length, List.length_map]
  refine call_set_l (knd := mixKind X.prog X.w) (fun j => ks.getD j (.inl 0)) (I1.ok.hd hc) pl.isList (fun i v hv => ?_) (by rw [hlen]; exact hl) fun h' tk x k => PyProof.Rows.args_nil ?_
  · obtain ⟨kk, e2, r2⟩ := keys_at rv i v (by simpa using hv)
    show (mixKind X.prog X.w).is (ks.getD i (.inl 0)) v = true ∧ _
    rw [List.getD_eq_getElem?_getD, e2]
    exact ⟨kV_is r2, key_scan r2⟩
  · rw [hlen, onceTo_is (.inl 0) ks ks.length (Nat.le_refl _), List.take_length] at x
    obtain ⟨o, es, ep, t, ho, hex, hd, _, _, _, hf, hn⟩ := x
    have I2 : Inv X pins σ H1 { s1 with heap := h', toks := tk } := I1.kept k
    refine call_len_set ho hex hd hf (by rw [hn]; have := onceTo_le (fun j => ks.getD j (.inl 0)) ks.length; rw [onceTo_is (.inl 0) ks ks.length (Nat.le_refl _), List.take_length] at this; omega) ⟨.int (once ks).length, H1, I2.tok _, ⟨_, by rw [hn]⟩, q1⟩
end

/-! ### a text, so many times -/
def repS (x : Str) (n : Int) : Str := Txt.mul x n
def mulOkB (x : Str) (n : Int) : Bool := decide (0 ≤ n) && decide (n ≤ 1000) && decide (x.length ≤ 1000)
theorem mulOk_of {x : Str} {n : Int} (h : mulOkB x n = true) : MulOk x n := by
  unfold mulOkB at h
  rw [Bool.and_eq_true, Bool.and_eq_true] at h
  have h1 := of_decide_eq_true h.1.1
  have h2 := of_decide_eq_true h.1.2
  have h3 := of_decide_eq_true h.2
  refine ⟨by rw [decide_eq_false (by omega), decide_eq_false (by omega)]; rfl, fun n1 _ z => ?_, fun n1 _ => ?_⟩
  · have : (2 ^ 63 - 1) / n ≥ 1000 := by
      refine (Int.le_ediv_iff_mul_le (by omega)).mpr ?_
      omega
    omega
  · have : x.length * n.toNat ≤ 1000 * 1000 := Nat.mul_le_mul h3 (by omega)
    unfold Builtin.Str.tooLong
    rw [sizeLine_eq]
    exact decide_eq_false (by
                              omega)
def mulD (a b : D) : R D := match a, b with
  | .str x, .int n => if mulOkB x n then .ok (.str (repS x n)) else stk
  | _, _ => mulI a b
theorem d_mul {X : Cx} : OpR X (binaryOp .Mult) (r2 X.w X.K mulD) := by
  intro pins s σ H x y v u Q I rx ry ⟨G, da, db, e, sb, t1, t2, q⟩
  unfold mulD at q
  split at q
  · cases t1; cases t2
    split at q
    · rename_i hc
      obtain ⟨t, rfl⟩ := rx
      obtain ⟨t', rfl⟩ := ry
      refine SB.mul (mulOk_of hc) fun tk k => ⟨.str _, H, I.tok _, ⟨_, rfl⟩, q _ G H (Gr.refl sb) (.str _)⟩
    · exact q.elim
  · exact d_mulI pins s σ H x y v u Q I rx ry ⟨G, da, db, e, sb, t1, t2, q⟩
end Vs

set_option Elab.async false
set_option linter.all false
set_option maxRecDepth 100000
/-! The plain side: meanings told in plain words. -/
namespace Vs
open PySem PySem.Spec PyProof.Rows L2
def m_draws_b0 : Env' → R Out := fun ρ => ((gv ρ 3 >>= fun x => .ok (.int 0) >>= fun y => gtD x y) >>= asB) >>= fun k => if k then (seqD (fun ρ => gl ρ 1 >>= fun xs => (((gv ρ 3 >>= fun x => .ok [] >>= fun xs => .ok (x :: xs)) >>= intD) >>= fun x => .ok (.int 65536) >>= fun y => modI x y) >>= fun d => apD 1 xs d ρ) (fun ρ => (gv ρ 3 >>= fun x => .ok (.int 65536) >>= fun y => fdivI x y) >>= fun d => setD 3 d ρ)) ρ else (fun ρ => .ok (.nx ρ)) ρ
def m_draws_b1 : Env' → R Out := seqD (fun ρ => (((gv ρ 0 >>= fun x => gv ρ 2 >>= fun y => ixD x y) >>= fun x => .ok [] >>= fun xs => .ok (x :: xs)) >>= absD) >>= fun d => setD 3 d ρ) (fun ρ => ((gv ρ 3 >>= fun x => (.ok (.int 10) >>= fun x => .ok (.int 18) >>= fun y => powI x y) >>= fun y => geD x y) >>= asB) >>= fun k => if k then (fun ρ => ((.ok (.int 60) >>= fun x => .ok [] >>= fun xs => .ok (x :: xs)) >>= rg1) >>= fun ds => forD (tgN 4) m_draws_b0 ds ρ) ρ else (seqD (fun ρ => (((((gv ρ 3 >>= fun x => .ok (.int 48271) >>= fun y => mulD x y) >>= fun x => ((gv ρ 2 >>= fun x => .ok (.int 1) >>= fun y => addD x y) >>= fun x => .ok (.int 69621) >>= fun y => mulD x y) >>= fun y => addD x y) >>= fun x => .ok [] >>= fun xs => .ok (x :: xs)) >>= intD) >>= fun x => .ok (.int 2147483647) >>= fun y => modI x y) >>= fun d => setD 5 d ρ) (seqD (fun ρ => ((((((gv ρ 5 >>= fun x => .ok (.int 16807) >>= fun y => mulD x y) >>= fun x => (.ok (.int 11) >>= fun x => gv ρ 2 >>= fun y => mulD x y) >>= fun y => addD x y) >>= fun x => .ok (.int 5) >>= fun y => addD x y) >>= fun x => .ok [] >>= fun xs => .ok (x :: xs)) >>= intD) >>= fun x => .ok (.int 2147483629) >>= fun y => modI x y) >>= fun d => setD 5 d ρ) (seqD (fun ρ => gl ρ 1 >>= fun xs => (((gv ρ 5 >>= fun x => .ok [] >>= fun xs => .ok (x :: xs)) >>= intD) >>= fun x => .ok (.int 65536) >>= fun y => modI x y) >>= fun d => apD 1 xs d ρ) (fun ρ => gl ρ 1 >>= fun xs => ((((gv ρ 5 >>= fun x => .ok (.int 65536) >>= fun y => fdivI x y) >>= fun x => .ok [] >>= fun xs => .ok (x :: xs)) >>= intD) >>= fun x => .ok (.int 32768) >>= fun y => modI x y) >>= fun d => apD 1 xs d ρ)))) ρ)
def m_draws : Env' → R Out := seqD (fun ρ => (.ok [] >>= fun xs => lenOk xs.length >>= fun _ => .ok (.list xs)) >>= fun d => setD 1 d ρ) (seqD (fun ρ => ((((.ok (.int 63) >>= fun x => (((gv ρ 0 >>= fun x => .ok [] >>= fun xs => .ok (x :: xs)) >>= lenD) >>= fun x => .ok [] >>= fun xs => .ok (x :: xs)) >>= fun xs => .ok (x :: xs)) >>= min2D) >>= fun x => .ok [] >>= fun xs => .ok (x :: xs)) >>= rg1) >>= fun ds => forD (tgN 2) m_draws_b1 ds ρ) (fun ρ => gv ρ 1 >>= fun d => .ok (.rt d)))
def f_draws : List D → R D := fun ds => noX (m_draws (arg0 6 ds)) >>= ret true
def m_mix : Env' → R Out := seqD (fun ρ => .ok (.int 0) >>= fun d => setD 3 d ρ) (seqD (fun ρ => ((((gv ρ 0 >>= fun x => .ok [] >>= fun xs => .ok (x :: xs)) >>= lenD) >>= fun x => .ok (.int 0) >>= fun y => gtD x y) >>= asB) >>= fun k => if k then (fun ρ => (gv ρ 0 >>= fun x => (((gv ρ 1 >>= fun x => .ok [] >>= fun xs => .ok (x :: xs)) >>= intD) >>= fun x => ((gv ρ 0 >>= fun x => .ok [] >>= fun xs => .ok (x :: xs)) >>= lenD) >>= fun y => modI x y) >>= fun y => ixD x y) >>= fun d => setD 3 d ρ) ρ else (fun ρ => .ok (.nx ρ)) ρ) (seqD (fun ρ => ((gv ρ 1 >>= fun x => ((gv ρ 0 >>= fun x => .ok [] >>= fun xs => .ok (x :: xs)) >>= lenD) >>= fun y => ltD x y) >>= asB) >>= fun k => if k then (fun ρ => (((gv ρ 3 >>= fun x => .ok [] >>= fun xs => .ok (x :: xs)) >>= intD) >>= fun x => gv ρ 2 >>= fun y => modI x y) >>= fun d => .ok (.rt d)) ρ else (fun ρ => .ok (.nx ρ)) ρ) (fun ρ => ((((((((gv ρ 3 >>= fun x => .ok (.int 7919) >>= fun y => mulD x y) >>= fun x => (gv ρ 1 >>= fun x => .ok (.int 104729) >>= fun y => mulD x y) >>= fun y => addD x y) >>= fun x => .ok [] >>= fun xs => .ok (x :: xs)) >>= intD) >>= fun x => .ok (.int 3) >>= fun y => fdivI x y) >>= fun x => .ok [] >>= fun xs => .ok (x :: xs)) >>= intD) >>= fun x => gv ρ 2 >>= fun y => modI x y) >>= fun d => .ok (.rt d))))
def f_mix : List D → R D := fun ds => noX (m_mix (arg0 4 ds)) >>= ret false

/-! ### steps -/
theorem okb {α β : Type} (a : α) (f : α → R β) : (Except.ok a >>= f : R β) = f a := rfl
theorem noX_ok {α : Type} (a : α) : noX (.ok a : R α) = .ok a := rfl
theorem seq_eq (f g : Env' → R Out) (ρ : Env') : seqD f g ρ = (f ρ >>= fun o => match o with
    | .nx ρ' => g ρ'
    | .rt d => .ok (.rt d)) := rfl
theorem seq_nx {f g : Env' → R Out} {ρ ρ' : Env'} (h : f ρ = .ok (.nx ρ')) : seqD f g ρ = g ρ' := by
  rw [seq_eq, h]; rfl
theorem seq_rt {f g : Env' → R Out} {ρ : Env'} {d : D} (h : f ρ = .ok (.rt d)) : seqD f g ρ = .ok (.rt d) := by
  rw [seq_eq, h]; rfl
theorem gv_at {ρ : Env'} {i : Nat} {d : D} (h : ρ[i]? = some (some d)) : gv ρ i = .ok d := by
  unfold gv; rw [h]
theorem gl_at {ρ : Env'} {i : Nat} {ds : List D} (h : ρ[i]? = some (some (.list ds))) : gl ρ i = .ok ds := by
  unfold gl; rw [gv_at h]; rfl
theorem add_ii (i j : Int) : addD (.int i) (.int j) = .ok (.int (i + j)) := rfl
theorem sub_ii (i j : Int) : subI (.int i) (.int j) = .ok (.int (i - j)) := rfl
theorem mul_r {i j : Int} (h : j.natAbs < 18446744073709551616) : mulD (.int i) (.int j) = .ok (.int (i * j)) := by
  show mulI (.int i) (.int j) = _
  unfold mulI
  exact if_pos (.inr h)
theorem mul_l {i j : Int} (h : i.natAbs < 18446744073709551616) : mulD (.int i) (.int j) = .ok (.int (i * j)) := by
  show mulI (.int i) (.int j) = _
  unfold mulI
  exact if_pos (.inl h)
theorem mod_i {i j : Int} (h : 0 < j) : modI (.int i) (.int j) = .ok (.int (i % j)) := by
  show (if 0 < j then _ else _ : R D) = _
  exact if_pos h
theorem fdiv_i {i j : Int} (h : 0 < j ∧ j < 1073741824) : fdivI (.int i) (.int j) = .ok (.int (i / j)) := by
  show (if _ then _ else _ : R D) = _
  exact if_pos h
theorem lenOk_i {n : Nat} (h : n ≤ 16777216) : lenOk n = .ok () := if_pos h
theorem gl_is (ρ : Env') (i : Nat) : gl ρ i = (gv ρ i >>= itL) := rfl
theorem lenD_l (ds : List D) : lenD [.list ds] = .ok (.int ds.length) := rfl
theorem lenD_t (ds : List D) : lenD [.tuple ds] = .ok (.int ds.length) := rfl
theorem lenD_s {x : Str} (h : x.length ≤ 16777216) : lenD [.str x] = .ok (.int x.length) := by
  show (lenOk x.length >>= fun _ => _ : R D) = _
  rw [lenOk_i h]; rfl
theorem asStr_is (x : Str) : asStr (.str x) = .ok x := rfl
theorem lenD_scr (ds : List D) : lenD [.dict [(.none, .list ds), (.none, .none)]] = .ok (.int ds.length) := rfl
theorem intD_i (i : Int) : intD [.int i] = .ok (.int i) := rfl
theorem intD_b (b : Bool) : intD [.bool b] = .ok (.int (if b then 1 else 0)) := by cases b <;> rfl
theorem asB_b (b : Bool) : asB (.bool b) = .ok b := rfl
theorem lt_ii (i j : Int) : ltD (.int i) (.int j) = .ok (.bool (decide (i < j))) := rfl
theorem le_ii (i j : Int) : leD (.int i) (.int j) = .ok (.bool (decide (i ≤ j))) := rfl
theorem gt_ii (i j : Int) : gtD (.int i) (.int j) = .ok (.bool (decide (j < i))) := rfl
theorem ge_ii (i j : Int) : geD (.int i) (.int j) = .ok (.bool (decide (j ≤ i))) := rfl
theorem eq_ii (i j : Int) : eqD (.int i) (.int j) = .ok (.bool (decide (i = j))) := if_pos (c := SeqAt.shaped (.int i) = true ∧ SeqAt.shaped (.int j) = true) (e := stk) ⟨rfl, rfl⟩
theorem ne_ii (i j : Int) : neD (.int i) (.int j) = .ok (.bool (!decide (i = j))) := if_pos (c := SeqAt.shaped (.int i) = true ∧ SeqAt.shaped (.int j) = true) (e := stk) ⟨rfl, rfl⟩
theorem asI_i (i : Int) : asI (.int i) = .ok i := rfl
theorem itL_l (ds : List D) : itL (.list ds) = .ok ds := rfl
theorem itT_t (ds : List D) : itT (.tuple ds) = .ok ds := rfl
theorem fnD_is (n : Nat) (f : List D → R D) (ds : List D) : fnD n f ds = if ds.length = n then f ds else stk := rfl
theorem tgN_is (i : Nat) (d : D) (ρ : Env') : tgN i d ρ = .ok (ρ.set i (some d)) := rfl
theorem min2_ii (i j : Int) : min2D [.int i, .int j] = .ok (.int (min i j)) := by
  show (.ok (.int (if j < i then j else i)) : R D) = _
  rw [show (if j < i then j else i) = min i j by split <;> omega]
theorem max2_ii (i j : Int) : max2D [.int i, .int j] = .ok (.int (max i j)) := by
  show (.ok (.int (if j > i then j else i)) : R D) = _
  rw [show (if j > i then j else i) = max i j by split <;> omega]
theorem abs_i (i : Int) : absD [.int i] = .ok (.int i.natAbs) := by
  show (.ok (.int (if i < 0 then -i else i)) : R D) = _
  rw [show (if i < 0 then -i else i) = (i.natAbs : Int) by split <;> omega]
theorem rg1_i {n : Int} (h : n.natAbs < 4611686018427387904) : rg1 [.int n] = .ok (rgD 0 n.toNat) := if_pos h
theorem rg2_i {m n : Int} (h : m.natAbs < 4611686018427387904 ∧ n.natAbs < 4611686018427387904) : rg2 [.int m, .int n] = .ok (rgD m (n - m).toNat) := if_pos h
theorem opt_s {α : Type} (a : α) : opt (some a) = .ok a := rfl
theorem ret_rt (fr : Bool) (d : D) : ret fr (.rt d) = .ok d := rfl
theorem retf_nx (ρ : Env') : ret false (.nx ρ) = .ok .none := rfl
theorem ix_li {ds : List D} {i : Int} {d : D} (h : atI ds i = some d) : ixD (.list ds) (.int i) = .ok d := by
  show (opt (atI ds i) : R D) = _
  rw [h]; rfl
theorem ix_ti {ds : List D} {i : Int} {d : D} (h : atI ds i = some d) : ixD (.tuple ds) (.int i) = .ok d := by
  show (opt (atI ds i) : R D) = _
  rw [h]; rfl
theorem ix_sc {ds : List D} {i : Int} {d : D} (h : atI ds i = some d) : ixD (.dict [(.none, .list ds), (.none, .none)]) (.int i) = .ok d := by
  show (opt (atI ds i) : R D) = _
  rw [h]; rfl
theorem app1 (zs : List Int) (a : Int) : zs.map PyData.int ++ [PyData.int a] = (zs ++ [a]).map PyData.int := by rw [List.map_append]; rfl
theorem app2 (zs : List Int) (a b : Int) : zs.map PyData.int ++ [PyData.int a, PyData.int b] = (zs ++ [a, b]).map PyData.int := by rw [List.map_append]; rfl
/-! ### loops -/
/-- it goes on, with q -/
def gN (r : R Out) (q : Env' → Prop) : Prop := ∃ ρ, r = .ok (.nx ρ) ∧ q ρ
theorem gN_ok {ρ : Env'} {q : Env' → Prop} : gN (.ok (.nx ρ)) q ↔ q ρ := ⟨fun ⟨_, e, h⟩ => by cases e; exact h, fun h => ⟨ρ, rfl, h⟩⟩
/-- it ends so -/
def gO (r : R Out) (q : Out → Prop) : Prop := ∃ o, r = .ok o ∧ q o
theorem gO_ok {o : Out} {q : Out → Prop} : gO (.ok o) q ↔ q o := ⟨fun ⟨_, e, h⟩ => by cases e; exact h, fun h => ⟨o, rfl, h⟩⟩
theorem for_is (tg : D → Env' → R Env') (fb : Env' → R Out) (d : D) (ds : List D) (ρ : Env') : forD tg fb (d :: ds) ρ = ((tg d ρ >>= fb) >>= fun o => match o with
      | .nx ρ2 => forD tg fb ds ρ2
      | .rt r => .ok (.rt r)) := by
  show (tg d ρ >>= fun ρ1 => fb ρ1 >>= fun o => _) = _
  cases tg d ρ with
  | ok ρ1 => rfl
  | error e => rfl
theorem for_nil (tg : D → Env' → R Env') (fb : Env' → R Out) (ρ : Env') : forD tg fb [] ρ = .ok (.nx ρ) := rfl
theorem for_rel {tg : D → Env' → R Env'} {fb : Env' → R Out} (I : Nat → Env' → Prop) : ∀ (ds : List D) (k : Nat) (ρ : Env'), I k ρ → (∀ i d ρ, ds[i]? = some d → I (k + i) ρ → gN (tg d ρ >>= fb) (I (k + i + 1))) →
    gN (forD tg fb ds ρ) (I (k + ds.length))
  | [], k, ρ, h, _ => ⟨ρ, rfl, h⟩
  | d :: ds, k, ρ, h, hs => by
    obtain ⟨ρ2, e2, h2⟩ := hs 0 d ρ rfl h
    have := for_rel I ds (k + 1) ρ2 h2 fun i d ρ e q => by
      have := hs (i + 1) d ρ e (by rw [show k + (i + 1) = k + 1 + i by omega]; exact q)
      rw [show k + (i + 1) + 1 = k + 1 + i + 1 by omega] at this
      exact this
    rw [for_is, e2, okb, List.length_cons, show k + (ds.length + 1) = k + 1 + ds.length by omega]
    exact this
/-- with a way out: each turn goes on, or ends all with q -/
theorem for_out {tg : D → Env' → R Env'} {fb : Env' → R Out} (I : Nat → Env' → Prop) (q : Out → Prop) : ∀ (ds : List D) (k : Nat) (ρ : Env'), I k ρ → (∀ i d ρ, ds[i]? = some d → I (k + i) ρ → gO (tg d ρ >>= fb) (fun o => match o with | .nx ρ' => I (k + i + 1) ρ' | .rt r => q (.rt r))) → (∀ ρ, I (k + ds.length) ρ → q (.nx ρ)) →
    gO (forD tg fb ds ρ) q
  | [], k, ρ, h, _, hq => ⟨_, rfl, hq ρ h⟩
  | d :: ds, k, ρ, h, hs, hq => by
    obtain ⟨o, e2, h2⟩ := hs 0 d ρ rfl h
    rw [for_is, e2, okb]
    cases o with
    | rt r => exact ⟨_, rfl, h2⟩
    | nx ρ2 =>
      refine for_out I q ds (k + 1) ρ2 h2 (fun i d ρ e q => ?_) fun ρ h => hq ρ (by rw [List.length_cons, show k + (ds.length + 1) = k + 1 + ds.length by omega]; exact h)
      have := hs (i + 1) d ρ e (by rw [show k + (i + 1) = k + 1 + i by omega]; exact q)
      rw [show k + (i + 1) + 1 = k + 1 + i + 1 by omega] at this
      exact this
theorem rg_at {lo : Int} {n i : Nat} {d : D} (h : (rgD lo n)[i]? = some d) : i < n ∧ d = .int (lo + i) := by
  unfold rgD at h
  rw [List.getElem?_map] at h
  by_cases hi : i < n
  · rw [List.getElem?_range hi] at h
    cases h
    exact ⟨hi, rfl⟩
  · rw [List.getElem?_eq_none (by rw [List.length_range]; omega)] at h
    cases h
theorem rg_len (lo : Int) (n : Nat) : (rgD lo n).length = n := by
  unfold rgD; rw [List.length_map, List.length_range]
end Vs

set_option Elab.async false
set_option linter.all false
set_option maxRecDepth 100000
namespace Vs
open PySem PySem.Spec PyProof.Rows L2
def scr (ns : List Int) : D := .dict [(.none, .list (ns.map .int)), (.none, .none)]
theorem mix_ok {zs : List Int} {k many : Int} (hk : 0 ≤ k) (hm : 0 < many) : ∃ r : Int, 0 ≤ r ∧ r < many ∧ f_mix [.list (zs.map .int), .int k, .int many] = .ok (.int r) := by
  have hmod : ∀ v : Int, 0 ≤ v % many ∧ v % many < many := fun v => ⟨Int.emod_nonneg _ (by omega), Int.emod_lt_of_pos _ hm⟩
  have key : ∀ v : Int, (zs.length = 0 → v = 0) → (0 < zs.length → zs[(k % zs.length).toNat]? = some v) → f_mix [.list (zs.map .int), .int k, .int many] = .ok (.int (if k < zs.length then v % many else (v * 7919 + k * 104729) / 3 % many)) := by
    intro v h0 h1
    unfold f_mix m_mix
    by_cases hz : 0 < zs.length
    · have hz' : (0 : Int) < zs.length := by omega
      have hat : atI (zs.map PyData.int) (k % zs.length) = some (.int v) := by
        have h2 := h1 hz
        have h3 : k % zs.length = ((k % zs.length).toNat : Int) := (Int.toNat_of_nonneg (Int.emod_nonneg _ (by omega))).symm
        rw [h3]
        refine L2.atI_nat ?_
        rw [List.getElem?_map, h2]
        rfl
      by_cases hk2 : k < zs.length
      · simp -implicitDefEqProofs only [app1, app2, gN_ok, gO_ok, arg0, seq_eq, okb, setD, gv, gl_is, List.map_cons, List.map_nil, List.length_cons, List.length_nil, List.replicate, List.cons_append, List.nil_append, List.set_cons_succ, List.set_cons_zero, List.getElem?_cons_succ, List.getElem?_cons_zero, add_ii, sub_ii, mul_r, mul_l, mod_i, fdiv_i, lenD_l, lenD_t, lenD_scr, asStr_is, intD_i, intD_b, asB_b, lt_ii, le_ii, gt_ii, ge_ii, eq_ii, ne_ii, asI_i, itL_l, itT_t, noX_ok, fnD_is, ite_true, ite_false, Bool.false_eq_true, decide_true, decide_false, Nat.reduceAdd, Nat.reduceSub, reduceIte, tgN_is, min2_ii, max2_ii, abs_i, rg1_i, rg2_i, opt_s, ret_rt, retf_nx, and_self, true_and, and_true, or_true, true_or, not_true_eq_false, not_false_eq_true, Bool.not_true, Bool.not_false, Int.reduceLT, Int.reduceLE, Int.reduceNeg, Int.reducePow, Int.reduceAdd, Int.reduceSub, Int.reduceMul, Int.reduceMod, Int.reduceDiv, Int.reduceEq, Int.reduceNe, Nat.reduceLT, Nat.reduceLeDiff, Nat.reduceMul, Nat.reduceEqDiff, Int.reduceToNat, Int.reduceAbs, Int.natAbs_natCast, ix_li hat, List.length_map, hz', hk2, hm]
      · simp -implicitDefEqProofs only [app1, app2, gN_ok, gO_ok, arg0, seq_eq, okb, setD, gv, gl_is, List.map_cons, List.map_nil, List.length_cons, List.length_nil, List.replicate, List.cons_append, List.nil_append, List.set_cons_succ, List.set_cons_zero, List.getElem?_cons_succ, List.getElem?_cons_zero, add_ii, sub_ii, mul_r, mul_l, mod_i, fdiv_i, lenD_l, lenD_t, lenD_scr, asStr_is, intD_i, intD_b, asB_b, lt_ii, le_ii, gt_ii, ge_ii, eq_ii, ne_ii, asI_i, itL_l, itT_t, noX_ok, fnD_is, ite_true, ite_false, Bool.false_eq_true, decide_true, decide_false, Nat.reduceAdd, Nat.reduceSub, reduceIte, tgN_is, min2_ii, max2_ii, abs_i, rg1_i, rg2_i, opt_s, ret_rt, retf_nx, and_self, true_and, and_true, or_true, true_or, not_true_eq_false, not_false_eq_true, Bool.not_true, Bool.not_false, Int.reduceLT, Int.reduceLE, Int.reduceNeg, Int.reducePow, Int.reduceAdd, Int.reduceSub, Int.reduceMul, Int.reduceMod, Int.reduceDiv, Int.reduceEq, Int.reduceNe, Nat.reduceLT, Nat.reduceLeDiff, Nat.reduceMul, Nat.reduceEqDiff, Int.reduceToNat, Int.reduceAbs, Int.natAbs_natCast, ix_li hat, List.length_map, hz', hk2, hm]
    · have hz' : ¬ (0 : Int) < zs.length := by omega
      have hv := h0 (by omega)
      subst hv
      have hk2 : ¬ k < zs.length := by omega
      simp -implicitDefEqProofs only [app1, app2, gN_ok, gO_ok, arg0, seq_eq, okb, setD, gv, gl_is, List.map_cons, List.map_nil, List.length_cons, List.length_nil, List.replicate, List.cons_append, List.nil_append, List.set_cons_succ, List.set_cons_zero, List.getElem?_cons_succ, List.getElem?_cons_zero, add_ii, sub_ii, mul_r, mul_l, mod_i, fdiv_i, lenD_l, lenD_t, lenD_scr, asStr_is, intD_i, intD_b, asB_b, lt_ii, le_ii, gt_ii, ge_ii, eq_ii, ne_ii, asI_i, itL_l, itT_t, noX_ok, fnD_is, ite_true, ite_false, Bool.false_eq_true, decide_true, decide_false, Nat.reduceAdd, Nat.reduceSub, reduceIte, tgN_is, min2_ii, max2_ii, abs_i, rg1_i, rg2_i, opt_s, ret_rt, retf_nx, and_self, true_and, and_true, or_true, true_or, not_true_eq_false, not_false_eq_true, Bool.not_true, Bool.not_false, Int.reduceLT, Int.reduceLE, Int.reduceNeg, Int.reducePow, Int.reduceAdd, Int.reduceSub, Int.reduceMul, Int.reduceMod, Int.reduceDiv, Int.reduceEq, Int.reduceNe, Nat.reduceLT, Nat.reduceLeDiff, Nat.reduceMul, Nat.reduceEqDiff, Int.reduceToNat, Int.reduceAbs, Int.natAbs_natCast, List.length_map, hz', hk2, hm]
  by_cases hz : 0 < zs.length
  · have hlt : (k % zs.length).toNat < zs.length := by
      have := Int.emod_lt_of_pos k (show (0 : Int) < zs.length by omega)
      have := Int.emod_nonneg k (show (zs.length : Int) ≠ 0 by omega)
      omega
    refine ⟨_, ?_, ?_, key zs[(k % zs.length).toNat] (fun h => by omega) fun _ => List.getElem?_eq_getElem hlt⟩
    · split <;> exact (hmod _).1
    · split <;> exact (hmod _).2
  · refine ⟨_, ?_, ?_, key 0 (fun _ => rfl) fun h => absurd h hz⟩
    · split <;> exact (hmod _).1
    · split <;> exact (hmod _).2
theorem b0_ok {S : D} {zs : List Int} {r : Int} {a2 a4 a5 : Option D} (hz : zs.length ≤ 100000) :
    gN (forD (tgN 4) m_draws_b0 (rgD 0 60) [some S, some (.list (zs.map .int)), a2, some (.int r), a4, a5]) fun ρ => ∃ (zs' : List Int) (r' : Int) (a4' : Option D), zs'.length ≤ zs.length + 60 ∧ ρ = [some S, some (.list (zs'.map .int)), a2, some (.int r'), a4', a5] := by
  have := for_rel (tg := tgN 4) (fb := m_draws_b0)
    (fun i ρ => ∃ (zs' : List Int) (r' : Int) (a4' : Option D), zs'.length ≤ zs.length + i ∧ ρ = [some S, some (.list (zs'.map .int)), a2, some (.int r'), a4', a5]) (rgD 0 60) 0 _ ⟨zs, r, a4, by omega, rfl⟩ fun i d ρ hd hI => by
      obtain ⟨hi, rfl⟩ := rg_at hd
      obtain ⟨zs', r', a4', hl, rfl⟩ := hI
      by_cases hr : 0 < r'
      · have hs : (zs'.map PyData.int).length < 16777216 := by rw [List.length_map]; omega
        simp -implicitDefEqProofs only [app1, app2, gN_ok, gO_ok, arg0, seq_eq, okb, setD, gv, gl_is, List.map_cons, List.map_nil, List.length_cons, List.length_nil, List.replicate, List.cons_append, List.nil_append, List.set_cons_succ, List.set_cons_zero, List.getElem?_cons_succ, List.getElem?_cons_zero, add_ii, sub_ii, mul_r, mul_l, mod_i, fdiv_i, lenD_l, lenD_t, lenD_scr, asStr_is, intD_i, intD_b, asB_b, lt_ii, le_ii, gt_ii, ge_ii, eq_ii, ne_ii, asI_i, itL_l, itT_t, noX_ok, fnD_is, ite_true, ite_false, Bool.false_eq_true, decide_true, decide_false, Nat.reduceAdd, Nat.reduceSub, reduceIte, tgN_is, min2_ii, max2_ii, abs_i, rg1_i, rg2_i, opt_s, ret_rt, retf_nx, and_self, true_and, and_true, or_true, true_or, not_true_eq_false, not_false_eq_true, Bool.not_true, Bool.not_false, Int.reduceLT, Int.reduceLE, Int.reduceNeg, Int.reducePow, Int.reduceAdd, Int.reduceSub, Int.reduceMul, Int.reduceMod, Int.reduceDiv, Int.reduceEq, Int.reduceNe, Nat.reduceLT, Nat.reduceLeDiff, Nat.reduceMul, Nat.reduceEqDiff, Int.reduceToNat, Int.reduceAbs, Int.natAbs_natCast, m_draws_b0, hr, apD, hs]
        exact ⟨_, _, _, by rw [List.length_append]; simp only [List.length_singleton]; omega, rfl⟩
      · simp -implicitDefEqProofs only [app1, app2, gN_ok, gO_ok, arg0, seq_eq, okb, setD, gv, gl_is, List.map_cons, List.map_nil, List.length_cons, List.length_nil, List.replicate, List.cons_append, List.nil_append, List.set_cons_succ, List.set_cons_zero, List.getElem?_cons_succ, List.getElem?_cons_zero, add_ii, sub_ii, mul_r, mul_l, mod_i, fdiv_i, lenD_l, lenD_t, lenD_scr, asStr_is, intD_i, intD_b, asB_b, lt_ii, le_ii, gt_ii, ge_ii, eq_ii, ne_ii, asI_i, itL_l, itT_t, noX_ok, fnD_is, ite_true, ite_false, Bool.false_eq_true, decide_true, decide_false, Nat.reduceAdd, Nat.reduceSub, reduceIte, tgN_is, min2_ii, max2_ii, abs_i, rg1_i, rg2_i, opt_s, ret_rt, retf_nx, and_self, true_and, and_true, or_true, true_or, not_true_eq_false, not_false_eq_true, Bool.not_true, Bool.not_false, Int.reduceLT, Int.reduceLE, Int.reduceNeg, Int.reducePow, Int.reduceAdd, Int.reduceSub, Int.reduceMul, Int.reduceMod, Int.reduceDiv, Int.reduceEq, Int.reduceNe, Nat.reduceLT, Nat.reduceLeDiff, Nat.reduceMul, Nat.reduceEqDiff, Int.reduceToNat, Int.reduceAbs, Int.natAbs_natCast, m_draws_b0, hr]
        exact ⟨zs', r', _, by omega, rfl⟩
  rw [rg_len] at this
  exact this
theorem pow_ii {i j : Int} (h : 0 ≤ j ∧ j ≤ 1000000 ∧ i.natAbs < 18446744073709551616) : powI (.int i) (.int j) = .ok (.int (i ^ j.toNat)) := by
  show (if _ then _ else _ : R D) = _
  exact if_pos h
theorem h1 : (0 : Int) ≤ 18 ∧ (18 : Int) ≤ 1000000 ∧ (10 : Int).natAbs < 18446744073709551616 := ⟨by decide, by decide, by decide⟩
theorem b1_a {T : Int} (hT : powI (.int 10) (.int 18) = .ok (.int T)) {ns zs : List Int} {i : Nat} {a2 a3 a4 a5 : Option D} (hl : zs.length ≤ 60 * (0 + i)) (hi2 : i < ns.length) (hi3 : i < 63) (hb : T ≤ (ns[i].natAbs : Int)) : gN (m_draws_b1 [some (scr ns), some (.list (zs.map .int)), some (.int (0 + i)), a3, a4, a5]) fun ρ => ∃ (zs : List Int) (a2 a3 a4 a5 : Option D), zs.length ≤ 60 * (0 + i + 1) ∧ ρ = [some (scr ns), some (.list (zs.map .int)), a2, a3, a4, a5] := by
  have hat : atI (ns.map PyData.int) (0 + (i : Int)) = some (.int ns[i]) := by
    rw [Int.zero_add]
    refine L2.atI_nat ?_
    rw [List.getElem?_map, List.getElem?_eq_getElem hi2]
    rfl
  obtain ⟨ρ', e3, zs', r', a4', e4, rfl⟩ := b0_ok (S := scr ns) (zs := zs) (r := (ns[i].natAbs : Int)) (a2 := some (.int (0 + i))) (a4 := a4) (a5 := a5) (by clear hb; omega)
  unfold scr at e3 ⊢
  simp -implicitDefEqProofs only [app1, app2, gN_ok, gO_ok, arg0, seq_eq, okb, setD, gv, gl_is, List.map_cons, List.map_nil, List.length_cons, List.length_nil, List.replicate, List.cons_append, List.nil_append, List.set_cons_succ, List.set_cons_zero, List.getElem?_cons_succ, List.getElem?_cons_zero, add_ii, sub_ii, mul_r, mul_l, mod_i, fdiv_i, lenD_l, lenD_t, lenD_scr, asStr_is, intD_i, intD_b, asB_b, lt_ii, le_ii, gt_ii, ge_ii, eq_ii, ne_ii, asI_i, itL_l, itT_t, noX_ok, fnD_is, ite_true, ite_false, Bool.false_eq_true, decide_true, decide_false, Nat.reduceAdd, Nat.reduceSub, reduceIte, tgN_is, min2_ii, max2_ii, abs_i, rg1_i, rg2_i, opt_s, ret_rt, retf_nx, and_self, true_and, and_true, or_true, true_or, not_true_eq_false, not_false_eq_true, Bool.not_true, Bool.not_false, Int.reduceLT, Int.reduceLE, Int.reduceNeg, Int.reducePow, Int.reduceAdd, Int.reduceSub, Int.reduceMul, Int.reduceMod, Int.reduceDiv, Int.reduceEq, Int.reduceNe, Nat.reduceLT, Nat.reduceLeDiff, Nat.reduceMul, Nat.reduceEqDiff, Int.reduceToNat, Int.reduceAbs, Int.natAbs_natCast, m_draws_b1, ix_sc hat, hT, hb, e3]
  exact ⟨zs', _, _, _, _, by clear hb; omega, rfl⟩
theorem b1_b {T : Int} (hT : powI (.int 10) (.int 18) = .ok (.int T)) {ns zs : List Int} {i : Nat} {a2 a3 a4 a5 : Option D} (hl : zs.length ≤ 60 * (0 + i)) (hi2 : i < ns.length) (hi3 : i < 63) (hb : ¬ T ≤ (ns[i].natAbs : Int)) : gN (m_draws_b1 [some (scr ns), some (.list (zs.map .int)), some (.int (0 + i)), a3, a4, a5]) fun ρ => ∃ (zs : List Int) (a2 a3 a4 a5 : Option D), zs.length ≤ 60 * (0 + i + 1) ∧ ρ = [some (scr ns), some (.list (zs.map .int)), a2, a3, a4, a5] := by
  have hat : atI (ns.map PyData.int) (0 + (i : Int)) = some (.int ns[i]) := by
    rw [Int.zero_add]
    refine L2.atI_nat ?_
    rw [List.getElem?_map, List.getElem?_eq_getElem hi2]
    rfl
  have hs1 : zs.length < 16777216 := by clear hb; omega
  have hs2 : zs.length + 1 < 16777216 := by clear hb; omega
  unfold scr
  simp -implicitDefEqProofs only [app1, app2, gN_ok, gO_ok, arg0, seq_eq, okb, setD, gv, gl_is, List.map_cons, List.map_nil, List.length_cons, List.length_nil, List.replicate, List.cons_append, List.nil_append, List.set_cons_succ, List.set_cons_zero, List.getElem?_cons_succ, List.getElem?_cons_zero, add_ii, sub_ii, mul_r, mul_l, mod_i, fdiv_i, lenD_l, lenD_t, lenD_scr, asStr_is, intD_i, intD_b, asB_b, lt_ii, le_ii, gt_ii, ge_ii, eq_ii, ne_ii, asI_i, itL_l, itT_t, noX_ok, fnD_is, ite_true, ite_false, Bool.false_eq_true, decide_true, decide_false, Nat.reduceAdd, Nat.reduceSub, reduceIte, tgN_is, min2_ii, max2_ii, abs_i, rg1_i, rg2_i, opt_s, ret_rt, retf_nx, and_self, true_and, and_true, or_true, true_or, not_true_eq_false, not_false_eq_true, Bool.not_true, Bool.not_false, Int.reduceLT, Int.reduceLE, Int.reduceNeg, Int.reducePow, Int.reduceAdd, Int.reduceSub, Int.reduceMul, Int.reduceMod, Int.reduceDiv, Int.reduceEq, Int.reduceNe, Nat.reduceLT, Nat.reduceLeDiff, Nat.reduceMul, Nat.reduceEqDiff, Int.reduceToNat, Int.reduceAbs, Int.natAbs_natCast, m_draws_b1, ix_sc hat, hT, hb, apD, hs1, hs2, List.length_map, List.length_append, List.append_assoc]
  exact ⟨_, _, _, _, _, by rw [List.length_append]; simp only [List.length_cons, List.length_nil]; clear hb; omega, rfl⟩
theorem draws_ok (ns : List Int) : ∃ zs : List Int, f_draws [scr ns] = .ok (.list (zs.map .int)) := by
  obtain ⟨T, hT⟩ : ∃ T, powI (.int 10) (.int 18) = .ok (.int T) := ⟨_, pow_ii ⟨by decide, by decide, by decide⟩⟩
  obtain ⟨ρ, e1, zs, a2, a3, a4, a5, e2, rfl⟩ := for_rel (tg := tgN 2) (fb := m_draws_b1)
    (fun i ρ => ∃ (zs : List Int) (a2 a3 a4 a5 : Option D), zs.length ≤ 60 * i ∧ ρ = [some (scr ns), some (.list (zs.map .int)), a2, a3, a4, a5]) (rgD 0 (min 63 ns.length)) 0 [some (scr ns), some (.list []), none, none, none, none] ⟨[], none, none, none, none, by decide, rfl⟩ fun i d ρ hd hI => by
      obtain ⟨hi, rfl⟩ := rg_at hd
      obtain ⟨zs, a2, a3, a4, a5, hl, rfl⟩ := hI
      have hi2 : i < ns.length := by omega
      rw [tgN_is, okb]
      by_cases hb : T ≤ (ns[i].natAbs : Int)
      · exact b1_a hT (a2 := a2) hl hi2 (by omega) hb
      · exact b1_b hT (a2 := a2) hl hi2 (by omega) hb
  have hm : (min 63 (ns.length : Int)).toNat = min 63 ns.length := by omega
  have hr : (min 63 (ns.length : Int)).natAbs < 4611686018427387904 := by omega
  have h0 : lenOk 0 = .ok () := lenOk_i (by decide)
  unfold f_draws m_draws
  unfold scr at e1 ⊢
  refine ⟨zs, ?_⟩
  simp -implicitDefEqProofs only [app1, app2, gN_ok, gO_ok, arg0, seq_eq, okb, setD, gv, gl_is, List.map_cons, List.map_nil, List.length_cons, List.length_nil, List.replicate, List.cons_append, List.nil_append, List.set_cons_succ, List.set_cons_zero, List.getElem?_cons_succ, List.getElem?_cons_zero, add_ii, sub_ii, mul_r, mul_l, mod_i, fdiv_i, lenD_l, lenD_t, lenD_scr, asStr_is, intD_i, intD_b, asB_b, lt_ii, le_ii, gt_ii, ge_ii, eq_ii, ne_ii, asI_i, itL_l, itT_t, noX_ok, fnD_is, ite_true, ite_false, Bool.false_eq_true, decide_true, decide_false, Nat.reduceAdd, Nat.reduceSub, reduceIte, tgN_is, min2_ii, max2_ii, abs_i, rg1_i, rg2_i, opt_s, ret_rt, retf_nx, and_self, true_and, and_true, or_true, true_or, not_true_eq_false, not_false_eq_true, Bool.not_true, Bool.not_false, Int.reduceLT, Int.reduceLE, Int.reduceNeg, Int.reducePow, Int.reduceAdd, Int.reduceSub, Int.reduceMul, Int.reduceMod, Int.reduceDiv, Int.reduceEq, Int.reduceNe, Nat.reduceLT, Nat.reduceLeDiff, Nat.reduceMul, Nat.reduceEqDiff, Int.reduceToNat, Int.reduceAbs, Int.natAbs_natCast, h0, List.length_map, rg1_i hr, hm, e1]
end Vs

set_option Elab.async false
set_option linter.all false
set_option maxRecDepth 100000
/-! The plain side: texts as lists of signs, comprehensions, tests. -/
namespace Vs
open PySem PySem.Spec PyProof.Rows L2

/-! ### texts -/
theorem tx_cps (l : List Nat) : (tx l).cps.toList = l := rfl
theorem tx_len (l : List Nat) : (tx l).length = l.length := by
  show l.toArray.size = _
  exact List.size_toArray
theorem tx_inj {l m : List Nat} : tx l = tx m ↔ l = m := ⟨fun h => by have := congrArg (fun x : Str => x.cps.toList) h; exact this, fun h => h ▸ rfl⟩
theorem tx_app (l m : List Nat) : tx l ++ tx m = tx (l ++ m) := by
  show (⟨l.toArray ++ m.toArray⟩ : Str) = ⟨(l ++ m).toArray⟩
  rw [List.append_toArray]
theorem tx_one (c : Nat) : (⟨#[c]⟩ : Str) = tx [c] := rfl
theorem tx_nil : Str.empty = tx [] := rfl
theorem count_tx (l : List Nat) (c : Nat) : Txt.count (tx l) (tx [c]) = (l.count c : Int) := by
  rw [← tx_one, PyProof.Rows.count_is, tx_cps]
  show PyProof.Rows.cnt c l = _
  induction l with
  | nil => rfl
  | cons n r ih =>
    rw [PyProof.Rows.cnt_cons, ih, List.count_cons]
    by_cases e : n = c
    · subst e; simp; omega
    · rw [if_neg e, if_neg (by simpa using e)]; simp
theorem join_tx : ∀ ls : List (List Nat), Str.join (tx []) (ls.map tx) = tx ls.flatten
  | [] => rfl
  | [l] => by simp [Str.join]
  | l :: m :: r => by
    have ih := join_tx (m :: r)
    show tx l ++ tx [] ++ Str.join (tx []) ((m :: r).map tx) = _
    rw [ih, tx_app, tx_app, List.append_nil]
    rfl
theorem add_ss {x y : Str} (h : x.length + y.length ≤ 16777216) : addD (.str x) (.str y) = .ok (.str (x ++ y)) := if_pos h
theorem add_tx {l m : List Nat} (h : l.length + m.length ≤ 16777216) : addD (.str (tx l)) (.str (tx m)) = .ok (.str (tx (l ++ m))) := by
  rw [add_ss (by rw [tx_len, tx_len]; exact h), tx_app]
theorem len_tx {l : List Nat} (h : l.length ≤ 16777216) : lenD [.str (tx l)] = .ok (.int l.length) := by
  rw [lenD_s (by rw [tx_len]; exact h), tx_len]
theorem ix_tx {l : List Nat} {i : Int} {c : Nat} (h : l.length ≤ 16777216) (hc : atI l i = some c) : ixD (.str (tx l)) (.int i) = .ok (.str (tx [c])) := by
  show (lenOk (tx l).length >>= fun _ => opt (atI l i) >>= fun c => .ok (.str ⟨#[c]⟩) : R D) = _
  rw [lenOk_i (by rw [tx_len]; exact h), okb, hc]
  rfl
theorem dec_tx (l m : List Nat) : decide (tx l = tx m) = decide (l = m) := decide_eq_decide.mpr tx_inj
theorem eq_tx (l m : List Nat) : eqD (.str (tx l)) (.str (tx m)) = .ok (.bool (decide (l = m))) := by
  show (.ok (.bool (decide (tx l = tx m))) : R D) = _
  rw [dec_tx]
theorem ne_tx (l m : List Nat) : neD (.str (tx l)) (.str (tx m)) = .ok (.bool (!decide (l = m))) := by
  show (.ok (.bool (!decide (tx l = tx m))) : R D) = _
  rw [dec_tx]
theorem it_tx (l : List Nat) : itS (.str (tx l)) = .ok (l.map fun c => .str (tx [c])) := rfl
theorem in_tx (c : Nat) (l : List Nat) : inD (.str (tx [c])) (.str (tx l)) = .ok (.bool (decide (c ∈ l))) := rfl
theorem cnt_tx (l : List Nat) (c : Nat) : countD (.str (tx l)) (.str (tx [c])) = .ok (.int (l.count c)) := by
  show (.ok (.int (Txt.count (tx l) (tx [c]))) : R D) = _
  rw [count_tx]

/-! ### comprehensions -/
theorem lc_is (tg : D → Env' → R Env') (ft : Env' → R Bool) (fe : Env' → R D) (ρ : Env') (d : D) (ds : List D) : lcD tg ft fe ρ (d :: ds) = (tg d ρ >>= fun ρ1 => ft ρ1 >>= fun b => if b then fe ρ1 >>= fun y => lcD tg ft fe ρ ds >>= fun ys => .ok (y :: ys) else lcD tg ft fe ρ ds) := rfl
theorem lc_map {tg : D → Env' → R Env'} {fe : Env' → R D} {ρ : Env'} (g : D → D) : ∀ ds : List D, (∀ d ∈ ds, (tg d ρ >>= fe) = .ok (g d)) → lcD tg (fun _ => .ok true) fe ρ ds = .ok (ds.map g)
  | [], _ => rfl
  | d :: ds, h => by
    have h1 := h d List.mem_cons_self
    rw [lc_is]
    cases e : tg d ρ with
    | error z => rw [e] at h1; cases h1
    | ok ρ1 =>
      rw [e, okb] at h1
      rw [okb, okb, if_pos rfl, h1, okb, lc_map g ds fun d hd => h d (List.mem_cons_of_mem _ hd), okb]
      rfl
/-- with a test -/
theorem lc_filter {tg : D → Env' → R Env'} {ft : Env' → R Bool} {fe : Env' → R D} {ρ : Env'} (p : D → Bool) (g : D → D) : ∀ ds : List D, (∀ d ∈ ds, (tg d ρ >>= ft) = .ok (p d) ∧ (p d = true → (tg d ρ >>= fe) = .ok (g d))) → lcD tg ft fe ρ ds = .ok ((ds.filter p).map g)
  | [], _ => rfl
  | d :: ds, h => by
    have h1 := h d List.mem_cons_self
    rw [lc_is]
    cases e : tg d ρ with
    | error z => rw [e] at h1; cases h1.1
    | ok ρ1 =>
      rw [e, okb, okb] at h1
      rw [okb, h1.1, okb]
      have ih := lc_filter p g ds fun d hd => h d (List.mem_cons_of_mem _ hd)
      cases hp : p d with
      | true =>
        rw [if_pos rfl, h1.2 hp, okb, ih, okb, List.filter_cons_of_pos hp]
        rfl
      | false =>
        rw [if_neg Bool.false_ne_true, ih, List.filter_cons_of_neg (by rw [hp]; exact Bool.false_ne_true)]
theorem comp_is (vs : List Nat) (fi : Env' → R (List D)) (tg : D → Env' → R Env') (ft : Env' → R Bool) (fe : Env' → R D) (ρ : Env') : compD vs fi tg ft fe ρ = (fi ρ >>= fun ds => lenOk ds.length >>= fun _ => noX (lcD tg ft fe (wipeD ρ vs) ds) >>= fun ys => .ok (.list ys)) := rfl
theorem all_bl (bs : List Bool) : allD [.list (bs.map .bool)] = .ok (.bool (bs.all id)) := by
  show (opt (bls? (bs.map .bool)) >>= fun bs => .ok (.bool (bs.all id)) : R D) = _
  rw [bls_map]; rfl
theorem any_bl (bs : List Bool) : anyD [.list (bs.map .bool)] = .ok (.bool (bs.any id)) := by
  show (opt (bls? (bs.map .bool)) >>= fun bs => .ok (.bool (bs.any id)) : R D) = _
  rw [bls_map]; rfl
theorem sum_in (ns : List Int) : sumD [.list (ns.map .int)] = .ok (.int ns.sum) := by
  show (opt (ints? (ns.map .int)) >>= fun ns => .ok (.int ns.sum) : R D) = _
  rw [ints_map]; rfl
/-! ### loops that look -/
theorem wh_is (fw : Env' → R Bool) (fb : Env' → R Out) (n : Nat) (ρ : Env') : whileD fw fb (n + 1) ρ = (fw ρ >>= fun c => if c then fb ρ >>= fun o => match o with
      | .nx ρ2 => whileD fw fb n ρ2
      | .rt r => .ok (.rt r)
    else .ok (.nx ρ)) := rfl
theorem wh_rel {fw : Env' → R Bool} {fb : Env' → R Out} (I : Nat → Env' → Prop) (m : Nat) (hs : ∀ j ρ, j < m → I j ρ → fw ρ = .ok true ∧ gN (fb ρ) (I (j + 1))) (he : ∀ ρ, I m ρ → fw ρ = .ok false) : ∀ (k j : Nat) (ρ : Env'), j + k = m → I j ρ → ∀ n, k < n → gN (whileD fw fb n ρ) (I m)
  | 0, j, ρ, e, h, n + 1, _ => by
    obtain rfl : j = m := by omega
    rw [wh_is, he ρ h, okb, if_neg Bool.false_ne_true]
    exact gN_ok.mpr h
  | k + 1, j, ρ, e, h, n + 1, hn => by
    obtain ⟨h1, ρ2, h2, h3⟩ := hs j ρ (by omega) h
    rw [wh_is, h1, okb, if_pos rfl, h2, okb]
    exact wh_rel I m hs he k (j + 1) ρ2 (by omega) h3 n (by omega)
  | 0, _, _, _, _, 0, hn => absurd hn (by omega)
  | k + 1, _, _, _, _, 0, hn => absurd hn (by omega)
end Vs

set_option Elab.async false
set_option linter.all false
set_option maxRecDepth 100000
/-! extend, [::-1]. -/
namespace Vs
open PySem PySem.Spec PyProof.Rows L2
section
variable {X : Cx}
def rExtR : V → List V → Hp → VK → Prop := fun x vs H Q => ∃ l b xs zs, x = .ref l ∧ vs = [.ref b] ∧ H l = some (.lst xs) ∧ Rd H b (.lst zs) ∧ xs.length + zs.length ≤ sizeLine ∧ Q .non (upd H l (.lst (xs ++ zs)))
theorem mt_extR : MtM X "list.extend" rExtR := by
  intro pins s σ H x vs v us Q I rx rv h
  obtain ⟨l, b, xs, zs, rfl, rfl, hl, hb, hz, q⟩ := h
  cases rx
  obtain ⟨u, rfl, ru⟩ := rv.one
  cases ru
  obtain ⟨_, as, m, r1, l1, at1⟩ := I.lstM hl
  obtain ⟨_, bs, k, r2, at2⟩ := lst_at I hb
  have n2 := r2.length
  have both : as.toArray.size + bs.toArray.size ≤ sizeLine := by rw [List.size_toArray, List.size_toArray]; omega
  have no : ¬ (!as.toArray.isEmpty && Builtin.List.listTooLong (as.toArray.size + bs.toArray.size)) = true := by
    rw [notLongL both, Bool.and_false]; exact Bool.false_ne_true
  refine call_meets PySem.F.slot_list_extend ⟨_, at1, rfl⟩ PySem.F.entry_list_extend (PySem.F.args_list_extend_2 _ _)
    (AutoSeq1.list_extend_list_list_0 l as.toArray m b bs.toArray k no (by rw [List.size_toArray]; omega) (by omega)) ⟨at1, at2, ?_⟩
  exact ⟨.non, _, I.lset (its' := as ++ bs) hl at1 (by simp) (r1.append r2) (by rw [List.length_append]; omega), rfl, q⟩
variable {a : Expr} {pos p apos cpos : Pos} {e : Bas → Nat → D → Prop} {O : List Nat} {fr : Bool} {fa : Env' → R D}
theorem s_ext (i : Nat) {x : Str} (h : PE X a (tV X.w X.K e O fa)) (hi : i ∈ O := by decide) (hN : X.N[i]? = some x := by rfl) (hv : Vis X.env.scope x := by first | exact Or.inl rfl | exact Or.inr (Or.inl rfl) | exact Or.inr (Or.inr rfl)) (hd : (x == ("__debug__" : Str)) = false := by decide) (hc : (x == ("__classdict__" : Str)) = false := by decide)
    (hbase : attributeBase (.Name x p) "extend" X.env (eval (.Name x p) X.env) = eval (.Name x p) X.env := by rfl)
    (hfew : ((backTo cpos (starEach [a] X.env)).all (fun x => !x.1) && (backToKw cpos (keywordEach [] X.env)).all (fun x => x.1.isSome) && decide ([a].length + ([] : List Keyword).length + (if ([] : List Keyword).isEmpty then 0 else 1) < 30)) = true := by rfl)
    (hline : (apos.endLine == cpos.line) = true := by rfl) (hst : starEach [a] X.env = (false, eval a X.env) :: starEach [] X.env := by rfl) (hpl : (backTo cpos (starEach [] X.env)).any (·.1) = false := by rfl)
    (hs : swapsWith (.Call (.Attribute (.Name x p) "extend" apos) [a] [] cpos) none pos.line X.env = pure false := by rfl) :
    PS X (.Expr (.Call (.Attribute (.Name x p) "extend" apos) [a] [] cpos) pos) (sV X.w X.K e O O fr fun ρ => gl ρ i >>= fun xs => fa ρ >>= fun d => exD i xs d ρ) := by
  refine ps_imp (ps_expr (pe_bm PySem.F.plainAttrs_list PySem.F.slot_list_extend PySem.F.type_list_extend mt_extR (pv i hN hv hd hc) (pa_cons h pa_nil hst) hbase hfew hline hst hpl) hs) fun Dn σ H ⟨B, ρ, G, r, q⟩ => ?_
  obtain ⟨xs, e0, q⟩ := gl_in (gd_bind.mp q)
  obtain ⟨A, s0, o, n1, n2⟩ := r.own i _ e0 hi
  rcases o with ⟨vs, ds, ed, hA, tA⟩ | ⟨_, _, _, _, ed, _⟩
  · cases ed
    refine ⟨.ref A, s0, .inl ⟨rfl, vs, SqL.of hA⟩, B, ρ, G, r, gd_mono (gd_bind.mp q) fun d q v G1 H1 g1 t => ?_⟩
    unfold exD at q
    split at q
    · cases t with
      | lst s1 a1 =>
        split at q
        · rename_i hl
          have hA1 := g1.keep A _ hA
          exact ⟨A, _, vs, _, rfl, rfl, hA1, Rd.sub g1.sub s1, by rw [tA.length, a1.length, sizeLine_eq]; exact hl, q _ G1 _ (g1.up r.sub) ((r.grow g1).wr hi e0 s0 (.inl ⟨_, _, rfl, upd_same, (tA.sub (g1.up r.sub)).append a1⟩))⟩
        · exact q.elim
    · exact q.elim
  · cases ed
/-! ### [::-1] -/
def revD : D → R D
  | .list ds => .ok (.list ds.reverse)
  | _ => stk
theorem rev_dt {w : World} {K : PySem.W.Frag} {G : Hp} : ∀ {vs : List V} {ds : List D}, DtAll w K G vs ds → DtAll w K G vs.reverse ds.reverse
  | _, _, .nil => .nil
  | _, _, .cons t ts => by
    rw [List.reverse_cons, List.reverse_cons]
    exact (rev_dt ts).append (.one t)
theorem v_rev {k : Nat} {p1 p2 p3 : Pos} (h : PE X a (tV X.w X.K e O fa)) : PE X (.Subscript a (.Slice none none (some (.UnaryOp .USub (.Constant (.int 1) k p1) p2)) p3) pos) (tV X.w X.K e O fun ρ => fa ρ >>= fun x => revD x) :=
  pe_imp (pe_revL h) fun σ H Q ⟨B, ρ, G, r, q⟩ => ⟨B, ρ, G, r, gd_mono (gd_bind.mp q) fun d q v G1 H1 g1 t => by
    unfold revD at q
    split at q
    · cases t with
      | lst s1 a1 => exact ⟨_, _, rfl, Rd.sq (Rd.sub g1.sub s1), fun p np => q _ _ _ (g1.trans (Gr.new g1.sub np)) (.lst (.inl upd_same) ((rev_dt a1).sub ((Gr.new g1.sub np).up g1.sub)))⟩
    · exact q.elim⟩
end
end Vs

set_option Elab.async false
set_option linter.all false
set_option maxRecDepth 100000
/-! dicts keyed by tuples, nested. -/
namespace Vs
open PySem PySem.Spec PyProof.Rows L2

/-! ### keys -/
mutual
def nk : D → Option NestedKey
  | .int i => some (.num i)
  | .str x => some (.text x)
  | .tuple ds => (nkAll ds).map .tup
  | _ => none
def nkAll : List D → Option (List NestedKey)
  | [] => some []
  | d :: ds => match nk d, nkAll ds with
    | some k, some ks => some (k :: ks)
    | _, _ => none
end
/-- a tuple that may be a key -/
def tk : D → Option NestedKey
  | .tuple ds => match nkAll ds with
    | some ks => if NestedKey.depthAll ks ≤ 7 then some (.tup ks) else none
    | none => none
  | _ => none
mutual
theorem nk_hash (w : World) : ∀ (d : D) (k : NestedKey), nk d = some k → hashD w d = k.hash w
  | .int i, k, h => by unfold nk at h; cases h; rfl
  | .str x, k, h => by unfold nk at h; cases h; rfl
  | .tuple ds, k, h => by
    unfold nk at h
    obtain ⟨ks, h1, rfl⟩ := Option.map_eq_some_iff.mp h
    show reduceHash (Builtin.Tuple.tupleHashOf (hashAll w ds)) = reduceHash (Builtin.Tuple.tupleHashOf (NestedKey.hashes w ks))
    rw [nk_hashes w ds ks h1]
  | .none, _, h => by unfold nk at h; cases h
  | .bool _, _, h => by unfold nk at h; cases h
  | .list _, _, h => by unfold nk at h; cases h
  | .dict _, _, h => by unfold nk at h; cases h
theorem nk_hashes (w : World) : ∀ (ds : List D) (ks : List NestedKey), nkAll ds = some ks → hashAll w ds = NestedKey.hashes w ks
  | [], ks, h => by unfold nkAll at h; cases h; rfl
  | d :: ds, ks, h => by
    unfold nkAll at h
    split at h
    · rename_i k ks' e1 e2
      cases h
      show hashD w d :: hashAll w ds = NestedKey.hash w k :: NestedKey.hashes w ks'
      rw [nk_hash w d k e1, nk_hashes w ds ks' e2]
    · cases h
end
mutual
theorem nk_inj : ∀ (d d' : D) (k : NestedKey), nk d = some k → nk d' = some k → d = d'
  | .int i, d', k, h, h' => by
    unfold nk at h; cases h
    cases d' with
    | int j => unfold nk at h'; cases h'; rfl
    | tuple ds => unfold nk at h'; obtain ⟨_, _, e⟩ := Option.map_eq_some_iff.mp h'; cases e
    | _ => unfold nk at h'; cases h'
  | .str x, d', k, h, h' => by
    unfold nk at h; cases h
    cases d' with
    | str j => unfold nk at h'; cases h'; rfl
    | tuple ds => unfold nk at h'; obtain ⟨_, _, e⟩ := Option.map_eq_some_iff.mp h'; cases e
    | _ => unfold nk at h'; cases h'
  | .tuple ds, d', k, h, h' => by
    unfold nk at h
    obtain ⟨ks, h1, rfl⟩ := Option.map_eq_some_iff.mp h
    cases d' with
    | tuple ds' =>
      unfold nk at h'
      obtain ⟨ks', h2, e⟩ := Option.map_eq_some_iff.mp h'
      cases e
      rw [nkAll_inj ds ds' ks h1 h2]
    | _ => unfold nk at h'; cases h'
  | .none, _, _, h, _ => by unfold nk at h; cases h
  | .bool _, _, _, h, _ => by unfold nk at h; cases h
  | .list _, _, _, h, _ => by unfold nk at h; cases h
  | .dict _, _, _, h, _ => by unfold nk at h; cases h
theorem nkAll_inj : ∀ (ds ds' : List D) (ks : List NestedKey), nkAll ds = some ks → nkAll ds' = some ks → ds = ds'
  | [], [], _, _, _ => rfl
  | [], d :: ds, ks, h, h' => by
    unfold nkAll at h h'; cases h
    split at h' <;> cases h'
  | d :: ds, [], ks, h, h' => by
    unfold nkAll at h h'; cases h'
    split at h <;> cases h
  | d :: ds, d' :: ds', ks, h, h' => by
    unfold nkAll at h h'
    split at h
    · rename_i k1 ks1 e1 e2
      cases h
      split at h'
      · rename_i k2 ks2 e3 e4
        cases h'
        rw [nk_inj d d' _ e1 e3, nkAll_inj ds ds' _ e2 e4]
      · cases h'
    · cases h
end
section
variable {X : Cx} {pins : List (Addr × Obj)} {σ : L2.St} {G H : Hp} {s : Shared}
mutual
theorem nk_is (I : Inv X pins σ H s) (sb : Sub G H) : ∀ (d : D) (k : NestedKey) (v : V) (u : Value), nk d = some k → Dt X.w X.K G v d → RelV v u → NestedIs s.heap k u
  | .int i, k, v, u, h, t, r => by
    unfold nk at h; cases h; cases t
    obtain ⟨tk, rfl⟩ := r
    exact .int i tk
  | .str x, k, v, u, h, t, r => by
    unfold nk at h; cases h; cases t
    obtain ⟨tk, rfl⟩ := r
    exact .text x tk
  | .tuple ds, k, v, u, h, t, r => by
    unfold nk at h
    obtain ⟨ks, h1, rfl⟩ := Option.map_eq_some_iff.mp h
    cases t with
    | tup s1 a1 =>
      cases r
      obtain ⟨its, rv, ⟨o, ho, hc, n, hd⟩, hz⟩ := I.tuple (SqT.sub sb s1)
      exact .tup ho hc hd (nkAll_is I sb ds ks _ its h1 a1 rv)
  | .none, _, _, _, h, _, _ => by unfold nk at h; cases h
  | .bool _, _, _, _, h, _, _ => by unfold nk at h; cases h
  | .list _, _, _, _, h, _, _ => by unfold nk at h; cases h
  | .dict _, _, _, _, h, _, _ => by unfold nk at h; cases h
theorem nkAll_is (I : Inv X pins σ H s) (sb : Sub G H) : ∀ (ds : List D) (ks : List NestedKey) (vs : List V) (us : List Value), nkAll ds = some ks → DtAll X.w X.K G vs ds → Vals vs us → NestedAll s.heap ks us
  | [], ks, vs, us, h, t, r => by
    unfold nkAll at h; cases h; cases t; cases r; exact .nil
  | d :: ds, ks, vs, us, h, t, r => by
    unfold nkAll at h
    split at h
    · rename_i k ks' e1 e2
      cases h
      cases t with
      | cons t1 t2 =>
        cases r with
        | cons r1 r2 => exact .cons (nk_is I sb d k _ _ e1 t1 r1) (nkAll_is I sb ds ks' _ _ e2 t2 r2)
    · cases h
end
end

/-! ### the dict as the library's -/
def allTk (kvs : List (D × D)) : Bool := kvs.all fun p => (tk p.1).isSome
theorem tk_nk {d : D} {k : NestedKey} (h : tk d = some k) : nk d = some k ∧ k.depth ≤ 8 ∧ ∃ ds, d = .tuple ds := by
  unfold tk at h
  split at h
  · rename_i ds
    split at h
    · rename_i ks e
      split at h
      · rename_i hd
        cases h
        refine ⟨by unfold nk; rw [e]; rfl, ?_, ds, rfl⟩
        show NestedKey.depthAll ks + 1 ≤ 8
        omega
      · cases h
    · cases h
  · cases h
/-- entries, told as keys with their addresses -/
inductive Ents (w : World) (K : PySem.W.Frag) (G : Hp) (h : Heap) : List DictEntry → List (D × D) → List (NestedKey × Addr × Value) → Prop
  | nil : Ents w K G h [] [] []
  | cons {e : DictEntry} {es : List DictEntry} {dk dv : D} {kvs : List (D × D)} {k : NestedKey} {a : Addr} {vv : V} {xs : List (NestedKey × Addr × Value)} : tk dk = some k → NestedIs h k (.ref a) → Dt w K G (.ref a) dk → e = ⟨k.hash w, .ref a, e.val⟩ → RelV vv e.val → Dt w K G vv dv → Ents w K G h es kvs xs → Ents w K G h (e :: es) ((dk, dv) :: kvs) ((k, a, e.val) :: xs)
section
variable {X : Cx} {pins : List (Addr × Obj)} {σ : L2.St} {G H : Hp} {s : Shared}
theorem ents_of (I : Inv X pins σ H s) (sb : Sub G H) : ∀ {es : List DictEntry} {kvs : List (D × D)}, DtEs X.w X.K G es kvs → allTk kvs = true → ∃ xs, Ents X.w X.K G s.heap es kvs xs
  | _, _, .nil, _ => ⟨[], .nil⟩
  | _, _, .cons (e := e) (dk := dk) r1 t1 hh r2 t2 ts, h => by
    unfold allTk at h
    rw [List.all_cons, Bool.and_eq_true] at h
    obtain ⟨xs, ih⟩ := ents_of I sb ts h.2
    obtain ⟨k, hk⟩ := Option.isSome_iff_exists.mp h.1
    obtain ⟨hn, hd, ds, rfl⟩ := tk_nk hk
    have is1 := nk_is I sb _ k _ _ hn t1 r1
    cases t1 with
    | tup s1 a1 =>
      rename_i a xs0
      have ek : e.key = Value.ref a := r1
      rw [ek] at is1
      obtain ⟨eh, ekey, ev⟩ := e
      dsimp only at ek hh r2
      subst ek
      refine ⟨_, .cons hk is1 (.tup s1 a1) ?_ r2 t2 ih⟩
      rw [hh, nk_hash X.w _ k hn]
end

mutual
theorem nk_eqv : ∀ (d d' : D) (k k' : NestedKey), nk d = some k → nk d' = some k' → PyData.eqv d d' = NestedKey.beq k k'
  | .int i, d', k, k', h, h' => by
    unfold nk at h; cases h
    cases d' with
    | int j => unfold nk at h'; cases h'; rfl
    | str x => unfold nk at h'; cases h'; rfl
    | tuple ds => unfold nk at h'; obtain ⟨_, _, rfl⟩ := Option.map_eq_some_iff.mp h'; rfl
    | _ => unfold nk at h'; cases h'
  | .str x, d', k, k', h, h' => by
    unfold nk at h; cases h
    cases d' with
    | str j =>
      unfold nk at h'; cases h'
      show (x == j) = decide (x = j)
      rw [Bool.eq_iff_iff, beq_iff_eq, decide_eq_true_eq]
    | int x => unfold nk at h'; cases h'; rfl
    | tuple ds => unfold nk at h'; obtain ⟨_, _, rfl⟩ := Option.map_eq_some_iff.mp h'; rfl
    | _ => unfold nk at h'; cases h'
  | .tuple ds, d', k, k', h, h' => by
    unfold nk at h
    obtain ⟨ks, h1, rfl⟩ := Option.map_eq_some_iff.mp h
    cases d' with
    | tuple ds' =>
      unfold nk at h'
      obtain ⟨ks', h2, rfl⟩ := Option.map_eq_some_iff.mp h'
      show PyData.eqvAll ds ds' = NestedKey.beqAll ks ks'
      exact nkAll_eqv ds ds' ks ks' h1 h2
    | int j => unfold nk at h'; cases h'; rfl
    | str x => unfold nk at h'; cases h'; rfl
    | _ => unfold nk at h'; cases h'
  | .none, _, _, _, h, _ => by unfold nk at h; cases h
  | .bool _, _, _, _, h, _ => by unfold nk at h; cases h
  | .list _, _, _, _, h, _ => by unfold nk at h; cases h
  | .dict _, _, _, _, h, _ => by unfold nk at h; cases h
theorem nkAll_eqv : ∀ (ds ds' : List D) (ks ks' : List NestedKey), nkAll ds = some ks → nkAll ds' = some ks' → PyData.eqvAll ds ds' = NestedKey.beqAll ks ks'
  | [], [], _, _, h, h' => by unfold nkAll at h h'; cases h; cases h'; rfl
  | [], d :: ds, ks, ks', h, h' => by
    unfold nkAll at h h'; cases h
    split at h'
    · cases h'; rfl
    · cases h'
  | d :: ds, [], ks, ks', h, h' => by
    unfold nkAll at h h'; cases h'
    split at h
    · cases h; rfl
    · cases h
  | d :: ds, d' :: ds', ks, ks', h, h' => by
    unfold nkAll at h h'
    split at h
    · rename_i k1 ks1 e1 e2
      cases h
      split at h'
      · rename_i k2 ks2 e3 e4
        cases h'
        show (PyData.eqv d d' && PyData.eqvAll ds ds') = (NestedKey.beq k1 k2 && NestedKey.beqAll ks1 ks2)
        rw [nk_eqv d d' _ _ e1 e3, nkAll_eqv ds ds' _ _ e2 e4]
      · cases h'
    · cases h
end
section
variable {P : Program} {w : World} {K : PySem.W.Frag} {G : Hp} {h : Heap}
theorem Ents.map : ∀ {es : List DictEntry} {kvs : List (D × D)} {xs : List (NestedKey × Addr × Value)}, Ents w K G h es kvs xs → es = xs.map (entryOfKey (nestedKind P w)) ∧ (∀ x ∈ xs, (nestedKind P w).is h x.1 x.2.1) ∧ kvs.map (fun p => nk p.1) = xs.map (fun x => some x.1)
  | _, _, _, .nil => ⟨rfl, fun _ hx => (by cases hx), rfl⟩
  | _, _, _, .cons (xs := xs) hk hi t he r2 t2 ts => by
    obtain ⟨h1, h2, h3⟩ := ts.map
    obtain ⟨hn, hd, _⟩ := tk_nk hk
    refine ⟨?_, fun x hx => ?_, ?_⟩
    · rw [List.map_cons, ← h1]
      exact congrArg (· :: _) he
    · rcases List.mem_cons.mp hx with rfl | hx
      · exact ⟨hi, hd⟩
      · exact h2 x hx
    · rw [List.map_cons, List.map_cons, h3, hn]
theorem Ents.nodup {es : List DictEntry} {kvs : List (D × D)} {xs : List (NestedKey × Addr × Value)} (x : Ents w K G h es kvs xs) (hn : (kvs.map (·.1)).Nodup) : (xs.map (·.1)).Nodup := by
  induction x with
  | nil => exact List.nodup_nil
  | cons hk hi t he r2 t2 ts ih =>
    rename_i e es dk dv kvs k a vv xs
    rw [List.map_cons, List.nodup_cons] at hn ⊢
    refine ⟨fun hm => hn.1 ?_, ih hn.2⟩
    obtain ⟨_, _, h3⟩ := ts.map (P := default)
    obtain ⟨x, hx, ex⟩ := List.mem_map.mp hm
    have : some k ∈ xs.map (fun x => some x.1) := List.mem_map.mpr ⟨x, hx, by rw [ex]⟩
    rw [← h3] at this
    obtain ⟨p, hp, ep⟩ := List.mem_map.mp this
    exact List.mem_map.mpr ⟨p, hp, nk_inj _ _ k ep (tk_nk hk).1⟩
theorem Ents.find {d : D} {k : NestedKey} (hd : nk d = some k) {es : List DictEntry} {kvs : List (D × D)} {xs : List (NestedKey × Addr × Value)} (x : Ents w K G h es kvs xs) :
    match dfind kvs d with
    | some dv => ∃ a u vv, atKey xs k = some (a, u) ∧ RelV vv u ∧ Dt w K G vv dv
    | none => atKey xs k = none := by
  induction x with
  | nil => exact rfl
  | cons hk hi t he r2 t2 ts ih =>
    rename_i e es dk dv kvs k1 a vv xs
    have eq1 := nk_eqv _ _ _ _ (tk_nk hk).1 hd
    unfold dfind atKey at ih ⊢
    rw [List.find?_cons, List.find?_cons, eq1]
    have dec : decide (k1 = k) = NestedKey.beq k1 k := NestedKey.decide_eq k1 k
    cases hb : NestedKey.beq k1 k with
    | true =>
      rw [hb] at dec
      simp only [dec, Option.map_some]
      exact ⟨a, _, _, rfl, r2, t2⟩
    | false =>
      rw [hb] at dec
      simp only [dec]
      exact ih
end

/-! ### in, subscripts: keys that are tuples too -/
section
variable {X : Cx} {pins : List (Addr × Obj)} {σ : L2.St} {G H : Hp} {s : Shared}
theorem tk_dict (I : Inv X pins σ H s) (sb : Sub G H) {a : Addr} {o : Obj} {es : Array DictEntry} {ep : Nat} {kvs : List (D × D)} (h : DcA X.K G a o) (ho : o.ExactDict) (hd : o.data = .dict es ep) (t : DtEs X.w X.K G es.toList kvs) (hn : (kvs.map (·.1)).Nodup) (ha : allTk kvs = true) :
    ∃ xs, Ents X.w X.K G s.heap es.toList kvs xs ∧ s.heap.DictOfH (nestedKind X.prog X.w) a xs := by
  obtain ⟨xs, x⟩ := ents_of I sb t ha
  obtain ⟨h1, h2, _⟩ := x.map (P := X.prog)
  exact ⟨xs, x, o, es, ep, dc_at I sb h, ho, hd, h1, h2, x.nodup hn⟩
def inE (x c : D) : R D := match x, c with
  | .tuple ds, .dict kvs => if allTk kvs = true ∧ (tk (.tuple ds)).isSome = true then .ok (.bool (dfind kvs (.tuple ds)).isSome) else stk
  | x, c => inD x c
def ixE (c i : D) : R D := match c, i with
  | .dict kvs, .tuple ds => if allTk kvs = true ∧ (tk (.tuple ds)).isSome = true then opt (dfind kvs (.tuple ds)) else stk
  | c, i => ixD c i
theorem d_inE (hu : X.A.units + 65 < cLine) : OpR X (compareOp .In) (r2 X.w X.K inE) := by
  intro pins s σ H x y v u Q I rx ry ⟨G, da, db, e, sb, t1, t2, q⟩
  unfold inE at q
  split at q
  · split at q
    · rename_i hc
      obtain ⟨k, hk⟩ := Option.isSome_iff_exists.mp hc.2
      obtain ⟨hn, hd, _⟩ := tk_nk hk
      cases t2 with
      | scr _ _ => simp [allTk, tk] at hc
      | exc _ _ => simp [allTk, tk] at hc
      | dct s1 s2 s3 s4 s5 s6 =>
        obtain rfl : u = Value.ref _ := ry
        obtain ⟨xs, xe, m⟩ := tk_dict I sb s1 s3 s4 s5 s6 hc.1
        have ik := nk_is I sb _ k x v hn t1 rx
        cases t1 with
        | tup q1 q2 =>
          obtain rfl : v = Value.ref _ := rx
          have f := xe.find hn
          refine wpAny_in_heap (knd := nestedKind X.prog X.w) (k := k) (show X.A.units + 1 + 8 < cLine by omega) ⟨ik, hd⟩ s2 m ⟨.bl (dfind _ _).isSome, H, I.tok _, ?_, q _ G H (Gr.refl sb) (.bl _)⟩
          split at f
          · rename_i dv e1
            obtain ⟨a, u, vv, f1, _⟩ := f
            rw [f1, e1]; rfl
          · rename_i e1
            rw [f, e1]; rfl
    · exact q.elim
  · exact d_in hu pins s σ H x y v u Q I rx ry ⟨G, _, _, e, sb, t1, t2, q⟩
theorem d_ixE (hu : X.A.units + 65 < cLine) : IxR X (r2 X.w X.K ixE) := by
  intro value slice pins s σ H x y v u Q I rx ry ⟨G, da, db, e, sb, t1, t2, q⟩ hs
  unfold ixE at q
  split at q
  · split at q
    · rename_i hc
      obtain ⟨k, hk⟩ := Option.isSome_iff_exists.mp hc.2
      obtain ⟨hn, hd, _⟩ := tk_nk hk
      obtain ⟨dv, ed, q⟩ := opt_in q
      cases t1 with
      | scr _ _ => simp [allTk, tk] at hc
      | exc _ _ => simp [allTk, tk] at hc
      | dct s1 s2 s3 s4 s5 s6 =>
        obtain rfl : v = Value.ref _ := rx
        obtain ⟨xs, xe, m⟩ := tk_dict I sb s1 s3 s4 s5 s6 hc.1
        have ik := nk_is I sb _ k y u hn t2 ry
        cases t2 with
        | tup q1 q2 =>
          obtain rfl : u = Value.ref _ := ry
          have f := xe.find hn
          rw [ed] at f
          obtain ⟨a, w0, vv, f1, f2, f3⟩ := f
          exact tail_any m.typeIs slot_dict_getitem.lookup (wpAny_getItem_heap (knd := nestedKind X.prog X.w) (k := k) (show X.A.units + 1 + 8 < cLine by omega) ⟨ik, hd⟩ m f1 ⟨vv, H, I.tok _, f2, q vv G H (Gr.refl sb) f3⟩) hs
    · exact q.elim
  · exact d_ix value slice pins s σ H x y v u Q I rx ry ⟨G, _, _, e, sb, t1, t2, q⟩ hs
end
section
variable {prog : Program} {w : World} {κ : Type} [DecidableEq κ] {knd : HeapKind prog w κ} {A : Around} {E : Value → Shared → Prop} {s : Shared} {d a : Addr} {k : κ} {xs : List (κ × Addr × Value)}
theorem contains_h {Q : Bool → Shared → Prop} (hu : knd.room A.in1) (hkey : knd.is s.heap k a) (hd : (d == sysModules) = false) (hm : s.heap.DictOfH knd d xs) (q : Q (atKey xs k).isSome { s with toks := s.toks + knd.draws k }) :
    wpAny (model prog w) A (contains (.ref d) (.ref a)) Q E s := by
  unfold contains
  try with_reducible refine wpAny_holding ?_
  refine wpAny_bind (wpAny_specialOf hm.typeIs slot_dict_contains.lookup ?_)
  show wpAny _ _ (if (some (Value.builtin "dict.__contains__") == some Value.none) = true then _ else _) _ E s
  rw [if_neg (by rw [beq_builtin_none]; exact Bool.false_ne_true)]
  refine wpAny_bind (wpAny_callSpecialUnlessNone?_slot (name := Str.ofString "__contains__") hm.typeIs slot_dict_contains (wpAny_call_entry slot_dict_contains hm.typeIs entry_dict_contains ?_ (args_dict_contains _ _)))
  show wpAny _ _ (dictGet d (.ref a) >>= _) _ _ s
  refine wpAny_bind (wpAny_dictGet_heap hu hkey hm ?_)
  cases z : atKey xs k with
  | some p =>
    rw [z] at q
    show wpAny _ _ (PySem.ret (.bool true)) _ _ _
    exact wpAny_pure ⟨_, rfl, wpAny_truthy_bool q⟩
  | none =>
    rw [z] at q
    show wpAny _ _ (Builtin.Dict.pendingKey? d (.ref a) >>= _) _ _ _
    exact wpAny_bind (wpAny_pendingKey_other hd (wpAny_pure ⟨_, rfl, wpAny_truthy_bool q⟩))
theorem notIn_h {Q : Value → Shared → Prop} (hu : knd.room A.in1) (hkey : knd.is s.heap k a) (hd : (d == sysModules) = false) (hm : s.heap.DictOfH knd d xs) (q : Q (.bool (!(atKey xs k).isSome)) { s with toks := s.toks + knd.draws k }) :
    wpAny (model prog w) A (compareOp .NotIn (.ref a) (.ref d)) Q E s := by
  show wpAny _ _ (do return .bool (!(← contains (.ref d) (.ref a)))) Q E s
  exact wpAny_bind (contains_h hu hkey hd hm (wpAny_pure q))
end
section
variable {X : Cx} {pins : List (Addr × Obj)} {σ : L2.St} {G H : Hp} {s : Shared}
def ninE (x c : D) : R D := match x, c with
  | .tuple ds, .dict kvs => if allTk kvs = true ∧ (tk (.tuple ds)).isSome = true then .ok (.bool (!(dfind kvs (.tuple ds)).isSome)) else stk
  | x, c => ninD x c
theorem d_ninE (hu : X.A.units + 65 < cLine) : OpR X (compareOp .NotIn) (r2 X.w X.K ninE) := by
  intro pins s σ H x y v u Q I rx ry ⟨G, da, db, e, sb, t1, t2, q⟩
  unfold ninE at q
  split at q
  · split at q
    · rename_i hc
      obtain ⟨k, hk⟩ := Option.isSome_iff_exists.mp hc.2
      obtain ⟨hn, hd, _⟩ := tk_nk hk
      cases t2 with
      | scr _ _ => simp [allTk, tk] at hc
      | exc _ _ => simp [allTk, tk] at hc
      | dct s1 s2 s3 s4 s5 s6 =>
        obtain rfl : u = Value.ref _ := ry
        obtain ⟨xs, xe, m⟩ := tk_dict I sb s1 s3 s4 s5 s6 hc.1
        have ik := nk_is I sb _ k x v hn t1 rx
        cases t1 with
        | tup q1 q2 =>
          obtain rfl : v = Value.ref _ := rx
          have f := xe.find hn
          refine notIn_h (knd := nestedKind X.prog X.w) (k := k) (show X.A.units + 1 + 8 < cLine by omega) ⟨ik, hd⟩ s2 m ⟨.bl (!(dfind _ _).isSome), H, I.tok _, ?_, q _ G H (Gr.refl sb) (.bl _)⟩
          split at f
          · rename_i dv e1
            obtain ⟨a, u, vv, f1, _⟩ := f
            rw [f1, e1]; rfl
          · rename_i e1
            rw [f, e1]; rfl
    · exact q.elim
  · exact d_nin hu pins s σ H x y v u Q I rx ry ⟨G, _, _, e, sb, t1, t2, q⟩
end
end Vs

set_option Elab.async false
set_option linter.all false
set_option maxRecDepth 100000
/-! dicts of one's own: displays, stores. -/
namespace Vs
open PySem PySem.Spec PyProof.Rows L2

def dput (kvs : List (D × D)) (k v : D) : List (D × D) := if kvs.any (fun p => PyData.eqv p.1 k) then kvs.map (fun p => if PyData.eqv p.1 k then (p.1, v) else p) else kvs ++ [(k, v)]
def putOk (kvs : List (D × D)) (k : D) : Bool := (allAt kvs && (atomK k).isSome) || (allTk kvs && (tk k).isSome)
theorem dput_len (kvs : List (D × D)) (k v : D) : (dput kvs k v).length ≤ kvs.length + 1 := by
  unfold dput
  split
  · rw [List.length_map]; omega
  · rw [List.length_append]; exact Nat.le_refl _

/-! ### keys that are whole numbers, texts -/
inductive AtP (w : World) (K : PySem.W.Frag) (G : Hp) : List (D × D) → List (Key × Value) → Prop
  | nil : AtP w K G [] []
  | cons {dk dv : D} {k : Key} {u : Value} {vv : V} {kvs : List (D × D)} {vs : List (Key × Value)} : atomK dk = some k → RelV vv u → Dt w K G vv dv → AtP w K G kvs vs → AtP w K G ((dk, dv) :: kvs) ((k, u) :: vs)
section
variable {P : Program} {w : World} {K : PySem.W.Frag} {G : Hp}
theorem at_of : ∀ {es : List DictEntry} {kvs : List (D × D)}, DtEs w K G es kvs → allAt kvs = true → ∃ vs : List (Key × Value), Pairs (mixKind P w) es vs ∧ AtP w K G kvs vs
  | _, _, .nil, _ => ⟨[], .nil, .nil⟩
  | _, _, .cons (e := e) (dk := dk) r1 t1 hh r2 t2 ts, h => by
    unfold allAt at h
    rw [List.all_cons, Bool.and_eq_true] at h
    obtain ⟨vs, h1, h2⟩ := at_of ts h.2
    obtain ⟨k, hk⟩ := Option.isSome_iff_exists.mp h.1
    exact ⟨(k, e.val) :: vs, .cons (atom_is r1 t1 hk) rfl h1, .cons hk r2 t2 h2⟩
theorem atom_dt {dk : D} {k : Key} (h : atomK dk = some k) : Dt w K G (kV k) dk := by
  cases dk with
  | int i => cases h; exact .int i
  | str x => cases h; exact .str x
  | _ => cases h
theorem at_es {es : List DictEntry} {vs : List (Key × Value)} (p : Pairs (mixKind P w) es vs) : ∀ {kvs : List (D × D)}, (∀ e ∈ es, ∃ k, (mixKind P w).is k e.key = true ∧ e.hash = (mixKind P w).hash k) → AtP w K G kvs vs → DtEs w K G es kvs := by
  induction p with
  | nil => intro kvs _ a; cases a; exact .nil
  | @cons e kv es vs h1 h2 h3 ih =>
    intro kvs hk a
    obtain ⟨k, u⟩ := kv
    cases a with
    | cons q1 q2 q3 q4 =>
      obtain ⟨k', i1, i2⟩ := hk e List.mem_cons_self
      have e2 : (mixKind P w).is k e.key = decide (k = k') := KeyKind.is_eq_decide i1 k
      rw [show (mixKind P w).is k e.key = true from h1] at e2
      have e3 : k = k' := of_decide_eq_true e2.symm
      subst e3
      refine .cons (kv := kV k) (relV_key h1) (atom_dt q1) (by rw [i2, atom_hash q1]; rfl) ?_ q3 (ih (fun e he => hk e (List.mem_cons_of_mem _ he)) q4)
      rw [show e.val = _ from h2]; exact q2
theorem at_any {dk : D} {k : Key} (hk : atomK dk = some k) : ∀ {kvs : List (D × D)} {vs : List (Key × Value)}, AtP w K G kvs vs → kvs.any (fun p => PyData.eqv p.1 dk) = vs.any (fun kv => decide (kv.1 = k))
  | _, _, .nil => rfl
  | _, _, .cons q1 _ _ q4 => by rw [List.any_cons, List.any_cons, at_any hk q4, atom_eqv q1 hk]
theorem at_map {dk dv : D} {k : Key} {u : Value} {vv : V} (hk : atomK dk = some k) (r : RelV vv u) (t : Dt w K G vv dv) : ∀ {kvs : List (D × D)} {vs : List (Key × Value)}, AtP w K G kvs vs →
    AtP w K G (kvs.map (fun p => if PyData.eqv p.1 dk then (p.1, dv) else p)) (vs.map fun kv => if kv.1 = k then (kv.1, u) else kv)
  | _, _, .nil => .nil
  | _, _, .cons (k := k1) q1 q2 q3 q4 => by
    rw [List.map_cons, List.map_cons]
    have e := atom_eqv q1 hk
    by_cases h : k1 = k
    · rw [decide_eq_true h] at e
      rw [if_pos e, if_pos h]
      exact .cons q1 r t (at_map hk r t q4)
    · rw [decide_eq_false h] at e
      rw [if_neg (by rw [e]; exact Bool.false_ne_true), if_neg h]
      exact .cons q1 q2 q3 (at_map hk r t q4)
theorem at_app {dk dv : D} {k : Key} {u : Value} {vv : V} (hk : atomK dk = some k) (r : RelV vv u) (t : Dt w K G vv dv) : ∀ {kvs : List (D × D)} {vs : List (Key × Value)}, AtP w K G kvs vs → AtP w K G (kvs ++ [(dk, dv)]) (vs ++ [(k, u)])
  | _, _, .nil => .cons hk r t .nil
  | _, _, .cons q1 q2 q3 q4 => .cons q1 q2 q3 (at_app hk r t q4)
theorem at_put {dk dv : D} {k : Key} {u : Value} {vv : V} {kvs : List (D × D)} {vs : List (Key × Value)} (hk : atomK dk = some k) (r : RelV vv u) (t : Dt w K G vv dv) (a : AtP w K G kvs vs) : AtP w K G (dput kvs dk dv) (stored vs k u) := by
  unfold dput stored
  rw [at_any hk a]
  split
  · exact at_map hk r t a
  · exact at_app hk r t a
theorem at_keys : ∀ {kvs : List (D × D)} {vs : List (Key × Value)}, AtP w K G kvs vs → kvs.map (fun p => atomK p.1) = vs.map fun kv => some kv.1
  | _, _, .nil => rfl
  | _, _, .cons q1 _ _ q4 => by rw [List.map_cons, List.map_cons, q1, at_keys q4]
theorem atom_inj {d d' : D} {k : Key} (h : atomK d = some k) (h' : atomK d' = some k) : d = d' := by
  cases d with
  | int i =>
    cases h
    cases d' with
    | int j => cases h'; rfl
    | _ => cases h'
  | str x =>
    cases h
    cases d' with
    | str j => cases h'; rfl
    | _ => cases h'
  | _ => cases h
theorem at_nd1 : ∀ {kvs : List (D × D)} {vs : List (Key × Value)}, AtP w K G kvs vs → (vs.map (·.1)).Nodup → (kvs.map (·.1)).Nodup
  | _, _, .nil, _ => List.nodup_nil
  | _, _, .cons (dk := dk) (kvs := kvs) (vs := vs) (k := k) q1 _ _ q4, h => by
    rw [List.map_cons, List.nodup_cons] at h ⊢
    refine ⟨fun hm => h.1 ?_, at_nd1 q4 h.2⟩
    obtain ⟨p, hp, ep⟩ := List.mem_map.mp hm
    have : some k ∈ kvs.map (fun p => atomK p.1) := List.mem_map.mpr ⟨p, hp, by rw [ep]; exact q1⟩
    rw [at_keys q4] at this
    obtain ⟨x, hx, ex⟩ := List.mem_map.mp this
    exact List.mem_map.mpr ⟨x, hx, Option.some.inj ex⟩
theorem at_nd2 : ∀ {kvs : List (D × D)} {vs : List (Key × Value)}, AtP w K G kvs vs → (kvs.map (·.1)).Nodup → (vs.map (·.1)).Nodup
  | _, _, .nil, _ => List.nodup_nil
  | _, _, .cons (dk := dk) (kvs := kvs) (vs := vs) (k := k) q1 _ _ q4, h => by
    rw [List.map_cons, List.nodup_cons] at h ⊢
    refine ⟨fun hm => h.1 ?_, at_nd2 q4 h.2⟩
    obtain ⟨x, hx, ex⟩ := List.mem_map.mp hm
    have : some k ∈ vs.map (fun kv => some kv.1) := List.mem_map.mpr ⟨x, hx, by rw [show x.1 = k from ex]⟩
    rw [← at_keys q4] at this
    obtain ⟨p, hp, ep⟩ := List.mem_map.mp this
    exact List.mem_map.mpr ⟨p, hp, atom_inj ep q1⟩
end

/-! ### keys that are tuples -/
inductive TkP (w : World) (K : PySem.W.Frag) (G : Hp) : List (D × D) → List (NestedKey × Addr × Value) → Prop
  | nil : TkP w K G [] []
  | cons {dk dv : D} {k : NestedKey} {a : Addr} {u : Value} {vv : V} {kvs : List (D × D)} {xs : List (NestedKey × Addr × Value)} : tk dk = some k → Dt w K G (.ref a) dk → RelV vv u → Dt w K G vv dv → TkP w K G kvs xs → TkP w K G ((dk, dv) :: kvs) ((k, a, u) :: xs)
section
variable {P : Program} {w : World} {K : PySem.W.Frag} {G : Hp} {h : Heap}
theorem tk_of : ∀ {es : List DictEntry} {kvs : List (D × D)} {xs : List (NestedKey × Addr × Value)}, Ents w K G h es kvs xs → TkP w K G kvs xs
  | _, _, _, .nil => .nil
  | _, _, _, .cons h1 h2 h3 h4 h5 h6 h7 => .cons h1 h3 h5 h6 (tk_of h7)
theorem tk_es : ∀ {kvs : List (D × D)} {xs : List (NestedKey × Addr × Value)}, TkP w K G kvs xs → DtEs w K G (xs.map (entryOfKey (nestedKind P w))) kvs
  | _, _, .nil => .nil
  | _, _, .cons (a := a) h1 h2 h3 h4 h5 => .cons (kv := .ref a) rfl h2 (nk_hash w _ _ (tk_nk h1).1).symm h3 h4 (tk_es h5)
theorem tk_at {dk : D} {k : NestedKey} (hk : tk dk = some k) : ∀ {kvs : List (D × D)} {xs : List (NestedKey × Addr × Value)}, TkP w K G kvs xs → kvs.any (fun p => PyData.eqv p.1 dk) = (atKey xs k).isSome
  | _, _, .nil => rfl
  | _, _, .cons (k := k1) h1 h2 h3 h4 h5 => by
    have ih := tk_at hk h5
    have e := nk_eqv _ _ _ _ (tk_nk h1).1 (tk_nk hk).1
    have dec : decide (k1 = k) = NestedKey.beq k1 k := NestedKey.decide_eq k1 k
    rw [List.any_cons, ih, e, ← dec]
    unfold atKey
    rw [List.find?_cons]
    by_cases q : k1 = k
    · rw [decide_eq_true q]; simp
    · simp [q]
theorem tk_map {dk dv : D} {k : NestedKey} {u : Value} {vv : V} (hk : tk dk = some k) (r : RelV vv u) (t : Dt w K G vv dv) : ∀ {kvs : List (D × D)} {xs : List (NestedKey × Addr × Value)}, TkP w K G kvs xs →
    TkP w K G (kvs.map (fun p => if PyData.eqv p.1 dk then (p.1, dv) else p)) (xs.map (putAt k u))
  | _, _, .nil => .nil
  | _, _, .cons (k := k1) h1 h2 h3 h4 h5 => by
    rw [List.map_cons, List.map_cons]
    have e := nk_eqv _ _ _ _ (tk_nk h1).1 (tk_nk hk).1
    rw [← NestedKey.decide_eq k1 k] at e
    unfold putAt
    by_cases q : k1 = k
    · rw [decide_eq_true q] at e
      rw [if_pos e, if_pos q]
      subst q
      exact .cons h1 h2 r t (tk_map hk r t h5)
    · rw [decide_eq_false q] at e
      rw [if_neg (by rw [e]; exact Bool.false_ne_true), if_neg q]
      exact .cons h1 h2 h3 h4 (tk_map hk r t h5)
theorem tk_app {dk dv : D} {k : NestedKey} {a : Addr} {u : Value} {vv : V} (hk : tk dk = some k) (ta : Dt w K G (.ref a) dk) (r : RelV vv u) (t : Dt w K G vv dv) : ∀ {kvs : List (D × D)} {xs : List (NestedKey × Addr × Value)}, TkP w K G kvs xs → TkP w K G (kvs ++ [(dk, dv)]) (xs ++ [(k, a, u)])
  | _, _, .nil => .cons hk ta r t .nil
  | _, _, .cons h1 h2 h3 h4 h5 => .cons h1 h2 h3 h4 (tk_app hk ta r t h5)
theorem tk_put {dk dv : D} {k : NestedKey} {a : Addr} {u : Value} {vv : V} {kvs : List (D × D)} {xs : List (NestedKey × Addr × Value)} (hk : tk dk = some k) (ta : Dt w K G (.ref a) dk) (r : RelV vv u) (t : Dt w K G vv dv) (p : TkP w K G kvs xs) : TkP w K G (dput kvs dk dv) (storedH xs k a u) := by
  unfold dput
  rw [tk_at hk p]
  cases q : atKey xs k with
  | none =>
    rw [storedH_new q, if_neg (by simp)]
    exact tk_app hk ta r t p
  | some z =>
    rw [storedH_old q, if_pos (by simp)]
    exact tk_map hk r t p
theorem tk_keys : ∀ {kvs : List (D × D)} {xs : List (NestedKey × Addr × Value)}, TkP w K G kvs xs → kvs.map (fun p => nk p.1) = xs.map fun x => some x.1
  | _, _, .nil => rfl
  | _, _, .cons h1 _ _ _ h5 => by rw [List.map_cons, List.map_cons, (tk_nk h1).1, tk_keys h5]
theorem tk_nd1 : ∀ {kvs : List (D × D)} {xs : List (NestedKey × Addr × Value)}, TkP w K G kvs xs → (xs.map (·.1)).Nodup → (kvs.map (·.1)).Nodup
  | _, _, .nil, _ => List.nodup_nil
  | _, _, .cons (kvs := kvs) (k := k) q1 _ _ _ q4, h => by
    rw [List.map_cons, List.nodup_cons] at h ⊢
    refine ⟨fun hm => h.1 ?_, tk_nd1 q4 h.2⟩
    obtain ⟨p, hp, ep⟩ := List.mem_map.mp hm
    have : some k ∈ kvs.map (fun p => nk p.1) := List.mem_map.mpr ⟨p, hp, by rw [ep]; exact (tk_nk q1).1⟩
    rw [tk_keys q4] at this
    obtain ⟨x, hx, ex⟩ := List.mem_map.mp this
    exact List.mem_map.mpr ⟨x, hx, Option.some.inj ex⟩
end

/-! ### the store -/
section
variable {X : Cx} {pins : List (Addr × Obj)} {σ : L2.St} {G H : Hp} {s : Shared} {a : Addr} {A : Around} {E : Value → Shared → Prop}
/-- what is known of a dict -/
structure DcH (w : World) (K : PySem.W.Frag) (G : Hp) (a : Addr) (o : Obj) (kvs : List (D × D)) : Prop where
  ns : (a == sysModules) = false
  ex : o.ExactDict
  dat : ∃ (es : Array DictEntry) (ep : Nat), o.data = .dict es ep ∧ DtEs w K G es.toList kvs
  nd : (kvs.map (·.1)).Nodup
theorem DcH.own {w : World} {K : PySem.W.Frag} {G H : Hp} {a : Addr} {o : Obj} {kvs : List (D × D)} (c : DcH w K G a o kvs) (h : H a = some (dO a o)) : Own w K G H a (.dict kvs) := by
  obtain ⟨es, ep, e1, e2⟩ := c.dat
  exact .inr ⟨o, es, ep, kvs, rfl, h, c.ns, c.ex, e1, e2, c.nd⟩
theorem dO_ok {P : Program} {w : World} {H : Hp} {h : Heap} {a : Addr} {o : Obj} (e : h.get? a = some o) : ObjOk P w H h a (dO a o) := ⟨e, ⟨o, e⟩, fun h1 h2 q k => k _ q⟩
theorem dset_core {o : Obj} {kvs : List (D × D)} {x vv : V} {u r : Value} {dk dv : D} {Q : Unit → Shared → Prop} (hu : A.units + 9 < cLine) (I : Inv X pins σ H s) (sb : Sub G H) (hH : H a = some (dO a o)) (c : DcH X.w X.K G a o kvs)
    (rx : RelV x u) (tx : Dt X.w X.K G x dk) (rv : RelV vv r) (tv : Dt X.w X.K G vv dv) (ok : putOk kvs dk = true) (hl : kvs.length ≤ sizeLine)
    (h : ∀ s' o', Inv X pins σ (upd H a (dO a o')) s' → DcH X.w X.K G a o' (dput kvs dk dv) → Q () s') : wpAny (model X.prog X.w) A (dictSet a u r) Q E s := by
  obtain ⟨es, ep, hd, t⟩ := c.dat
  have hg : s.heap.get? a = some o := (I.hok a _ hH).1
  unfold putOk at ok
  rw [Bool.or_eq_true, Bool.and_eq_true, Bool.and_eq_true] at ok
  rcases ok with ⟨ha, hk⟩ | ⟨ha, hk⟩
  · obtain ⟨k, hk⟩ := Option.isSome_iff_exists.mp hk
    obtain ⟨vs, p1, p2⟩ := at_of (P := X.prog) t ha
    have dd : s.heap.DictOf (mixKind X.prog X.w) a vs := ⟨o, es, ep, hg, c.ex, hd, fun e he => es_keys t ha e (Array.mem_toList_iff.mpr he), p1, at_nd2 p2 c.nd⟩
    have lv : vs.length = kvs.length := by
      have := congrArg List.length (at_keys p2)
      rw [List.length_map, List.length_map] at this
      exact this.symm
    refine wpAny_dictSet_pairs (hsz := by omega) (atom_is rx tx hk) dd fun h' dd' hs => ?_
    obtain ⟨o', es', ep', g1, g2, g3, g4, g5, g6⟩ := dd'
    have p3 := at_put hk rv tv p2
    refine h _ o' (d_write I (by rw [hH]; exact True.intro) hs ⟨_, g1⟩ (dO_ok g1)) ⟨c.ns, g2, ⟨es', ep', g3, at_es g5 (fun e he => g4 e (Array.mem_toList_iff.mp he)) p3⟩, at_nd1 p3 g6⟩
  · obtain ⟨k, hk⟩ := Option.isSome_iff_exists.mp hk
    obtain ⟨hn, hdp, ds, e1⟩ := tk_nk hk
    obtain ⟨xs, xe⟩ := ents_of I sb t ha
    obtain ⟨h1, h2, _⟩ := xe.map (P := X.prog)
    have p2 := tk_of xe
    have dd : s.heap.DictOfH (nestedKind X.prog X.w) a xs := ⟨o, es, ep, hg, c.ex, hd, h1, h2, xe.nodup c.nd⟩
    have lv : xs.length = kvs.length := by
      have := congrArg List.length (tk_keys p2)
      rw [List.length_map, List.length_map] at this
      exact this.symm
    subst e1
    cases tx with
    | tup q1 q2 =>
      rename_i b ys
      obtain rfl : u = Value.ref b := rx
      have ik := nk_is I sb _ k _ _ hn (.tup q1 q2) (show RelV (.ref b) (.ref b) from rfl)
      refine wpAny_dictSet_heap (knd := nestedKind X.prog X.w) (k := k) (hsz := by omega) (show A.units + 8 < cLine by omega) ⟨ik, hdp⟩ dd fun h' dd' hs => ?_
      obtain ⟨o', es', ep', g1, g2, g3, g4, g5, g6⟩ := dd'
      have p3 := tk_put hk (.tup q1 q2) rv tv p2
      refine h _ o' (d_write I (by rw [hH]; exact True.intro) hs ⟨_, g1⟩ (dO_ok g1)) ⟨c.ns, g2, ⟨es', ep', g3, by rw [g4]; exact tk_es p3⟩, tk_nd1 p3 g6⟩
/-- the object of a dict -/
theorem dc_type {o : Obj} {kvs : List (D × D)} (I : Inv X pins σ H s) (hH : H a = some (dO a o)) (c : DcH X.w X.K G a o kvs) : s.TypeIs (.ref a) "dict" := ⟨o, (I.hok a _ hH).1, c.ex.1⟩
theorem setItem_of {prog : Program} {w : World} {d : Addr} {key v : Value} {Q : Unit → Shared → Prop} (hT : s.TypeIs (.ref d) "dict") (h : wpAny (model prog w) A.in1 (dictSet d key v) Q E s) : wpAny (model prog w) A (setItem (.ref d) key v) Q E s := by
  unfold setItem
  try with_reducible refine wpAny_holding ?_
  refine wpAny_bind (wpAny_sequenceKey hT (by decide) ?_)
  refine wpAny_bind (wpAny_callSpecial?_slot (name := Str.ofString "__setitem__") hT slot_dict_setitem
    (wpAny_call_entry slot_dict_setitem hT entry_dict_setitem ?_ (args_dict_setitem _ _ _)))
  show wpAny _ _ (Builtin.Dict.notOrdered "__setitem__" ⟨[.ref d, key, v], []⟩ >>= _) _ _ s
  refine wpAny_bind (wpAny_notOrdered_dict hT ?_)
  show wpAny _ _ (dictSet d key v >>= _) _ _ s
  exact wpAny_bind (wpAny_mono h (fun _ s' h' => wpAny_pure ⟨.none, rfl, wpAny_pure h'⟩) fun _ _ e => e)
end

/-! ### x[k] = v -/
def asK : D → R (List (D × D))
  | .dict kvs => .ok kvs
  | _ => stk
def gk (ρ : Env') (i : Nat) : R (List (D × D)) := gv ρ i >>= asK
theorem gk_in {e : Nat → D → Prop} {ρ : Env'} {i : Nat} {q : List (D × D) → Prop} (h : gd (gk ρ i) q e) : ∃ kvs, ρ[i]? = some (some (.dict kvs)) ∧ q kvs := by
  obtain ⟨d, h1, h2⟩ := gv_in (gd_bind.mp h)
  cases d with
  | dict kvs => exact ⟨kvs, h1, h2⟩
  | _ => exact h2.elim
def dpD (i : Nat) (kvs : List (D × D)) (k v : D) (ρ : Env') : R Out := if putOk kvs k = true ∧ kvs.length < 16777216 then setD i (.dict (dput kvs k v)) ρ else stk
theorem Own.dct {w : World} {K : PySem.W.Frag} {G H : Hp} {a : Addr} {kvs : List (D × D)} (o : Own w K G H a (.dict kvs)) : ∃ ob, H a = some (dO a ob) ∧ DcH w K G a ob kvs := by
  rcases o with ⟨_, _, e, _⟩ | ⟨o, es, ep, kvs', e, h, q1, q2, q3, q4, q5⟩
  · cases e
  · cases e
    exact ⟨o, h, q1, q2, ⟨es, ep, q3, q4⟩, q5⟩
theorem DcH.sub {w : World} {K : PySem.W.Frag} {G G' : Hp} {a : Addr} {o : Obj} {kvs : List (D × D)} (s : Sub G G') (c : DcH w K G a o kvs) : DcH w K G' a o kvs := by
  obtain ⟨es, ep, e1, e2⟩ := c.dat
  exact ⟨c.ns, c.ex, ⟨es, ep, e1, e2.sub s⟩, c.nd⟩
section
variable {X : Cx} {k value : Expr} {pos p p2 : Pos} {e : Bas → Nat → D → Prop} {O : List Nat} {fr : Bool} {fk fv : Env' → R D}
theorem s_dput (i : Nat) {x : Str} (hu : X.A.units + 65 < cLine) (hk : PE X k (tV X.w X.K e O fk)) (hval : PE X value (tV X.w X.K e O fv)) (hi : i ∈ O := by decide) (hN : X.N[i]? = some x := by rfl) (hv : Vis X.env.scope x := by first | exact Or.inl rfl | exact Or.inr (Or.inl rfl) | exact Or.inr (Or.inr rfl)) (hd : (x == ("__debug__" : Str)) = false := by decide) (hc : (x == ("__classdict__" : Str)) = false := by decide)
    (hs : swapsWith value (some (.Subscript (.Name x p) k p2)) pos.line X.env = pure false := by rfl) :
    PS X (.Assign [.Subscript (.Name x p) k p2] value pos) (sV X.w X.K e O O fr fun ρ => fv ρ >>= fun v => gk ρ i >>= fun kvs => fk ρ >>= fun k => dpD i kvs k v ρ) := by
  refine ⟨fun pins s σ H Dn I ⟨B, ρ, G, r, q⟩ => ?_⟩
  refine wpAny_Assign_Subscript (thn (hval.run pins s σ H (fun v H1 => tVar i σ H1 fun y H2 => tV X.w X.K e O fk σ H2 fun z H3 => ∃ (A : Addr) (o : Obj) (kvs : List (D × D)) (G : Hp) (dk dv : D), y = .ref A ∧ Sub G H3 ∧ H3 A = some (dO A o) ∧ DcH X.w X.K G A o kvs ∧ Dt X.w X.K G z dk ∧ Dt X.w X.K G v dv ∧ putOk kvs dk = true ∧ kvs.length < 16777216 ∧
      ∀ o', DcH X.w X.K G A o' (dput kvs dk dv) → Dn.nx σ (upd H3 A (dO A o'))) I ?_) fun u s1 ⟨v, H1, I1, rv, q1⟩ => thn ((pv i hN hv hd hc).run pins s1 σ H1 _ I1 q1) fun ov s2 ⟨y, H2, I2, ry, q2⟩ => thn (hk.run pins s2 σ H2 _ I2 q2) fun iv s3 ⟨z, H3, I3, rz, q3⟩ => ?_) hs
  · refine ⟨B, ρ, G, r, gd_mono (gd_bind.mp q) fun dv q v G1 H1 g1 tv => ?_⟩
    obtain ⟨kvs, e0, q⟩ := gk_in (gd_bind.mp q)
    obtain ⟨A, s0, o, n1, n2⟩ := r.own i _ e0 hi
    refine ⟨.ref A, s0, B, ρ, G1, r.grow g1, gd_mono (gd_bind.mp q) fun dk q z G2 H2 g2 tz => ?_⟩
    unfold dpD at q
    split at q
    · rename_i hq
      obtain ⟨ob, ho, c⟩ := o.dct
      have g12 := g1.trans g2
      have ho2 := g12.keep A _ ho
      have c2 := c.sub (g12.up r.sub)
      refine ⟨A, ob, kvs, G2, dk, dv, rfl, g12.sub, ho2, c2, tz, tv.sub (g2.up g1.sub), hq.1, hq.2, fun o' c' => ?_⟩
      exact q _ G2 _ (g12.up r.sub) ((r.grow g12).wr hi e0 s0 (c'.own upd_same))
    · exact q.elim
  · obtain ⟨A, o, kvs, G3, dk, dv, rfl, sb, ho, c, tz, tv, ok, hl, q4⟩ := q3
    obtain rfl : ov = Value.ref A := ry
    refine setItem_of (dc_type I3 ho c) (dset_core (show X.A.in1.units + 9 < cLine by show X.A.units + 1 + 9 < cLine; omega) I3 sb ho c rz tz rv tv ok (by rw [sizeLine_eq]; omega) fun s' o' I' c' => ⟨σ, _, I', q4 o' c'⟩)
end

/-! ### x[k], x a dict of one's own -/
def dgD (kvs : List (D × D)) (k : D) : R (Option D) := if putOk kvs k = true then .ok (dfind kvs k) else stk
section
variable {X : Cx} {pins : List (Addr × Obj)} {σ : L2.St} {G H : Hp} {s : Shared} {a : Addr} {A : Around} {E : Value → Shared → Prop}
/-- what a look at a key finds: as a map of plain keys, or of tuples -/
theorem dlook {o : Obj} {kvs : List (D × D)} {x : V} {u : Value} {dk : D} (I : Inv X pins σ H s) (sb : Sub G H) (hg : s.heap.get? a = some o) (c : DcH X.w X.K G a o kvs) (rx : RelV x u) (tx : Dt X.w X.K G x dk) (ok : putOk kvs dk = true) :
    (∃ k f, (mixKind X.prog X.w).is k u = true ∧ s.heap.MapOf (mixKind X.prog X.w) a f ∧ (match dfind kvs dk with
      | some dv => ∃ u vv, f k = some u ∧ RelV vv u ∧ Dt X.w X.K G vv dv
      | none => f k = none)) ∨
    (∃ b k xs, u = .ref b ∧ (nestedKind X.prog X.w).is s.heap k b ∧ s.heap.DictOfH (nestedKind X.prog X.w) a xs ∧ xs.length = kvs.length ∧ (match dfind kvs dk with
      | some dv => ∃ a u vv, atKey xs k = some (a, u) ∧ RelV vv u ∧ Dt X.w X.K G vv dv
      | none => atKey xs k = none)) := by
  obtain ⟨es, ep, hd, t⟩ := c.dat
  unfold putOk at ok
  rw [Bool.or_eq_true, Bool.and_eq_true, Bool.and_eq_true] at ok
  rcases ok with ⟨ha, hk⟩ | ⟨ha, hk⟩
  · obtain ⟨k, hk⟩ := Option.isSome_iff_exists.mp hk
    exact .inl ⟨k, _, atom_is rx tx hk, ⟨o, es, ep, hg, c.ex, hd, fun e he => es_keys t ha e (Array.mem_toList_iff.mpr he), fun _ => rfl⟩, dc_find hk t ha⟩
  · obtain ⟨k, hk⟩ := Option.isSome_iff_exists.mp hk
    obtain ⟨hn, hdp, ds, e1⟩ := tk_nk hk
    obtain ⟨xs, xe⟩ := ents_of I sb t ha
    obtain ⟨h1, h2, _⟩ := xe.map (P := X.prog)
    have lv : xs.length = kvs.length := by
      have := congrArg List.length (tk_keys (tk_of xe))
      rw [List.length_map, List.length_map] at this
      exact this.symm
    subst e1
    cases tx with
    | tup q1 q2 =>
      rename_i b ys
      obtain rfl : u = Value.ref b := rx
      exact .inr ⟨b, k, xs, rfl, ⟨nk_is I sb _ k _ _ hn (.tup q1 q2) (show RelV (.ref b) (.ref b) from rfl), hdp⟩, ⟨o, es, ep, hg, c.ex, hd, h1, h2, xe.nodup c.nd⟩, lv, xe.find hn⟩
theorem dget_core {o : Obj} {kvs : List (D × D)} {x : V} {u : Value} {dk dv : D} {Q : Value → Shared → Prop} (hu : A.units + 9 < cLine) (I : Inv X pins σ H s) (sb : Sub G H) (hg : s.heap.get? a = some o) (c : DcH X.w X.K G a o kvs)
    (rx : RelV x u) (tx : Dt X.w X.K G x dk) (ok : putOk kvs dk = true) (hf : dfind kvs dk = some dv)
    (h : ∀ vv u' s', Inv X pins σ H s' → RelV vv u' → Dt X.w X.K G vv dv → Q u' s') : wpAny (model X.prog X.w) A (getItem (.ref a) u) Q E s := by
  rcases dlook I sb hg c rx tx ok with ⟨k, f, h1, h2, h3⟩ | ⟨b, k, xs, rfl, h1, h2, _, h3⟩
  · rw [hf] at h3
    obtain ⟨u', vv, e1, e2, e3⟩ := h3
    exact wpAny_getItem_of h1 h2 e1 (h vv u' _ (I.tok _) e2 e3)
  · rw [hf] at h3
    obtain ⟨a', u', vv, e1, e2, e3⟩ := h3
    exact wpAny_getItem_heap (knd := nestedKind X.prog X.w) (show A.units + 1 + 8 < cLine by omega) h1 h2 e1 (h vv u' _ (I.tok _) e2 e3)
theorem dget1_core {o : Obj} {kvs : List (D × D)} {x : V} {u : Value} {dk : D} {Q : Value → Shared → Prop} (hu : A.units + 9 < cLine) (I : Inv X pins σ H s) (sb : Sub G H) (hg : s.heap.get? a = some o) (c : DcH X.w X.K G a o kvs)
    (rx : RelV x u) (tx : Dt X.w X.K G x dk) (ok : putOk kvs dk = true)
    (h : ∀ vv u' s', Inv X pins σ H s' → RelV vv u' → Dt X.w X.K G vv ((dfind kvs dk).getD .none) → Q u' s') : wpAny (model X.prog X.w) A (call (.builtin "dict.get") [.ref a, u]) Q E s := by
  have hT : s.TypeIs (.ref a) "dict" := ⟨o, hg, c.ex.1⟩
  rcases dlook I sb hg c rx tx ok with ⟨k, f, h1, h2, h3⟩ | ⟨b, k, xs, rfl, h1, h2, _, h3⟩
  · refine call_meetsIn PySem.F.slot_dict_get hT PySem.F.entry_dict_get (PySem.F.args_dict_get_2 _ _) (meets_dict_get (mixKind X.prog X.w) a h1 c.ns) ⟨_, h2, ?_⟩
    cases q : dfind kvs dk with
    | some dv =>
      rw [q] at h3 h
      obtain ⟨u', vv, e1, e2, e3⟩ := h3
      rw [e1]
      exact h vv u' _ (I.tok _) e2 e3
    | none =>
      rw [q] at h3 h
      rw [show f k = none from h3]
      exact h .non .none _ (I.tok _) rfl .non
  · refine call_meetsIn PySem.F.slot_dict_get hT PySem.F.entry_dict_get (PySem.F.args_dict_get_2 _ _) (meetsH_dict_get (nestedKind X.prog X.w) a b c.ns) ⟨show A.units + 1 + 8 < cLine by omega, k, xs, h1, h2, ?_⟩
    cases q : dfind kvs dk with
    | some dv =>
      rw [q] at h3 h
      obtain ⟨a', u', vv, e1, e2, e3⟩ := h3
      rw [e1]
      exact h vv u' _ (I.tok _) e2 e3
    | none =>
      rw [q] at h3 h
      rw [show atKey xs k = none from h3]
      exact h .non .none _ (I.tok _) rfl .non
theorem dget2_core {o : Obj} {kvs : List (D × D)} {x z : V} {u r : Value} {dk dz : D} {Q : Value → Shared → Prop} (hu : A.units + 9 < cLine) (I : Inv X pins σ H s) (sb : Sub G H) (hg : s.heap.get? a = some o) (c : DcH X.w X.K G a o kvs)
    (rx : RelV x u) (tx : Dt X.w X.K G x dk) (rz : RelV z r) (tz : Dt X.w X.K G z dz) (ok : putOk kvs dk = true)
    (h : ∀ vv u' s', Inv X pins σ H s' → RelV vv u' → Dt X.w X.K G vv ((dfind kvs dk).getD dz) → Q u' s') : wpAny (model X.prog X.w) A (call (.builtin "dict.get") [.ref a, u, r]) Q E s := by
  have hT : s.TypeIs (.ref a) "dict" := ⟨o, hg, c.ex.1⟩
  rcases dlook I sb hg c rx tx ok with ⟨k, f, h1, h2, h3⟩ | ⟨b, k, xs, rfl, h1, h2, _, h3⟩
  · refine call_meetsIn PySem.F.slot_dict_get hT PySem.F.entry_dict_get (PySem.F.args_dict_get_3 _ _ _) (meets_dict_get_default (mixKind X.prog X.w) a h1 c.ns r) ⟨_, h2, ?_⟩
    cases q : dfind kvs dk with
    | some dv =>
      rw [q] at h3 h
      obtain ⟨u', vv, e1, e2, e3⟩ := h3
      rw [e1]
      exact h vv u' _ (I.tok _) e2 e3
    | none =>
      rw [q] at h3 h
      rw [show f k = none from h3]
      exact h z r _ (I.tok _) rz tz
  · refine call_meetsIn PySem.F.slot_dict_get hT PySem.F.entry_dict_get (PySem.F.args_dict_get_3 _ _ _) (meetsH_dict_get_default (nestedKind X.prog X.w) a b c.ns r) ⟨show A.units + 1 + 8 < cLine by omega, k, xs, h1, h2, ?_⟩
    cases q : dfind kvs dk with
    | some dv =>
      rw [q] at h3 h
      obtain ⟨a', u', vv, e1, e2, e3⟩ := h3
      rw [e1]
      exact h vv u' _ (I.tok _) e2 e3
    | none =>
      rw [q] at h3 h
      rw [show atKey xs k = none from h3]
      exact h z r _ (I.tok _) rz tz
end
section
variable {X : Cx} {b : Expr} {pos p : Pos} {e : Bas → Nat → D → Prop} {O : List Nat} {fb : Env' → R D}
theorem v_dgo (i : Nat) {x : Str} (hu : X.A.units + 65 < cLine) (hb : PE X b (tV X.w X.K e O fb)) (hi : i ∈ O := by decide) (hN : X.N[i]? = some x := by rfl) (hv : Vis X.env.scope x := by first | exact Or.inl rfl | exact Or.inr (Or.inl rfl) | exact Or.inr (Or.inr rfl)) (hd : (x == ("__debug__" : Str)) = false := by decide) (hc : (x == ("__classdict__" : Str)) = false := by decide)
    (hs : PlainIx b := by exact fun _ _ => rfl) : PE X (.Subscript (.Name x p) b pos) (tV X.w X.K e O fun ρ => gk ρ i >>= fun kvs => fb ρ >>= fun y => dgD kvs y >>= opt) := by
  refine pe_imp (pe_ix (r := fun x y H Q => ∃ G dk A o kvs dv, x = .ref A ∧ Sub G H ∧ H A = some (dO A o) ∧ DcH X.w X.K G A o kvs ∧ Dt X.w X.K G y dk ∧ putOk kvs dk = true ∧ dfind kvs dk = some dv ∧ ∀ v, Dt X.w X.K G v dv → Q v H) ?_ (pv i hN hv hd hc) hb hs) fun σ H Q ⟨B, ρ, G, r, q⟩ => ?_
  · intro value slice pins s σ H x y v u Q I rx ry ⟨G, dk, A, o, kvs, dv, ex, sb, hH, c, ty, ok, hf, q⟩ hs
    subst ex
    obtain rfl : v = Value.ref A := rx
    exact tail_any (dc_type I hH c) slot_dict_getitem.lookup (dget_core (show X.A.units + 9 < cLine by omega) I sb (I.hok A _ hH).1 c ry ty ok hf fun vv u' s' I' r' t' => ⟨vv, H, I', r', q vv t'⟩) hs
  · obtain ⟨kvs, e0, q⟩ := gk_in (gd_bind.mp q)
    obtain ⟨A, s0, o, n1, n2⟩ := r.own i _ e0 hi
    refine ⟨.ref A, s0, B, ρ, G, r, gd_mono (gd_bind.mp q) fun db q y G1 H1 g1 ty => ?_⟩
    obtain ⟨ob, ho, c⟩ := o.dct
    have q := gd_bind.mp q
    unfold dgD at q
    split at q
    · rename_i ok
      obtain ⟨dv, ev, q⟩ := opt_in (show gd (opt (dfind kvs db)) _ (e B) from q)
      exact ⟨G1, db, A, ob, kvs, dv, rfl, g1.sub, g1.keep A _ ho, c.sub (g1.up r.sub), ty, ok, ev, fun v t => q v G1 H1 g1 t⟩
    · exact q.elim
end
end Vs

set_option Elab.async false
set_option linter.all false
set_option maxRecDepth 100000
/-! dicts: displays, walked, len, get; list(range), range with a step. -/
namespace Vs
open PySem PySem.Spec PyProof.Rows L2

/-! ### {} -/
abbrev oE : Obj := { cls := .type "dict", data := .dict #[] }
section
variable {X : Cx} {pos : Pos} {e : Bas → Nat → D → Prop} {O : List Nat}
theorem dcE {w : World} {K : PySem.W.Frag} {G : Hp} {a : Addr} (h : (a == sysModules) = false) : DcH w K G a oE [] := ⟨h, ⟨rfl, rfl, rfl⟩, ⟨#[], 0, rfl, .nil⟩, List.nodup_nil⟩
theorem big_ns {pins : List (Addr × Obj)} {σ : L2.St} {H : Hp} {s : Shared} (I : Inv X pins σ H s) : (s.heap.objs.size == sysModules) = false := beq_eq_false_iff_ne.mpr (Ne.symm (Nat.ne_of_lt I.big))
theorem none_sub {G H : Hp} (s : Sub G H) {a : Addr} (n : H a = none) : G a = none := by
  cases z : G a with
  | none => rfl
  | some o => rw [s a o z] at n; cases n
theorem o_d0 : PE X (.Dict [] [] pos) (tO X.w X.K e O fun _ => .ok (.dict [])) := ⟨fun pins s σ H Q I ⟨B, ρ, G, r, q⟩ => by
  have hn := I.hok.fresh (Nat.le_refl s.heap.objs.size)
  have I1 := I.laid (a := s.heap.objs.size) (o := dO s.heap.objs.size oE) (h' := s.heap.push oE) (t' := s.toks) (fun _ _ q => Heap.get?_push_of_some _ q) (Nat.le_refl _) (dO_ok (Heap.get?_push_size _ rfl))
  exact wpAny_Dict_empty ⟨.ref s.heap.objs.size, _, I1, rfl, q _ G _ (Gr.own r.sub hn) hn (none_sub r.sub hn) ((dcE (big_ns I)).own upd_same)⟩⟩
end

/-! ### {k: v, ..} -/
inductive PrA (w : World) (K : PySem.W.Frag) (G : Hp) : List (V × V) → List (D × D) → Prop
  | nil : PrA w K G [] []
  | cons {x y : V} {dk dv : D} {vs : List (V × V)} {ps : List (D × D)} : Dt w K G x dk → Dt w K G y dv → PrA w K G vs ps → PrA w K G ((x, y) :: vs) ((dk, dv) :: ps)
def dputs : List (D × D) → List (D × D) → R (List (D × D))
  | acc, [] => .ok acc
  | acc, (k, v) :: ps => if putOk acc k = true then dputs (dput acc k v) ps else stk
structure DPs (X : Cx) (e : Bas → Nat → D → Prop) (O : List Nat) (pos : Pos) (keys : List (Option Expr)) (values : List Expr) (fp : Env' → R (List (D × D))) : Prop where
  run : ∀ (pins : List (Addr × Obj)) (s : Shared) (σ : L2.St) (H : Hp) (Q : List (V × V) → Hp → Prop), Inv X pins σ H s →
    (∃ B ρ G, Rp X.w X.K B O ρ σ G H ∧ gd (fp ρ) (fun ps => ∀ vs G' H', Gr G H G' H' → PrA X.w X.K G' vs ps → Q vs H') (e B)) →
    wpAny (model X.prog X.w) X.A (evalPairs (pairTrees keys values X.env pos)) (fun us s' => ∃ vs H', Inv X pins σ H' s' ∧ VV vs us ∧ Q vs H') X.xe s
section
variable {X : Cx} {pos : Pos} {e : Bas → Nat → D → Prop} {O : List Nat} {k v : Expr} {ks : List (Option Expr)} {vs : List Expr} {fk fv : Env' → R D} {fp : Env' → R (List (D × D))}
theorem p_nil : DPs X e O pos [] [] (fun _ => .ok []) := ⟨fun pins s σ H Q I ⟨B, ρ, G, r, q⟩ => pairTrees_nil_walk ⟨[], H, I, .nil, q [] G H r.here .nil⟩⟩
theorem p_cons (hk : PE X k (tV X.w X.K e O fk)) (hv : PE X v (tV X.w X.K e O fv)) (hr : DPs X e O pos ks vs fp) :
    DPs X e O pos (some k :: ks) (v :: vs) (fun ρ => fk ρ >>= fun x => fv ρ >>= fun y => fp ρ >>= fun ps => .ok ((x, y) :: ps)) := ⟨fun pins s σ H Q I ⟨B, ρ, G, r, q⟩ => by
  refine pairTrees_cons_walk (thn (hk.run pins s σ H (fun x H1 => tV X.w X.K e O fv σ H1 fun y H2 => ∃ B ρ G, Rp X.w X.K B O ρ σ G H2 ∧ gd (fp ρ) (fun ps => ∀ vs G' H', Gr G H2 G' H' → PrA X.w X.K G' vs ps → Q ((x, y) :: vs) H') (e B)) I ⟨B, ρ, G, r, gd_mono (gd_bind.mp q) fun dx q x G1 H1 g1 tx => ⟨B, ρ, G1, r.grow g1, gd_mono (gd_bind.mp q) fun dy q y G2 H2 g2 ty => ?_⟩⟩) fun u s1 ⟨x, H1, I1, rx, q1⟩ => thn (hv.run pins s1 σ H1 _ I1 q1) fun w2 s2 ⟨y, H2, I2, ry, q2⟩ =>
    thn (hr.run pins s2 σ H2 _ I2 q2) fun ws s3 ⟨ps, H3, I3, rel, q3⟩ => ⟨(x, y) :: ps, H3, I3, .cons ⟨rx, ry⟩ rel, q3⟩)
  refine ⟨B, ρ, G2, (r.grow g1).grow g2, gd_mono (gd_bind.mp q) fun ps q vs G3 H3 g3 tp => ?_⟩
  exact q _ G3 H3 ((g1.trans g2).trans g3) (.cons (tx.sub ((g2.trans g3).up g1.sub)) (ty.sub (g3.up g2.sub)) tp)⟩
theorem store_all {pins : List (Addr × Obj)} {σ : L2.St} {a : Addr} {A : Around} {E : Value → Shared → Prop} (hu : A.units + 9 < cLine) : ∀ {us : List (Value × Value)} {vs : List (V × V)} {ps kvs0 kvs : List (D × D)} {G H : Hp} {s : Shared} {o : Obj} {Q : PUnit → Shared → Prop}, Inv X pins σ H s → Sub G H → H a = some (dO a o) → DcH X.w X.K G a o kvs0 → VV vs us → PrA X.w X.K G vs ps → dputs kvs0 ps = .ok kvs → kvs0.length + ps.length ≤ sizeLine → G a = none →
    (∀ s' o', Inv X pins σ (upd H a (dO a o')) s' → DcH X.w X.K G a o' kvs → Q PUnit.unit s') → wpAny (model X.prog X.w) A (storeAll a us) Q E s
  | _, _, _, kvs0, kvs, G, H, s, o, Q, I, sb, hH, c, .nil, .nil, hd, hl, _, h => by
    cases hd
    unfold storeAll
    rw [List.forIn_nil]
    refine wpAny_pure (h s o ?_ c)
    have : upd H a (dO a o) = H := by
      funext b; unfold upd; split
      · rename_i e1; rw [e1, hH]
      · rfl
    rw [this]; exact I
  | _, _, _, kvs0, kvs, G, H, s, o, Q, I, sb, hH, c, .cons rv rvs, .cons (dk := dk) (dv := dv) tx ty ts, hd, hl, hg, h => by
    unfold dputs at hd
    split at hd
    · rename_i ok
      rw [List.length_cons] at hl
      unfold storeAll
      rw [List.forIn_cons]
      refine wpAny_bind (wpAny_bind (dset_core hu I sb hH c rv.1 tx rv.2 ty ok (by omega) fun s' o' I' c' => wpAny_pure ?_))
      have s2 : Sub G (upd H a (dO a o')) := fun b u q => by rw [upd_ne (ne_of_none q hg)]; exact sb b u q
      have l2 := dput_len kvs0 dk dv
      refine store_all hu I' s2 upd_same c' rvs ts hd (by omega) hg fun s2 o2 I2 c2 => h s2 o2 ?_ c2
      rw [upd_upd] at I2
      exact I2
    · cases hd
theorem o_dd {keys : List (Option Expr)} {values : List Expr} (hu : X.A.units + 65 < cLine) (h : DPs X e O pos keys values fp) (hall : keys.all (·.isSome) = true := by rfl) (hl : keys.length = values.length := by rfl) (h0 : keys ≠ [] := by exact fun z => nomatch z) (h15 : keys.length ≤ 15 := by decide) :
    PE X (.Dict keys values pos) (tO X.w X.K e O fun ρ => fp ρ >>= fun ps => lenOk ps.length >>= fun _ => noX (dputs [] ps) >>= fun kvs => .ok (.dict kvs)) := ⟨fun pins s σ H Q I ⟨B, ρ, G, r, q⟩ => by
  have hn := I.hok.fresh (Nat.le_refl s.heap.objs.size)
  have hns := big_ns I
  generalize hp : s.heap.objs.size = p at hn hns
  have I1 : Inv X pins σ (upd H p (dO p oE)) { s with heap := s.heap.push oE } := by
    have := I.laid (a := s.heap.objs.size) (o := dO s.heap.objs.size oE) (h' := s.heap.push oE) (t' := s.toks) (fun _ _ q => Heap.get?_push_of_some _ q) (Nat.le_refl _) (dO_ok (Heap.get?_push_size _ rfl))
    rw [hp] at this
    exact this
  refine wpAny_Dict_any hall hl h0 h15 (thn (h.run pins _ σ _ (fun vs H2 => ∃ G2 ps kvs, Gr G H G2 H2 ∧ PrA X.w X.K G2 vs ps ∧ H2 p = some (dO p oE) ∧ G2 p = none ∧ ps.length ≤ sizeLine ∧ dputs [] ps = .ok kvs ∧ ∀ o', DcH X.w X.K G2 p o' kvs → Q (.ref p) (upd H2 p (dO p o'))) I1 ?_) fun us s2 ⟨vs, H2, I2, rel, G2, ps, kvs, g2, tp, hH2, nG2, hlen, hd, q2⟩ => ?_)
  · have gA := Gr.own (o := dO p oE) r.sub hn
    have rA := r.grow gA
    refine ⟨B, ρ, G, rA, gd_mono (gd_bind.mp q) fun ps q vs G' H' g' tp => ?_⟩
    obtain ⟨hlen, q⟩ := lenOk_in (gd_bind.mp q)
    obtain ⟨kvs, ek, q⟩ := noX_in (gd_bind.mp q)
    have neA : upd H p (dO p oE) p ≠ none := by rw [upd_same]; exact fun z => nomatch z
    have nG : G' p = none := (g'.fix p neA).trans (none_sub r.sub hn)
    refine ⟨G', ps, kvs, gA.trans g', tp, g'.keep p _ upd_same, nG, hlen, ek, fun o' c' => ?_⟩
    exact q p G' _ ((gA.trans g').wr hn nG) hn nG (c'.own upd_same)
  · rw [hp]
    exact store_all (show X.A.units + 9 < cLine by omega) I2 g2.sub hH2 (dcE hns) rel tp hd (by rw [List.length_nil]; omega) nG2 fun s3 o' I3 c' => ⟨.ref p, _, I3, rfl, q2 o' c'⟩⟩
end

/-! ### for k in d -/
def dkOk (kvs : List (D × D)) : Bool := allAt kvs || allTk kvs
/-- the dict's keys -/
def Itdc (K : PySem.W.Frag) (a : Addr) (o : Obj) (ks : List V) : It := ⟨fun i H => DcA K H a o ∧ i < ks.length, fun i H x H' => H' = H ∧ ks[i]? = some x, fun i H => DcA K H a o ∧ ks.length ≤ i⟩
theorem turn_dc {P : Program} {w : World} {K : PySem.W.Frag} {tg : Expr} {a : Addr} {o : Obj} {es : Array DictEntry} {ep : Nat} {ks : List V} (it : Addr) (hod : o.data = .dict es ep) (hsz : es.size = ks.length) (hk : ∀ (i : Nat) (x : V), ks[i]? = some x → ∃ en, es[i]? = some en ∧ RelV x en.key) :
    Turn P w K tg (Itdc K a o ks) [it] it (fun i h => h.IsKeyIter it a i es.size ep) where
  mem := by simp
  obj := fun i h st b hb => by
    have e : b = it := by simpa using hb
    subst e
    obtain ⟨oi, e, c, dd⟩ := st
    exact ⟨oi, e, fun v z => by rw [dd] at z; cases z⟩
  keep := fun i h h' st k => st.at fun oi e => k it (by simp) oi e
  item := by
    intro X hP hw hK hc i pins s σ H E I hf st hg
    subst hP hw hK
    obtain ⟨hd, hi⟩ := hg
    obtain ⟨f0, f1, f2, f3, f4, f5⟩ := hf it (by simp)
    have hgd := dc_at I (Sub.refl H) hd
    obtain ⟨en, hen, hkey⟩ := hk i _ (List.getElem?_eq_getElem hi)
    refine next_key_item st hgd hod rfl hen fun h' st' sb => ?_
    have I1 : Inv X pins σ H { s with heap := h' } := I.turned (t' := s.toks) (fun b ob hb e => (sb.2 b hb).trans e) f0 f1 f3 f4 f5
    obtain ⟨oi, e, c, dd⟩ := id st'
    exact ⟨en.key, rfl, go_of (s := { s with heap := h' }) e c dd (by decide) ⟨ks[i], H, I1, hkey, ⟨rfl, List.getElem?_eq_getElem hi⟩, st', fun b hb => (hf b hb).1⟩⟩
  done := by
    intro X hP hw hK hc i pins s σ H E I hf st hg
    subst hP hw hK
    obtain ⟨hd, hi⟩ := hg
    obtain ⟨f0, f1, f2, f3, f4, f5⟩ := hf it (by simp)
    have hgd := dc_at I (Sub.refl H) hd
    exact next_key_end (I.ok.hd hc) st hgd hod rfl (by rw [hsz]; exact hi) fun h' eb => ⟨rfl, I.turned (t' := s.toks) (fun b ob hb e => eb b ob hb e) f0 f1 f3 f4 f5⟩
  self := fun A i s Q E st h => by
    refine wpAny_pyIter_slot st.typeIs F.slot_dict_keyiterator_iter (wpAny_call_entry F.slot_dict_keyiterator_iter st.typeIs F.entry_dict_keyiterator_iter ?_ (F.args_dict_keyiterator_iter_1 _))
    show wpAny _ _ (PySem.ret (.ref it)) _ _ s
    exact wpAny_pure ⟨_, rfl, "dict_keyiterator", _, st.typeIs, F.slot_dict_keyiterator_next.lookup, h⟩
section
variable {w : World} {K : PySem.W.Frag} {G : Hp}
/-- the keys of a dict, as values -/
theorem es_vals : ∀ {es : List DictEntry} {kvs : List (D × D)}, DtEs w K G es kvs → ∃ ks : List V, DtAll w K G ks (kvs.map (·.1)) ∧ ks.length = es.length ∧ ∀ (i : Nat) (x : V), ks[i]? = some x → ∃ en, es[i]? = some en ∧ RelV x en.key
  | _, _, .nil => ⟨[], .nil, rfl, fun i x h => by simp at h⟩
  | _, _, .cons (e := e) (kv := kv) r1 t1 hh r2 t2 ts => by
    obtain ⟨ks, h1, h2, h3⟩ := es_vals ts
    refine ⟨kv :: ks, .cons t1 h1, by rw [List.length_cons, List.length_cons, h2], fun i x h => ?_⟩
    cases i with
    | zero =>
      simp only [List.getElem?_cons_zero, Option.some.injEq] at h
      subst h
      exact ⟨e, rfl, r1⟩
    | succ j =>
      simp only [List.getElem?_cons_succ] at h ⊢
      exact h3 j x h
end
def itK : D → R (List D)
  | .dict kvs => if dkOk kvs = true then .ok (kvs.map (·.1)) else stk
  | _ => stk
theorem dkOk_scr {d : D} (h : dkOk [(.none, d), (.none, .none)] = true) : False := by simp [dkOk, allAt, allTk, atomK, tk] at h
section
variable {X : Cx} {a tgt : Expr} {e : Bas → Nat → D → Prop} {O : List Nat} {fa : Env' → R D}
theorem i_key (h : PE X a (tV X.w X.K e O fa)) : PI X tgt a (iV X.w X.K e O fun ρ => fa ρ >>= itK) := by
  have h0 : PI X tgt a (fun σ H R => tV X.w X.K e O fa σ H fun x H1 => ∃ A o es ep ks, x = .ref A ∧ DcA X.K H1 A o ∧ (A == sysModules) = false ∧ o.ExactDict ∧ o.data = .dict es ep ∧ es.size = ks.length ∧ (∀ (i : Nat) (x : V), ks[i]? = some x → ∃ en, es[i]? = some en ∧ RelV x en.key) ∧ R (Itdc X.K A o ks) H1) := by
    refine ⟨fun pins s σ H R I hq => ?_⟩
    refine thn (h.run pins s σ H _ I hq) fun u s1 ⟨x, H1, I1, rx, A, o, es, ep, ks, ex, hd, hs, hx, hdt, hsz, hk, q⟩ => ?_
    subst ex
    obtain rfl : u = Value.ref A := rx
    exact iter_keys hs (dc_at I1 (Sub.refl H1) hd) hx hdt (pi_one (tk := s1.toks) I1 _ (turn_dc _ hdt hsz hk) ⟨_, Heap.get?_push_size _ rfl, rfl, rfl⟩ q)
  refine pi_imp h0 fun σ H Q ⟨B, ρ, G, r, q⟩ => ⟨B, ρ, G, r, gd_mono (gd_bind.mp q) fun d q v G1 H1 g1 t => ?_⟩
  unfold itK at q
  split at q
  · split at q
    · rename_i hk
      cases t with
      | scr _ _ => exact (dkOk_scr hk).elim
      | exc _ _ => exact (dkOk_scr hk).elim
      | dct s1 s2 s3 s4 s5 s6 =>
        rename_i A o es ep
        obtain ⟨ks, h1, h2, h3⟩ := es_vals s5
        refine ⟨A, o, es, ep, ks, rfl, s1.sub g1.sub, s2, s3, s4, by rw [h2, Array.length_toList], fun i x hx => by
          obtain ⟨en, e1, e2⟩ := h3 i x hx
          exact ⟨en, by rw [← Array.getElem?_toList]; exact e1, e2⟩, q _ G1 H1 g1 ?_⟩
        have hl := h1.length
        exact {
          go := fun i G' H' q1 q2 hi => ⟨s1.sub (q1.trans q2), by rw [hl]; exact hi⟩
          stop := fun G' H' q1 q2 => ⟨s1.sub (q1.trans q2), by rw [hl]; exact Nat.le_refl _⟩
          yld := fun i d G' H' x H2 q1 q2 hd y => by
            obtain ⟨rfl, y⟩ := y
            obtain ⟨d', e2, t2⟩ := h1.get y
            rw [hd] at e2; cases e2
            exact ⟨G', Gr.refl q2, t2.sub q1⟩ }
    · exact q.elim
  · exact q.elim
end

/-! ### len(d) -/
section
variable {X : Cx} {pins : List (Addr × Obj)} {σ : L2.St} {G H : Hp} {s : Shared} {a : Addr}
theorem dof {o : Obj} {kvs : List (D × D)} (I : Inv X pins σ H s) (sb : Sub G H) (hg : s.heap.get? a = some o) (c : DcH X.w X.K G a o kvs) (ok : dkOk kvs = true) :
    (∃ vs, s.heap.DictOf (mixKind X.prog X.w) a vs ∧ vs.length = kvs.length) ∨ (∃ xs, s.heap.DictOfH (nestedKind X.prog X.w) a xs ∧ xs.length = kvs.length) := by
  obtain ⟨es, ep, hd, t⟩ := c.dat
  unfold dkOk at ok
  rw [Bool.or_eq_true] at ok
  rcases ok with ha | ha
  · obtain ⟨vs, p1, p2⟩ := at_of (P := X.prog) t ha
    have lv : vs.length = kvs.length := by
      have := congrArg List.length (at_keys p2)
      rw [List.length_map, List.length_map] at this
      exact this.symm
    exact .inl ⟨vs, ⟨o, es, ep, hg, c.ex, hd, fun e he => es_keys t ha e (Array.mem_toList_iff.mpr he), p1, at_nd2 p2 c.nd⟩, lv⟩
  · obtain ⟨xs, xe⟩ := ents_of I sb t ha
    obtain ⟨h1, h2, _⟩ := xe.map (P := X.prog)
    have lv : xs.length = kvs.length := by
      have := congrArg List.length (tk_keys (tk_of xe))
      rw [List.length_map, List.length_map] at this
      exact this.symm
    exact .inr ⟨xs, ⟨o, es, ep, hg, c.ex, hd, h1, h2, xe.nodup c.nd⟩, lv⟩
end
def lenE : List D → R D
  | [.dict kvs] => if dkOk kvs = true then lenOk kvs.length >>= fun _ => .ok (.int kvs.length) else lenD [.dict kvs]
  | ds => lenD ds
section
variable {X : Cx}
theorem dct_H {w : World} {K : PySem.W.Frag} {G : Hp} {a : Addr} {o : Obj} {es : Array DictEntry} {ep : Nat} {kvs : List (D × D)} (s2 : (a == sysModules) = false) (s3 : o.ExactDict) (s4 : o.data = .dict es ep) (s5 : DtEs w K G es.toList kvs) (s6 : (kvs.map (·.1)).Nodup) : DcH w K G a o kvs := ⟨s2, s3, ⟨es, ep, s4, s5⟩, s6⟩
theorem c_lenE : CallR X (.builtin "len") (rC X.w X.K lenE) := by
  intro pins s σ H xs us Q I rx ⟨G, ds, e, sb, t, q⟩
  unfold lenE at q
  split at q
  · split at q
    · rename_i ok
      obtain ⟨hl, q⟩ := lenOk_in (gd_bind.mp q)
      cases t with
      | cons t1 t2 =>
        cases t2
        obtain ⟨u, rfl, ru⟩ := vals1 rx
        cases t1 with
        | scr _ _ => exact (dkOk_scr ok).elim
        | exc _ _ => exact (dkOk_scr ok).elim
        | dct s1 s2 s3 s4 s5 s6 =>
          rename_i A o es ep
          obtain rfl : u = Value.ref A := ru
          rcases dof I sb (dc_at I sb s1) (dct_H s2 s3 s4 s5 s6) ok with ⟨vs, d1, l1⟩ | ⟨vs, d1, l1⟩
          · refine call_len_dict s2 d1 (by rw [l1]; rw [sizeLine_eq] at hl; omega) ?_
            rw [l1]
            exact ⟨.int (_ : Nat), H, I.tok _, ⟨_, rfl⟩, q _ G H (Gr.refl sb) (.int _)⟩
          · refine call_len_dictH s2 d1 (by rw [l1]; rw [sizeLine_eq] at hl; omega) ?_
            rw [l1]
            exact ⟨.int (_ : Nat), H, I.tok _, ⟨_, rfl⟩, q _ G H (Gr.refl sb) (.int _)⟩
    · exact c_len pins s σ H xs us Q I rx ⟨G, _, e, sb, t, q⟩
  · exact c_len pins s σ H xs us Q I rx ⟨G, _, e, sb, t, q⟩
end

/-! ### d.get(k), d.get(k, x) -/
def asDk : D → R (List (D × D))
  | .dict kvs => if dkOk kvs = true then .ok kvs else stk
  | _ => stk
section
variable {X : Cx} {o a b : Expr} {apos cpos : Pos} {e : Bas → Nat → D → Prop} {O : List Nat} {fo fa fb : Env' → R D}
theorem asDk_in {e : Nat → D → Prop} {d : D} {v : V} {G : Hp} {q : List (D × D) → Prop} (t : Dt X.w X.K G v d) (h : gd (asDk d) q e) : ∃ A ob kvs, v = .ref A ∧ DcA X.K G A ob ∧ DcH X.w X.K G A ob kvs ∧ q kvs := by
  unfold asDk at h
  split at h
  · split at h
    · rename_i ok
      cases t with
      | scr _ _ => exact (dkOk_scr ok).elim
      | exc _ _ => exact (dkOk_scr ok).elim
      | dct s1 s2 s3 s4 s5 s6 => exact ⟨_, _, _, rfl, s1, dct_H s2 s3 s4 s5 s6, h⟩
    · exact h.elim
  · exact h.elim
theorem v_get1 (hu : X.A.units + 65 < cLine) (ho : PE X o (tV X.w X.K e O fo)) (ha : PE X a (tV X.w X.K e O fa)) (m : M1 X o "get" apos a cpos := by exact ⟨rfl, rfl, rfl, rfl⟩) : PE X (.Call (.Attribute o "get" apos) [a] [] cpos)
    (tV X.w X.K e O fun ρ => fo ρ >>= asDk >>= fun kvs => fa ρ >>= fun k => dgD kvs k >>= fun r => .ok (r.getD .none)) := by
  refine ⟨fun pins s σ H Q I ⟨B, ρ, G, r, q⟩ => ?_⟩
  refine wpAny_Call_method m.base m.few m.line PySem.F.plainAttrs_dict PySem.F.slot_dict_get PySem.F.type_dict_get (thn (ho.run pins s σ H (fun x H1 => ∃ A ob kvs G1, x = .ref A ∧ Sub G1 H1 ∧ DcA X.K G1 A ob ∧ DcH X.w X.K G1 A ob kvs ∧ tV X.w X.K e O fa σ H1 fun y H2 => ∃ G2 dk, Sub G1 G2 ∧ Sub G2 H2 ∧ Dt X.w X.K G2 y dk ∧ putOk kvs dk = true ∧ ∀ v, Dt X.w X.K G2 v ((dfind kvs dk).getD .none) → Q v H2) I ?_) fun u s1 ⟨x, H1, I1, rx, A, ob, kvs, G1, ex, sb1, dc, c, q1⟩ => ?_)
  · refine ⟨B, ρ, G, r, gd_mono (gd_bind.mp (gd_bind.mp q)) fun d q v G1 H1 g1 t => ?_⟩
    obtain ⟨A, ob, kvs, rfl, h1, h2, q⟩ := asDk_in t q
    refine ⟨A, ob, kvs, G1, rfl, g1.sub, h1, h2, B, ρ, G1, r.grow g1, gd_mono (gd_bind.mp q) fun dk q y G2 H2 g2 ty => ?_⟩
    have q := gd_bind.mp q
    unfold dgD at q
    split at q
    · rename_i ok
      exact ⟨G2, dk, g2.up g1.sub, g2.sub, ty, ok, fun v t => q v G2 H2 (g1.trans g2) t⟩
    · exact q.elim
  · subst ex
    obtain rfl : u = Value.ref A := rx
    have hg := dc_at I1 sb1 dc
    refine ⟨⟨ob, hg, c.ex.1⟩, fun b q => by cases q; exact ⟨ob, hg, c.ex.2.1⟩, ?_⟩
    rw [m.trees]
    refine Calls.callWith_builtin rfl (Calls.evalArgs_plain (Calls.spliced_cons (thn (ha.run pins s1 σ H1 _ I1 q1) fun iv s2 ⟨y, H2, I2, ry, G2, dk, sg, sb2, ty, ok, q2⟩ => Calls.spliced_nil ?_)))
    exact dget1_core (show X.A.units + 9 < cLine by omega) I2 sb2 (dc_at I2 sb2 (dc.sub sg)) (c.sub sg) ry ty ok fun vv u' s3 I3 r3 t3 => ⟨vv, H2, I3, r3, q2 vv t3⟩
theorem v_get2 (hu : X.A.units + 65 < cLine) (ho : PE X o (tV X.w X.K e O fo)) (ha : PE X a (tV X.w X.K e O fa)) (hb : PE X b (tV X.w X.K e O fb)) (m : M2 X o "get" apos a b cpos := by exact ⟨rfl, rfl, rfl, rfl⟩) : PE X (.Call (.Attribute o "get" apos) [a, b] [] cpos)
    (tV X.w X.K e O fun ρ => fo ρ >>= asDk >>= fun kvs => fa ρ >>= fun k => fb ρ >>= fun z => dgD kvs k >>= fun r => .ok (r.getD z)) := by
  refine ⟨fun pins s σ H Q I ⟨B, ρ, G, r, q⟩ => ?_⟩
  refine wpAny_Call_method m.base m.few m.line PySem.F.plainAttrs_dict PySem.F.slot_dict_get PySem.F.type_dict_get (thn (ho.run pins s σ H (fun x H1 => ∃ A ob kvs G1, x = .ref A ∧ Sub G1 H1 ∧ DcA X.K G1 A ob ∧ DcH X.w X.K G1 A ob kvs ∧ tV X.w X.K e O fa σ H1 fun y H2 => tV X.w X.K e O fb σ H2 fun z H3 => ∃ G3 dk dz, Sub G1 G3 ∧ Sub G3 H3 ∧ Dt X.w X.K G3 y dk ∧ Dt X.w X.K G3 z dz ∧ putOk kvs dk = true ∧ ∀ v, Dt X.w X.K G3 v ((dfind kvs dk).getD dz) → Q v H3) I ?_) fun u s1 ⟨x, H1, I1, rx, A, ob, kvs, G1, ex, sb1, dc, c, q1⟩ => ?_)
  · refine ⟨B, ρ, G, r, gd_mono (gd_bind.mp (gd_bind.mp q)) fun d q v G1 H1 g1 t => ?_⟩
    obtain ⟨A, ob, kvs, rfl, h1, h2, q⟩ := asDk_in t q
    refine ⟨A, ob, kvs, G1, rfl, g1.sub, h1, h2, B, ρ, G1, r.grow g1, gd_mono (gd_bind.mp q) fun dk q y G2 H2 g2 ty => ⟨B, ρ, G2, (r.grow g1).grow g2, gd_mono (gd_bind.mp q) fun dz q z G3 H3 g3 tz => ?_⟩⟩
    have q := gd_bind.mp q
    unfold dgD at q
    split at q
    · rename_i ok
      exact ⟨G3, dk, dz, (g2.trans g3).up g1.sub, g3.sub, ty.sub (g3.up g2.sub), tz, ok, fun v t => q v G3 H3 ((g1.trans g2).trans g3) t⟩
    · exact q.elim
  · subst ex
    obtain rfl : u = Value.ref A := rx
    have hg := dc_at I1 sb1 dc
    refine ⟨⟨ob, hg, c.ex.1⟩, fun b q => by cases q; exact ⟨ob, hg, c.ex.2.1⟩, ?_⟩
    rw [m.trees]
    refine Calls.callWith_builtin rfl (Calls.evalArgs_plain (Calls.spliced_cons (thn (ha.run pins s1 σ H1 _ I1 q1) fun iv s2 ⟨y, H2, I2, ry, q2⟩ =>
      Calls.spliced_cons (thn (hb.run pins s2 σ H2 _ I2 q2) fun fv s3 ⟨z, H3, I3, rz, G3, dk, dz, sg, sb3, ty, tz, ok, q3⟩ => Calls.spliced_nil ?_))))
    exact dget2_core (show X.A.units + 9 < cLine by omega) I3 sb3 (dc_at I3 sb3 (dc.sub sg)) (c.sub sg) ry ty rz tz ok fun vv u' s4 I4 r4 t4 => ⟨vv, H3, I4, r4, q3 vv t4⟩
end

/-! ### list(range(..)), range with a step -/
section
variable {X : Cx} {a b c : Expr} {p p2 pos pos2 : Pos} {e : Bas → Nat → D → Prop} {O : List Nat} {fa fb : Env' → R D} {fs : Env' → R (List D)}
def lrD (i j : Int) : R D := if i.natAbs < 4611686018427387904 ∧ j.natAbs < 4611686018427387904 ∧ (j - i).toNat ≤ 16777216 then .ok (.list (rgD i (j - i).toNat)) else stk
theorem rg_dt {w : World} {K : PySem.W.Frag} {G : Hp} (i j : Int) : DtAll w K G (rgV i j) (rgD i (j - i).toNat) := by
  unfold rgV rgD
  generalize List.range (j - i).toNat = l
  induction l with
  | nil => exact .nil
  | cons x l ih => exact .cons (.int _) ih
theorem o_lr1 (hc : X.calm = true) (hm : X.mg "list" = none) (hm2 : X.mg "range" = none) (ha : PE X a (tV X.w X.K e O fa)) (hg : Gl X "list" := by rfl) (hg2 : Gl X "range" := by rfl)
    (na : starEach [.Call (.Name "range" p2) [a] [] pos2] X.env = (false, eval (.Call (.Name "range" p2) [a] [] pos2) X.env) :: starEach [] X.env := by rfl) (na2 : starEach [a] X.env = (false, eval a X.env) :: starEach [] X.env := by rfl) :
    PE X (.Call (.Name "list" p) [.Call (.Name "range" p2) [a] [] pos2] [] pos) (tO X.w X.K e O fun ρ => fa ρ >>= fun d => asI d >>= fun i => lrD 0 i) := by
  refine pe_imp (pe_listRg hc hg hm (prg_1 hg2 hm2 ha na2) na) fun σ H Q ⟨B, ρ, G, r, q⟩ => ⟨B, ρ, G, r, gd_mono (gd_bind.mp q) fun d q v G1 H1 g1 t => ?_⟩
  obtain ⟨i, rfl, q⟩ := asI_in t (gd_bind.mp q)
  unfold lrD at q
  split at q
  · rename_i hh
    refine ⟨i, rfl, ⟨(p62 hh.1).1, (p62 hh.1).2, (p62 hh.2.1).1, (p62 hh.2.1).2, by have := hh.2.2; omega⟩, fun z nz => ?_⟩
    obtain ⟨x1, x2, x3⟩ := own_new g1.sub nz (rg_dt (w := X.w) (K := X.K) 0 i)
    exact q z G1 _ (g1.trans x1) (by
      cases y : H z with
      | none => rfl
      | some o => rw [g1.keep z o y] at nz; cases nz) x2 x3
  · exact q.elim
theorem o_lr2 (hc : X.calm = true) (hm : X.mg "list" = none) (hm2 : X.mg "range" = none) (ha : PE X a (tV X.w X.K e O fa)) (hb : PE X b (tV X.w X.K e O fb)) (hg : Gl X "list" := by rfl) (hg2 : Gl X "range" := by rfl)
    (na : starEach [.Call (.Name "range" p2) [a, b] [] pos2] X.env = (false, eval (.Call (.Name "range" p2) [a, b] [] pos2) X.env) :: starEach [] X.env := by rfl) (na2 : starEach [a, b] X.env = (false, eval a X.env) :: starEach [b] X.env := by rfl) (na3 : starEach [b] X.env = (false, eval b X.env) :: starEach [] X.env := by rfl) (hpl : (backTo pos2 (starEach [b] X.env)).any (·.1) = false := by rfl) :
    PE X (.Call (.Name "list" p) [.Call (.Name "range" p2) [a, b] [] pos2] [] pos) (tO X.w X.K e O fun ρ => fa ρ >>= fun d => fb ρ >>= fun d2 => asI d >>= fun i => asI d2 >>= fun j => lrD i j) := by
  refine pe_imp (pe_listRg hc hg hm (prg_2 hg2 hm2 ha hb na2 na3 hpl) na) fun σ H Q ⟨B, ρ, G, r, q⟩ => ⟨B, ρ, G, r, gd_mono (gd_bind.mp q) fun d q v G1 H1 g1 t => ⟨B, ρ, G1, r.grow g1, gd_mono (gd_bind.mp q) fun d2 q v2 G2 H2 g2 t2 => ?_⟩⟩
  obtain ⟨i, rfl, q⟩ := asI_in t (gd_bind.mp q)
  obtain ⟨j, rfl, q⟩ := asI_in t2 (gd_bind.mp q)
  unfold lrD at q
  split at q
  · rename_i hh
    refine ⟨i, j, rfl, rfl, ⟨(p62 hh.1).1, (p62 hh.1).2, (p62 hh.2.1).1, (p62 hh.2.1).2, by have := hh.2.2; omega⟩, fun z nz => ?_⟩
    obtain ⟨x1, x2, x3⟩ := own_new g2.sub nz (rg_dt (w := X.w) (K := X.K) i j)
    exact q z G2 _ ((g1.trans g2).trans x1) (by
      cases y : H z with
      | none => rfl
      | some o => rw [(g1.trans g2).keep z o y] at nz; cases nz) x2 x3
  · exact q.elim
end
end Vs

set_option Elab.async false
set_option linter.all false
set_option maxRecDepth 100000
/-! order, min and max of any alike data; tuple(x); lists times a number; enumerate of tuples; ranges down; constants that are tuples, dicts. -/
namespace Vs
open PySem PySem.Spec PyProof.Rows L2
open PySem.W (EachIs)

/-! ### a < b -/
def cmpOk (d : D) : Bool := d.canLay0 && decide (d.depth ≤ 60) && (match d with | .none => false | _ => true)
def ltE (a b : D) : R D := match a, b with
  | .int i, .int j => .ok (.bool (decide (i < j)))
  | a, b => if (cmpOk a && cmpOk b && PySem.W.alike a b) = true then .ok (.bool (PySem.W.dataLt a b)) else stk
theorem cmpOk_is {d : D} (h : cmpOk d = true) : d.canLay0 = true ∧ d.depth ≤ 60 ∧ d ≠ .none := by
  unfold cmpOk at h
  rw [Bool.and_eq_true, Bool.and_eq_true, decide_eq_true_eq] at h
  refine ⟨h.1.1, h.1.2, fun e => ?_⟩
  rw [e] at h
  exact Bool.false_ne_true h.2
section
variable {X : Cx}
theorem lt_both (hu : X.A.units + 65 < cLine) {pins : List (Addr × Obj)} {s : Shared} {σ : L2.St} {G H : Hp} {x y : V} {v u : Value} {da db : D} (I : Inv X pins σ H s) (rx : RelV x v) (ry : RelV y u) (sb : Sub G H) (t1 : Dt X.w X.K G x da) (t2 : Dt X.w X.K G y db) (h : (cmpOk da && cmpOk db && PySem.W.alike da db) = true) :
    ∀ (E : Value → Shared → Prop) (Q : Value → Shared → Prop), Q (.bool (PySem.W.dataLt da db)) s → wpAny (model X.prog X.w) X.A (compareOp .Lt v u) Q E s := by
  intro E Q q
  rw [Bool.and_eq_true, Bool.and_eq_true] at h
  obtain ⟨a1, a2, a3⟩ := cmpOk_is h.1.1
  obtain ⟨b1, b2, b3⟩ := cmpOk_is h.1.2
  obtain ⟨as, r1⟩ := Dp.reads I da x v (t1.dp sb a1) rx
  obtain ⟨bs, r2⟩ := Dp.reads I db y u (t2.dp sb b1) ry
  show wpAny _ _ (richCompare .Lt v u) Q E s
  refine PySem.W.rcLt_alike da db X.A s v u as bs r1 r2 h.2 a3 ?_ X.prog X.w E Q q
  have := Nat.min_le_left da.depth db.depth
  omega
theorem d_ltE (hu : X.A.units + 65 < cLine) : OpR X (compareOp .Lt) (r2 X.w X.K ltE) := by
  intro pins s σ H x y v u Q I rx ry ⟨G, da, db, e, sb, t1, t2, q⟩
  unfold ltE at q
  split at q
  · exact d_lt pins s σ H x y v u Q I rx ry ⟨G, _, _, e, sb, t1, t2, q⟩
  · split at q
    · rename_i h
      exact lt_both hu I rx ry sb t1 t2 h _ _ ⟨.bl _, H, I, rfl, q _ G H (Gr.refl sb) (.bl _)⟩
    · exact q.elim
end

/-! ### min, max of a list of alike data -/
def mmOk (ds : List D) : Bool := ds.all fun d => cmpOk d && ds.all fun d' => PySem.W.alike d d'
def minE : List D → R D
  | [.list (d :: ds)] => if mmOk (d :: ds) = true then .ok (PySem.W.minD d ds) else stk
  | [.tuple (d :: ds)] => if mmOk (d :: ds) = true then .ok (PySem.W.minD d ds) else stk
  | _ => stk
def maxE : List D → R D
  | [.list (d :: ds)] => if mmOk (d :: ds) = true then .ok (PySem.W.maxD d ds) else stk
  | [.tuple (d :: ds)] => if mmOk (d :: ds) = true then .ok (PySem.W.maxD d ds) else stk
  | _ => stk
theorem mmOk_is {ds : List D} (h : mmOk ds = true) : (∀ d ∈ ds, d.canLay0 = true ∧ d.depth ≤ 60) ∧ PySem.W.AlikeAll ds := by
  unfold mmOk at h
  rw [List.all_eq_true] at h
  have k : ∀ d ∈ ds, cmpOk d = true ∧ ∀ d' ∈ ds, PySem.W.alike d d' = true := fun d hd => by
    have := h d hd
    rw [Bool.and_eq_true, List.all_eq_true] at this
    exact this
  exact ⟨fun d hd => let ⟨a, b, _⟩ := cmpOk_is (k d hd).1; ⟨a, b⟩, fun x hx y hy => (k x hx).2 y hy, fun x hx => (cmpOk_is (k x hx).1).2.2⟩
theorem fold_mem {α : Type} (f : α → α → Bool) : ∀ (xs : List α) (x : α), xs.foldl (fun a y => if f y a then y else a) x ∈ x :: xs
  | [], x => List.mem_singleton_self _
  | y :: ys, x => by
    rw [List.foldl_cons]
    rcases List.mem_cons.mp (fold_mem f ys (if f y x = true then y else x)) with e | e
    · rw [e]
      split
      · exact List.mem_cons_of_mem _ List.mem_cons_self
      · exact List.mem_cons_self
    · exact List.mem_cons_of_mem _ (List.mem_cons_of_mem _ e)
theorem reads_all {h : Heap} : ∀ {us : List Value} {ds : List D}, EachIs (fun v b => ∃ as, Reads h v b as) us ds → ∃ as, ReadsAll h us ds as
  | _, _, .nil => ⟨_, .nil⟩
  | _, _, .cons ⟨as, r⟩ e => by
    obtain ⟨bs, rs⟩ := reads_all e
    exact ⟨_, .cons r rs⟩
theorem each_get {α β : Type} {P : α → β → Prop} : ∀ {us : List α} {ds : List β}, EachIs P us ds → ∀ (i : Nat) (v : α), us[i]? = some v → ∃ d, ds[i]? = some d ∧ P v d
  | _, _, .nil, i, v, h => by simp at h
  | _, _, .cons r e, 0, v, h => by simp at h; subst h; exact ⟨_, rfl, r⟩
  | _, _, .cons r e, i + 1, v, h => by
    obtain ⟨d, h1, h2⟩ := each_get e i v (by simpa using h)
    exact ⟨d, by simpa using h1, h2⟩
theorem depth_all : ∀ {ds : List D}, (∀ d ∈ ds, d.depth ≤ 60) → PyData.depthAll ds ≤ 60
  | [], _ => Nat.zero_le _
  | d :: ds, h => by
    show max d.depth (PyData.depthAll ds) ≤ 60
    exact Nat.max_le.mpr ⟨h d List.mem_cons_self, depth_all fun d hd => h d (List.mem_cons_of_mem _ hd)⟩
section
variable {X : Cx}
theorem mm_run (hu : X.A.units + 65 < cLine) {pins : List (Addr × Obj)} {σ : L2.St} {G H : Hp} {s : Shared} {its : List Value} {ys : List V} {d m : D} {ds : List D} {Q : VK} {e : Nat → D → Prop} (I : Inv X pins σ H s) (sb : Sub G H) (rv : Vals ys its) (a1 : DtAll X.w X.K G ys (d :: ds)) (ok : mmOk (d :: ds) = true) (hm : m ∈ d :: ds)
    (q : ∀ v G' H', Gr G H G' H' → Dt X.w X.K G' v m → Q v H') :
    ∃ as, ReadsAll s.heap its (d :: ds) as ∧ PySem.W.AlikeAll (d :: ds) ∧ PyData.depthAll (d :: ds) ≤ 60 ∧ ∀ (i : Nat) (v : Value) (h' : Heap) (tk : Nat) (bs : List Addr), its[i]? = some v → Reads h' v m bs → (∀ b o, s.heap.get? b = some o → h'.get? b = some o) → EP X pins σ Q v { s with heap := h', toks := tk } := by
  obtain ⟨k1, k2⟩ := mmOk_is ok
  have ea := rd_of rv a1
  obtain ⟨as, ra⟩ := reads_all (rd_reads I sb k1 ea)
  refine ⟨as, ra, k2, depth_all fun d hd => (k1 d hd).2, fun i v h' tk bs hv hr hk => ?_⟩
  obtain ⟨d0, e0, v0, r0, t0⟩ := each_get ea i v hv
  obtain ⟨d1, e1, as1, r1⟩ := each_get (rd_reads I sb k1 ea) i v hv
  rw [e0] at e1; cases e1
  have m0 : d0 ∈ d :: ds := List.mem_of_getElem? e0
  have := PySem.W.alike_unique d0 m v as1 bs (k2.1 _ m0 _ hm) (Reads.keeps hk r1) hr
  subst this
  exact ⟨v0, H, I.kept hk, r0, q v0 G H (Gr.refl sb) t0⟩
theorem c_minE (hu : X.A.units + 65 < cLine) (hc : X.calm = true) : CallR X (.builtin "min") (rC X.w X.K minE) := by
  intro pins s σ H xs us Q I rx ⟨G, ds, e, sb, t, q⟩
  unfold minE at q
  split at q
  · split at q
    · rename_i d ds ok
      cases t with
      | cons t1 t2 =>
        cases t2
        cases t1 with
        | lst s1 a1 =>
          obtain ⟨its, rv, hl, hz⟩ := I.list (Rd.sq (Rd.sub sb s1))
          rw [Vals.ref1 rx]
          obtain ⟨as, h1, h2, h3, h4⟩ := mm_run hu I sb rv a1 ok (fold_mem (fun y a => PySem.W.dataLt y a) ds d) (Q := Q) (e := e) q
          exact PySem.W.min_list_data (I.ok.hd hc) hl.isList h1 h2 (by omega) fun i v h' tk bs hv hr hk => h4 i v h' tk bs (by simpa using hv) hr hk
    · exact q.elim
  · split at q
    · rename_i d ds ok
      cases t with
      | cons t1 t2 =>
        cases t2
        cases t1 with
        | tup s1 a1 =>
          obtain ⟨its, rv, hl, hz⟩ := I.tuple (SqT.sub sb s1)
          rw [Vals.ref1 rx]
          obtain ⟨as, h1, h2, h3, h4⟩ := mm_run hu I sb rv a1 ok (fold_mem (fun y a => PySem.W.dataLt y a) ds d) (Q := Q) (e := e) q
          exact PySem.W.min_tuple_data (I.ok.hd hc) (show s.heap.IsTuple _ its.toArray from hl) h1 h2 (by omega) fun i v h' tk bs hv hr hk => h4 i v h' tk bs (by simpa using hv) hr hk
    · exact q.elim
  · exact q.elim
theorem c_maxE (hu : X.A.units + 65 < cLine) (hc : X.calm = true) : CallR X (.builtin "max") (rC X.w X.K maxE) := by
  intro pins s σ H xs us Q I rx ⟨G, ds, e, sb, t, q⟩
  unfold maxE at q
  split at q
  · split at q
    · rename_i d ds ok
      cases t with
      | cons t1 t2 =>
        cases t2
        cases t1 with
        | lst s1 a1 =>
          obtain ⟨its, rv, hl, hz⟩ := I.list (Rd.sq (Rd.sub sb s1))
          rw [Vals.ref1 rx]
          obtain ⟨as, h1, h2, h3, h4⟩ := mm_run hu I sb rv a1 ok (fold_mem (fun y a => PySem.W.dataLt a y) ds d) (Q := Q) (e := e) q
          exact PySem.W.max_list_data (I.ok.hd hc) hl.isList h1 h2 (by omega) fun i v h' tk bs hv hr hk => h4 i v h' tk bs (by simpa using hv) hr hk
    · exact q.elim
  · split at q
    · rename_i d ds ok
      cases t with
      | cons t1 t2 =>
        cases t2
        cases t1 with
        | tup s1 a1 =>
          obtain ⟨its, rv, hl, hz⟩ := I.tuple (SqT.sub sb s1)
          rw [Vals.ref1 rx]
          obtain ⟨as, h1, h2, h3, h4⟩ := mm_run hu I sb rv a1 ok (fold_mem (fun y a => PySem.W.dataLt a y) ds d) (Q := Q) (e := e) q
          exact PySem.W.max_tuple_data (I.ok.hd hc) (show s.heap.IsTuple _ its.toArray from hl) h1 h2 (by omega) fun i v h' tk bs hv hr hk => h4 i v h' tk bs (by simpa using hv) hr hk
    · exact q.elim
  · exact q.elim

/-! ### tuple(x) -/
def tupleD : List D → R D
  | [.list ds] => .ok (.tuple ds)
  | [.tuple ds] => .ok (.tuple ds)
  | _ => stk
theorem c_tuple : CallR X (.type "tuple") (rC X.w X.K tupleD) := callr_imp call_tuple_of fun xs H Q ⟨G, ds, e, sb, t, q⟩ => by
  unfold tupleD at q
  split at q
  · cases t with
    | cons t1 t2 =>
      cases t2
      cases t1 with
      | @lst a0 xs1 _ s1 a1 =>
        refine ⟨_, _, rfl, .inl ⟨Rd.sq (Rd.sub sb s1), fun p np => ?_⟩⟩
        have g2 := Gr.new (o := .tup xs1) sb np
        exact q _ _ _ g2 (.tup (.inl (.inl upd_same)) (a1.sub (g2.up sb)))
  · cases t with
    | cons t1 t2 =>
      cases t2
      cases t1 with
      | tup s1 a1 => exact ⟨_, _, rfl, .inr ⟨SqT.sub sb s1, q _ G H (Gr.refl sb) (.tup s1 a1)⟩⟩
  · exact q.elim

/-! ### a list, so many times -/
def repL (ds : List D) (k : Int) : List D := (List.replicate k.toNat ds).flatten
theorem rep_dt {w : World} {K : PySem.W.Frag} {G : Hp} {vs : List V} {ds : List D} (t : DtAll w K G vs ds) : ∀ k : Nat, DtAll w K G (List.replicate k vs).flatten (List.replicate k ds).flatten
  | 0 => .nil
  | k + 1 => by
    rw [List.replicate_succ, List.replicate_succ, List.flatten_cons, List.flatten_cons]
    exact t.append (rep_dt t k)
theorem rep_rd : OpR X (binaryOp .Mult) (fun x y H Q => ∃ l k xs, x = .ref l ∧ y = .int k ∧ Rd H l (.lst xs) ∧ -(2 ^ 63) ≤ k ∧ k < 2 ^ 63 ∧ xs.length * k.toNat ≤ sizeLine ∧
  ∀ p, H p = none → Q (.ref p) (upd H p (.lst (List.replicate k.toNat xs).flatten))) := by
  intro pins s σ H x y v u Q I rx ry h
  obtain ⟨l, k, xs, rfl, rfl, hH, h1, h2, hz, q⟩ := h
  rcases hH with hH | ⟨o, hH⟩
  · exact op_rep pins s σ H _ _ v u Q I rx ry ⟨l, k, xs, rfl, rfl, hH, h1, h2, hz, q⟩
  · cases rx
    obtain ⟨t, rfl⟩ := ry
    obtain ⟨z, its, n, r, e⟩ := lst_at I (.inr ⟨o, hH⟩)
    have hl := r.length
    have hlen : its.toArray.size * k.toNat ≤ sizeLine := by rw [List.size_toArray, ← hl]; exact hz
    have hcap : ¬ its.toArray.size * k.toNat > (2 ^ 63 - 1) / 8 := by
      have : (sizeLine : Nat) ≤ (2 ^ 63 - 1) / 8 := by decide
      omega
    have hfit : ¬ (!Builtin.List.listFitsIndex k) = true := by
      rw [fitsIndex_both h1 h2]
      exact Bool.false_ne_true
    have hlong : ¬ Builtin.List.listTooLong (its.toArray.size * k.toNat) = true := by
      rw [notLongL hlen]
      exact Bool.false_ne_true
    have hnew : List.foldl (fun x1 x2 => x1 ++ x2) #[] (List.replicate (if its.toArray.isEmpty = true then 0 else k.toNat) its.toArray) = (List.replicate k.toNat its).flatten.toArray := by
      have f0 : ∀ m : Nat, List.foldl (fun x1 x2 => x1 ++ x2) #[] (List.replicate m its.toArray) = (List.replicate m its).flatten.toArray := fun m => by
        have := foldl_rep its m []
        rw [List.nil_append] at this
        exact this
      rw [f0]
      cases its with
      | nil => simp
      | cons a r' => rw [if_neg (by simp)]
    refine wpAny_binaryOp_repeat_ref (T := "list") (U := "int") (by decide) ⟨_, e, rfl⟩ (fun s' => typeIs_int s' k t) noFill_list_mul PySem.F.fills_int_mul PySem.F.slot_int_rmul repeat_list PySem.F.slot_int_index.lookup
      (call_meets PySem.F.slot_int_rmul (typeIs_int s k t) PySem.F.entry_int_rmul (PySem.F.args_int_rmul_2 _ _) (int___rmul___int_list k t l its.toArray n)
        ⟨e, rfl, ⟨_, e, rfl⟩, call_meets PySem.F.slot_list_mul ⟨_, e, rfl⟩ PySem.F.entry_list_mul (PySem.F.args_list_mul_2 _ _) (AutoListH.list___mul___list_int_3 l its.toArray n k t hfit hcap hlong) ⟨e, ?_⟩⟩)
    rw [hnew]
    exact ⟨.ref _, _, I.lnew (t' := s.toks) (r.rep k.toNat) (by rw [PyProof.Rows.lm_len_rep_flat, Nat.mul_comm]; exact hz), rfl, q _ I.fresh⟩
def mulE (a b : D) : R D := match a, b with
  | .list ds, .int k => if -9223372036854775808 ≤ k ∧ k < 9223372036854775808 ∧ ds.length * k.toNat ≤ 16777216 then .ok (.list (repL ds k)) else stk
  | a, b => mulD a b
theorem p63 {k : Int} (h : -9223372036854775808 ≤ k ∧ k < 9223372036854775808) : -(2 ^ 63) ≤ k ∧ k < 2 ^ 63 := by
  have e : (2 : Int) ^ 63 = 9223372036854775808 := by decide
  rw [e]; exact h
theorem d_mulE : OpR X (binaryOp .Mult) (r2 X.w X.K mulE) := by
  intro pins s σ H x y v u Q I rx ry ⟨G, da, db, e, sb, t1, t2, q⟩
  unfold mulE at q
  split at q
  · split at q
    · rename_i ds k h
      cases t1 with
      | lst s1 a1 =>
        cases t2
        refine rep_rd pins s σ H _ _ v u Q I rx ry ⟨_, k, _, rfl, rfl, Rd.sub sb s1, (p63 ⟨h.1, h.2.1⟩).1, (p63 ⟨h.1, h.2.1⟩).2, by rw [a1.length, sizeLine_eq]; exact h.2.2, fun p np => ?_⟩
        rename_i a0 xs1
        have g2 := Gr.new (o := .lst (List.replicate k.toNat xs1).flatten) sb np
        exact q _ _ _ g2 (.lst (.inl upd_same) ((rep_dt a1 k.toNat).sub (g2.up sb)))
    · exact q.elim
  · exact d_mul pins s σ H x y v u Q I rx ry ⟨G, _, _, e, sb, t1, t2, q⟩
end
end Vs

set_option Elab.async false
set_option linter.all false
set_option maxRecDepth 100000
/-! enumerate of tuples and texts; ranges down; constants that are tuples, dicts. -/
namespace PySem
open Sem (wp)
set_option maxHeartbeats 1000000 in
theorem meets_enumerate_newB1 {v : Value} {o : Obj} {H : Heap → Prop} (B : Begins v o H) :
    Meets (Builtin.«enumerate.__new__» ⟨[.type "enumerate", v], []⟩) (fun _ R s => H s.heap ∧
      R (.ok (.ret (.ref (s.heap.push o).objs.size))) { s with heap := (s.heap.push o).push { cls := .type "enumerate", data := .fields #[.none, .bool false, .ref s.heap.objs.size, rawInt 0, .none, .none] } }) :=
  .of_wp fun prog w A R s h => by
    obtain ⟨hp, g, d, tk, os⟩ := s; obtain ⟨h1, h⟩ := h
    have hsub := sub_enumerate
    have q1 : ∀ {A' : Around} {E : Value → Shared → Prop} {Q : Value → Shared → Prop}, Q (.ref hp.objs.size) ⟨hp.push o, g, d, tk, os⟩ → wpAny (model prog w) A' (pyIter v) Q E ⟨hp, g, d, tk, os⟩ :=
      fun q => B.iter prog w _ _ ⟨hp, g, d, tk, os⟩ _ h1 q
    wp_walk using q1
    refine wpAny_stack_any fun st => wpAny_pure ?_
    split
    · rename_i c _ _ _ _ _
      cases (c == Value.type "enumerate")
      · wp_walk using q1
        exact ⟨_, rfl, h⟩
      · wp_walk using q1
        exact ⟨_, rfl, h⟩
    · wp_walk using q1
      exact ⟨_, rfl, h⟩
theorem enum_begins1 {prog : Program} {w : World} {A : Around} {E : Value → Shared → Prop} {s : Shared} {v : Value} {o : Obj} {H : Heap → Prop} {Q : Value → Shared → Prop} (B : Begins v o H) (h1 : H s.heap)
    (h : ∀ h', IsEnum h' (s.heap.objs.size + 1) s.heap.objs.size 0 .none → h'.get? s.heap.objs.size = some o → h'.objs.size = s.heap.objs.size + 2 →
      (∀ b o, s.heap.get? b = some o → h'.get? b = some o) → Q (.ref (s.heap.objs.size + 1)) { s with heap := h' }) :
    wpAny (model prog w) A (call (.type "enumerate") [v]) Q E s := by
  refine callType_new F.called_enumerate (by decide) (F.typeCall_enumerate_1 _) (F.newCall_enumerate_1 _) (fun obj => F.args_object_init_2 obj _) F.entry_enumerate_new
    (meets_enumerate_newB1 B) ⟨h1, ?_⟩
  have hz : (s.heap.push o).objs.size = s.heap.objs.size + 1 := Heap.size_push ..
  show _ ∧ _
  rw [hz]
  have he : IsEnum ((s.heap.push o).push { cls := .type "enumerate", data := .fields #[.none, .bool false, .ref s.heap.objs.size, rawInt 0, .none, .none] }) (s.heap.objs.size + 1) s.heap.objs.size 0 .none := by
    have := Heap.get?_push_size (s.heap.push o) (o := { cls := .type "enumerate", data := .fields #[.none, .bool false, .ref s.heap.objs.size, rawInt 0, .none, .none] }) rfl
    rw [hz] at this; exact this
  refine ⟨⟨_, he, rfl⟩, h _ he (Heap.get?_push_of_some _ (Heap.get?_push_size _ B.free)) (by rw [Heap.size_push, hz]) fun b o x => Heap.get?_push_of_some _ (Heap.get?_push_of_some _ x)⟩
end PySem
namespace Vs
open PySem PySem.Spec PyProof.Rows L2

/-! ### enumerate(t) -/
/-- the frozen items vs, each in a new pair; ok: where they stand -/
def ItE (ok : Hp → Prop) (vs : List V) : It := ⟨fun i H => ok H ∧ i < vs.length, fun i H v H' => ∃ T x, v = .ref T ∧ H T = none ∧ H' = upd H T (.tup [.int (i : Nat), x]) ∧ vs[i]? = some x, fun i H => ok H ∧ vs.length = i⟩
/-- what an iterator's cell it draws: the values vs, told in every state in which ok holds -/
structure Src (P : Program) (w : World) (K : PySem.W.Frag) (it : Addr) (vs : List V) (ok : Hp → Prop) (tn : Nat → Heap → Prop) : Prop where
  live : ∀ i h, tn i h → ∃ o, h.get? it = some o ∧ ∀ v, o.data ≠ .cell v
  keep : ∀ i h h', tn i h → (∀ o, h.get? it = some o → h'.get? it = some o) → tn i h'
  draw : ∀ (X : Cx), X.prog = P → X.w = w → X.K = K → ∀ pins σ H s, Inv X pins σ H s → ok H → ∀ A : Around, A.handled = none → ∀ i, tn i s.heap → ∃ (fp : List Addr) (Pv : Nat → Value → Prop) (St : Nat → Heap → Prop),
    Draws P w A it fp vs.length Pv St ∧ (∀ b ∈ fp, b = it ∨ ∃ o, s.heap.get? b = some o ∧ o.cls ≠ .type "enumerate" ∧ o.cls ≠ .type "zip" ∧ b ≠ it) ∧ St i s.heap ∧ (∀ i h, St i h → tn i h) ∧ ∀ i v, Pv i v → ∃ x, vs[i]? = some x ∧ RelV x v
theorem turn_enS {P : Program} {w : World} {K : PySem.W.Frag} {elts : List Expr} {kk : Nat} {tpos : Pos} {vs : List V} {ok : Hp → Prop} {tn : Nat → Heap → Prop} (e it : Addr) (hne : e ≠ it) (S : Src P w K it vs ok tn) :
    Turn P w K (.Tuple elts kk tpos) (ItE ok vs) [e, it] e (fun i h => (∃ old, IsEnum h e it ((i : Nat) : Int) old) ∧ tn i h) where
  mem := by simp
  obj := fun i h st b hb => by
    obtain ⟨⟨old, he⟩, hi⟩ := st
    have e' : b = e ∨ b = it := by simpa using hb
    rcases e' with z | z
    · rw [z]; exact ⟨_, he, fun v q => nomatch q⟩
    · rw [z]; exact S.live _ _ hi
  keep := fun i h h' st k => let ⟨⟨old, he⟩, hi⟩ := st; ⟨⟨old, k e (by simp) _ he⟩, S.keep _ _ _ hi fun o q => k it (by simp) o q⟩
  item := by
    intro X hP hw hK hc i pins s σ H E I hf st hg
    subst hP hw hK
    obtain ⟨⟨old, he⟩, hit⟩ := st
    obtain ⟨hok, hi⟩ := hg
    obtain ⟨fp, Pv, St, D, h1, h2, h3, h4⟩ := S.draw X rfl rfl rfl pins σ H s I hok X.A.in1 (I.ok.hd hc) i hit
    have hel : e < s.heap.objs.size := Heap.lt_size he
    have hil : it < s.heap.objs.size := by obtain ⟨_, q, _⟩ := S.live _ _ hit; exact Heap.lt_size q
    have hef : e ∉ fp := fun hm => by
      rcases h1 e hm with z | ⟨o, z, n1, _⟩
      · exact hne z
      · rw [show s.heap.get? e = _ from he] at z
        cases z
        exact n1 rfl
    refine wpAny_pyNext_enum_itemD D he h2 hi hne hef fun x h' tk hP ho hst' hT hsz hk => ?_
    obtain ⟨z, hz, rz⟩ := h4 i x hP
    refine ⟨_, rfl, wpAny_letOwnedTupleGo_enum (s := { s with heap := h', toks := tk + 1 }) ho fun h'' he' sb => ?_⟩
    have hT2 : h''.get? s.heap.objs.size = some { cls := .type "tuple", data := .seq #[.int i tk, x] } := (sb.2 _ (Nat.ne_of_gt hel)).trans hT
    have new : ObjOk X.prog X.w (upd H s.heap.objs.size (.tup [.int (i : Nat), z])) h'' s.heap.objs.size (.tup [.int (i : Nat), z]) :=
      ⟨by show 2 ≤ sizeLine; decide, [.int i tk, x], .cons ⟨_, rfl⟩ (.cons rz .nil), ⟨_, hT2, rfl, _, rfl⟩⟩
    have I1 : Inv X pins σ (upd H s.heap.objs.size (.tup [.int (i : Nat), z])) { s with heap := h'', toks := tk + 1 } :=
      I.turnedNew (ch := [e, it]) (fun b ob hb q => (sb.2 b (fun z => hb (by simp [z]))).trans (hk b ob (fun z => hb (by simp [z])) (fun z => hb (by simp [z])) q)) hf (Nat.le_refl _) new
    refine ⟨.ref s.heap.objs.size, _, I1, rfl, ⟨_, z, rfl, I.hok.fresh (Nat.le_refl _), rfl, hz⟩, ⟨⟨x, ?_⟩, S.keep _ _ _ (h3 _ _ hst') fun o q => (sb.2 it (Ne.symm hne)).trans q⟩, fun b hb => ?_⟩
    · have e1 : ((i + 1 : Nat) : Int) = (i : Int) + 1 := by omega
      rw [e1]; exact he'
    · have hb' : b < s.heap.objs.size := by
        have e' : b = e ∨ b = it := by simpa using hb
        rcases e' with z | z
        · rw [z]; exact hel
        · rw [z]; exact hil
      rw [upd_ne (Nat.ne_of_lt hb')]
      exact (hf b hb).1
  done := by
    intro X hP hw hK hc i pins s σ H E I hf st hg
    subst hP hw hK
    obtain ⟨⟨old, he⟩, hit⟩ := st
    obtain ⟨hok, rfl⟩ := hg
    obtain ⟨fp, Pv, St, D, h1, h2, h3, h4⟩ := S.draw X rfl rfl rfl pins σ H s I hok X.A.in1 (I.ok.hd hc) _ hit
    obtain ⟨f0, f1, f2, f3, f4, f5⟩ := hf it (by simp)
    exact wpAny_pyNext_enum_endD D he h2 fun h' eb => ⟨rfl, I.turned (t' := s.toks) (fun b o hb q => eb b o hb q) f0 f1 f3 f4 f5⟩
  self := fun A i s Q E st h => let ⟨⟨_, he⟩, _⟩ := st; wpAny_pyIter_enum he h
theorem src_tup {P : Program} {w : World} {K : PySem.W.Frag} {it a : Addr} {vs : List V} : Src P w K it vs (fun H => SqT K H a vs) (fun i h => h.IsTupleIter it a i) where
  live := fun i h st => by
    obtain ⟨o, ho, hc, hd⟩ := st
    exact ⟨o, ho, fun v q => by rw [hd] at q; cases q⟩
  keep := fun i h h' st k => st.at fun o e => k o e
  draw := by
    intro X hP hw hK pins σ H s I hok A hA i st
    subst hP hw hK
    obtain ⟨its, rv, pt, hz⟩ := I.tuple hok
    have hl := rv.length
    have hne : a ≠ it := fun e => by
      obtain ⟨o, ho, hc, hd⟩ := st
      obtain ⟨ob, hob, hcl, _⟩ := pt
      rw [e, ho] at hob
      cases hob
      rw [hc] at hcl
      injection hcl with e2
      exact absurd e2 (by decide)
    have D := Draws.tuple (prog := X.prog) (w := X.w) hA it a hne its.toArray
    rw [List.size_toArray, ← hl] at D
    refine ⟨_, _, _, D, fun b hb => ?_, ⟨st, pt⟩, fun i h q => q.1, fun i v hv => ?_⟩
    · rcases List.mem_cons.mp hb with e | hb
      · exact .inl e
      · have e := List.mem_singleton.mp hb
        subst e
        obtain ⟨ob, hob, hcl, _⟩ := pt
        refine .inr ⟨ob, hob, fun q => ?_, fun q => ?_, hne⟩
        · rw [hcl] at q; injection q with e2; exact absurd e2 (by decide)
        · rw [hcl] at q; injection q with e2; exact absurd e2 (by decide)
    · have hv : its[i]? = some v := by simpa using hv
      have hi : i < its.length := (List.getElem?_eq_some_iff.mp hv).1
      have hx : vs[i]? = some vs[i] := List.getElem?_eq_getElem (by omega)
      obtain ⟨u, hu, ru⟩ := rv.get hx
      rw [hv] at hu; cases hu
      exact ⟨_, hx, ru⟩
theorem wk_enS {w : World} {K : PySem.W.Frag} {G : Hp} {ok : Hp → Prop} {vs : List V} {ds : List D} (hok : ∀ G' H, Sub G G' → Sub G' H → ok H) (t : DtAll w K G vs ds) : Wk w K (ItE ok vs) G (enD 0 ds) where
  go := fun i G' H s1 s2 hi => ⟨hok G' H s1 s2, by rw [t.length]; rw [enD_len] at hi; exact hi⟩
  stop := fun G' H s1 s2 => ⟨hok G' H s1 s2, by rw [t.length, enD_len]⟩
  yld := fun i d G' H x H' s1 s2 hd y => by
    obtain ⟨T, z, rfl, nT, rfl, y⟩ := y
    obtain ⟨d', e2, t2⟩ := t.get y
    obtain ⟨x, e3, rfl⟩ := enD_get ds 0 i d hd
    rw [e3] at e2; cases e2
    have g2 := Gr.new (o := .tup [.int (i : Nat), z]) s2 nT
    refine ⟨_, g2, .tup (.inl (.inl upd_same)) (.cons ?_ (.cons ((t2.sub s1).sub (g2.up s2)) .nil))⟩
    rw [Nat.zero_add]
    exact .int _
def en1t : List D → R (List D)
  | [.tuple ds] => .ok (enD 0 ds)
  | _ => stk
section
variable {X : Cx} {a b c tgt : Expr} {p pos : Pos} {e : Bas → Nat → D → Prop} {O : List Nat} {fs : Env' → R (List D)}
theorem call_enum1 {prog : Program} {w : World} {A : Around} {E : Value → Shared → Prop} {s : Shared} {t : Addr} {its : Array Value} {Q : Value → Shared → Prop} (ht : s.heap.IsTuple t its)
    (h : ∀ h', IsEnum h' (s.heap.objs.size + 1) s.heap.objs.size 0 .none → h'.IsTupleIter s.heap.objs.size t 0 → (∀ b o, s.heap.get? b = some o → h'.get? b = some o) → Q (.ref (s.heap.objs.size + 1)) { s with heap := h' }) :
    wpAny (model prog w) A (call (.type "enumerate") [.ref t]) Q E s :=
  enum_begins1 (begins_tuple t its) ht fun h' he ho hz hk => h h' he ⟨_, ho, rfl, rfl⟩ hk
theorem i_ent {elts : List Expr} {kk : Nat} {tp : Pos} (hm : X.mg "enumerate" = none) (h : PA X [a] (tA X.w X.K e O fs)) (hg : Gl X "enumerate" := by rfl) (hs : starEach [a] X.env = [(false, eval a X.env)] := by rfl) : PI X (.Tuple elts kk tp) (.Call (.Name "enumerate" p) [a] [] pos) (iV X.w X.K e O fun ρ => fs ρ >>= en1t) := by
  have h0 : PI X (.Tuple elts kk tp) (.Call (.Name "enumerate" p) [a] [] pos) (fun σ H R => tA X.w X.K e O fs σ H fun vs H1 => ∃ A xs, vs = [.ref A] ∧ SqT X.K H1 A xs ∧ R (ItE (fun H => SqT X.K H A xs) xs) H1) := by
    refine ⟨fun pins s σ H R I hq => ?_⟩
    refine Call_ (ld_blt I hg hm boot_enumerate (PyProof.Rows.callWith_type1 (thn (h.run pos pins s σ H _ I hq) fun us s1 ⟨vs, H1, I1, r1, q1⟩ => ?_) hs rfl))
    obtain ⟨A, xs, ex, hsq, q⟩ := q1
    subst ex
    cases r1 with
    | cons r rr =>
      cases rr
      cases r
      obtain ⟨its, rv, pt, hz⟩ := I1.tuple hsq
      refine call_enum1 pt fun h' he hit hk => wpAny_pyIter_enum he ?_
      have I2 : Inv X pins σ H1 { s1 with heap := h' } := I1.kept (t' := s1.toks) hk
      refine ⟨s1.heap.objs.size + 1, [s1.heap.objs.size + 1, s1.heap.objs.size], _, _, H1, rfl, I2, turn_enS (s1.heap.objs.size + 1) s1.heap.objs.size (Nat.succ_ne_self _) src_tup, ⟨⟨.none, he⟩, hit⟩, fun b hb => ?_, q⟩
      have e' : b = s1.heap.objs.size + 1 ∨ b = s1.heap.objs.size := by simpa using hb
      have hle : s1.heap.objs.size ≤ b := by
        rcases e' with z | z
        · rw [z]; exact Nat.le_add_right _ _
        · rw [z]; exact Nat.le_refl _
      exact I1.fpOk hle (I1.hok.fresh hle)
  refine pi_imp h0 fun σ H Q ⟨B, ρ, G, r, q⟩ => ⟨B, ρ, G, r, gd_mono (gd_bind.mp q) fun ds q vs G1 H1 g1 t => ?_⟩
  unfold en1t at q
  split at q
  · cases t with
    | cons t1 t2 =>
      cases t2
      cases t1 with
      | tup s1 a1 => exact ⟨_, _, rfl, SqT.sub g1.sub s1, q _ G1 H1 g1 (wk_enS (fun G' H' q1 q2 => SqT.sub (q1.trans q2) s1) a1)⟩
  · exact q.elim

/-! ### range(i, j, -1) -/
def rgC (lo : Int) (n : Nat) : List D := (List.range n).map fun (i : Nat) => .int (lo + i * (-1))
def rg3 : List D → R (List D)
  | [.int i, .int j, .int k] => if k = -1 ∧ i.natAbs < 4611686018427387904 ∧ j.natAbs < 4611686018427387904 then .ok (rgC i (i - j).toNat) else stk
  | _ => stk
theorem i_rg3 (hm : X.mg "range" = none) (h : PA X [a, b, c] (tA X.w X.K e O fs)) (hg : Gl X "range" := by rfl) (hs : starEach [a, b, c] X.env = (false, eval a X.env) :: starEach [b, c] X.env := by rfl) (hpl : (backTo pos (starEach [b, c] X.env)).any (·.1) = false := by rfl) :
    PI X tgt (.Call (.Name "range" p) [a, b, c] [] pos) (iV X.w X.K e O fun ρ => fs ρ >>= rg3) := by
  refine pi_imp (pi_range3 hg hm h hs hpl) fun σ H Q ⟨B, ρ, G, r, q⟩ => ⟨B, ρ, G, r, gd_mono (gd_bind.mp q) fun ds q vs G1 H1 g1 t => ?_⟩
  unfold rg3 at q
  split at q
  · cases t with
    | cons t1 t2 =>
      cases t2 with
      | cons t2 t3 =>
        cases t3 with
        | cons t3 t4 =>
          cases t4
          cases t1
          cases t2
          cases t3
          split at q
          · rename_i i j k hb
            obtain ⟨rfl, h1, h2⟩ := hb
            refine ⟨i, j, -1, (i - j).toNat, rfl, RgC.neg (p62 h1).1 (p62 h1).2 (p62 h2).1 (p62 h2).2, q _ G1 H1 g1 ?_⟩
            have hl : (rgC i (i - j).toNat).length = (i - j).toNat := by unfold rgC; rw [List.length_map, List.length_range]
            exact {
              go := fun n G' H' q1 q2 hi => by rw [hl] at hi; exact hi
              stop := fun G' H' q1 q2 => by rw [hl]; exact Nat.le_refl _
              yld := fun n d G' H' x H2 q1 q2 hd y => by
                obtain ⟨rfl, rfl⟩ := y
                refine ⟨G', Gr.refl q2, ?_⟩
                unfold rgC at hd
                rw [List.getElem?_map] at hd
                cases z : (List.range (i - j).toNat)[n]? with
                | none => rw [z] at hd; cases hd
                | some m =>
                  rw [z] at hd
                  have e1 : m = n := by
                    rw [List.getElem?_eq_some_iff] at z
                    obtain ⟨h1, h2⟩ := z
                    rw [List.getElem_range] at h2
                    exact h2.symm
                  subst e1
                  cases hd
                  exact .int _ }
          · exact q.elim
  · exact q.elim
end
end Vs

set_option Elab.async false
set_option linter.all false
set_option maxRecDepth 100000
/-! sum(lists, []); enumerate of texts. -/
namespace Vs
open PySem PySem.Spec PyProof.Rows L2

theorem sub_list_str : isSubtype (.type "list") (.type "str") = pure false := by rw [isSubtype_type]; kernel_rfl
theorem sub_list_bytes : isSubtype (.type "list") (.type "bytes") = pure false := by rw [isSubtype_type]; kernel_rfl
theorem sub_list_bytearray : isSubtype (.type "list") (.type "bytearray") = pure false := by rw [isSubtype_type]; kernel_rfl
theorem args_sum2 (a b : Value) : argsOk "sum" ⟨[a, b], []⟩ := by unfold argsOk; kernel_rfl
abbrev lO (its : List Value) (k : Nat) : Obj := { cls := .type "list", data := .seq its.toArray k }
section
variable {prog : Program} {w : World} {A : Around} {R : Result → Shared → Prop} {I : Addr} {fp wr : List Addr} {G : Array GenState → Array GenState → Prop} {n : Nat} {P : Nat → Value → Prop} {St : Nat → Shared → Prop}
theorem sum_loopL (W : WalksS prog w A.in1 I fp wr G n P St) (h0 : Heap) (hw : ∀ b o, h0.get? b = some o → b ∉ wr) (val : Nat → List Value) (hval : ∀ i v, P i v → ∃ a k, v = .ref a ∧ h0.get? a = some (lO (val i) k)) (S : Addr) (hSf : S ∉ fp) (hlt : ∀ b ∈ fp, b < S) (hS0 : h0.get? S = none) (hz : ((List.range n).map fun j => (val j).length).sum ≤ sizeLine) :
    ∀ (m i : Nat) (s : Shared) (T : Addr) (acc : List Value) (k c : Nat), i + m = n → St i s → (∀ b o, h0.get? b = some o → s.heap.get? b = some o) → s.heap.get? S = some { cls := .type "list", dict := none, data := .seq #[.ref T] c, slots := #[] } → s.heap.get? T = some (lO acc k) → T ≠ S → T ∉ wr →
      acc = ((List.range i).map val).flatten →
      (∀ s' T' k', Moved (S :: wr) G s s' → (∀ b o, h0.get? b = some o → s'.heap.get? b = some o) → s'.heap.get? T' = some (lO ((List.range n).map val).flatten k') → (T' = T ∨ h0.get? T' = none) → (n = i → T' = T) → R (.ok (.ret (.ref T'))) s') →
      codeAny (model prog w) A (.builtin "sum.loop" ⟨[.ref I, .ref S, rawInt 2, rawInt 0], []⟩) R s := by
  have hSw : S ∉ wr := fun h => hSf (W.sub _ h)
  have hsub : ∀ b ∈ wr, b ∈ S :: wr := fun b hb => List.mem_cons_of_mem _ hb
  intro m
  induction m with
  | zero =>
    intro i s T acc k c hi hst h0s hS hT hTS hTw hacc hR
    obtain rfl : i = n := by omega
    refine codeAny_builtin F.entry_sum_loop ?_
    rw [Around.under_plainId F.plain_sum_loop _]
    show wpAny _ A.in1 (seqItems? (.ref S) >>= _) _ _ s
    refine wpAny_bind (wpAny_seqItems hS rfl ?_)
    show wpAny _ A.in1 (tryCatch (pyNext (.ref I)) _ >>= _) _ _ s
    refine wpAny_bind (wpAny_tryCatch (W.done s _ _ hst fun s' hm => ?_))
    have hT' := hm.heap T _ hTw hT
    rw [hacc] at hT'
    exact wpAny_pure (hR s' T k (hm.mono hsub) (fun b o e => hm.heap b o (hw b o e) (h0s b o e)) hT' (.inl rfl) fun _ => rfl)
  | succ m ih =>
    intro i s T acc k c hi hst h0s hS hT hTS hTw hacc hR
    have hlt' : i < n := by omega
    refine codeAny_builtin F.entry_sum_loop ?_
    rw [Around.under_plainId F.plain_sum_loop _]
    show wpAny _ A.in1 (seqItems? (.ref S) >>= _) _ _ s
    refine wpAny_bind (wpAny_seqItems hS rfl ?_)
    show wpAny _ A.in1 (tryCatch (pyNext (.ref I)) _ >>= _) _ _ s
    refine wpAny_bind (wpAny_tryCatch (W.item i s _ _ hlt' hst fun v s' hP hst' hm => ?_))
    obtain ⟨a, ka, rfl, ha⟩ := hval i v hP
    have hS' := hm.heap S _ hSw hS
    have hT' := hm.heap T _ hTw hT
    have h0' : ∀ b o, h0.get? b = some o → s'.heap.get? b = some o := fun b o e => hm.heap b o (hw b o e) (h0s b o e)
    have ha' := h0' a _ ha
    have hSl : S < s'.heap.objs.size := Heap.lt_size hS'
    have hlen : acc.length + (val i).length ≤ sizeLine := by
      have e1 : acc.length = ((List.range i).map fun j => (val j).length).sum := by rw [hacc, List.length_flatten, List.map_map]; rfl
      have e2 : ((List.range (i + 1)).map fun j => (val j).length).sum = ((List.range i).map fun j => (val j).length).sum + (val i).length := by
        rw [List.range_succ, List.map_append, List.sum_append]; simp
      have e3 : ∀ p q : Nat, p ≤ q → ((List.range p).map fun j => (val j).length).sum ≤ ((List.range q).map fun j => (val j).length).sum := by
        intro p q h
        induction q with
        | zero => obtain rfl : p = 0 := by omega
                  exact Nat.le_refl _
        | succ q ih =>
          by_cases e : p = q + 1
          · rw [e]; exact Nat.le_refl _
          · rw [List.range_succ, List.map_append, List.sum_append]
            have := ih (by omega)
            omega
      have := e3 (i + 1) n hlt'
      omega
    show wpAny _ A.in1 ((holding [Value.ref a] (binaryOp .Add (.ref T) (.ref a))).attempt >>= _) _ _ _
    refine wpAny_bind (wpAny_attempt (wpAny_holding (PySem.P.add_list hT' ha' ?_ (by rw [List.size_toArray, List.size_toArray]; exact hlen))))
    have eT : acc.toArray ++ (val i).toArray = (acc ++ val i).toArray := by simp
    rw [eT]
    generalize hN : s'.heap.objs.size = N
    have hSl2 : S < N := hN ▸ hSl
    have hSN : S ≠ N := Nat.ne_of_lt hSl2
    have hS1 : (s'.heap.push (lO (acc ++ val i) 0)).get? S = _ := Heap.get?_push_of_some _ hS'
    have hN1 : (s'.heap.push (lO (acc ++ val i) 0)).get? N = some (lO (acc ++ val i) 0) := by rw [← hN]; exact Heap.get?_push_size _ rfl
    show wpAny _ A.in1 (updateSeq S (fun _ => #[.ref N]) >>= _) _ _ _
    refine wpAny_bind (wpAny_updateSeq hS1 rfl ?_)
    have hS₂ := Heap.get?_update_self (Obj.mapSeq fun _ => #[Value.ref N]) hS1 rfl
    refine wpAny_bind (wpAny_letGo ?_)
    refine wpAny_bind (wpAny_updateSeq hS₂ rfl (wpAny_pure ⟨plainId_quiet F.plain_sum_loop _, ?_⟩))
    have other : ∀ b, b ≠ S → ∀ o, s'.heap.get? b = some o → (((s'.heap.push (lO (acc ++ val i) 0)).update S (Obj.mapSeq fun _ => #[Value.ref N])).update S (Obj.mapSeq fun _ => #[Value.ref N])).get? b = some o := fun b hb o e =>
      (Heap.get?_update_other _ _ (Ne.symm hb)).trans ((Heap.get?_update_other _ _ (Ne.symm hb)).trans (Heap.get?_push_of_some _ e))
    refine ih (i + 1) _ N (acc ++ val i) 0 _ (by omega) (W.frame _ s' _ _ hst' (Nat.le_refl _) fun b hb o e => other b (fun z => hSf (by rw [← z]; exact hb)) o e) (fun b o e => other b (fun z => by rw [z, hS0] at e; cases e) o (h0' b o e)) (Heap.get?_update_self _ hS₂ rfl) ?_ (Ne.symm hSN) (fun hm' => by exact absurd (Nat.lt_trans hSl2 (hlt N (W.sub _ hm'))) (Nat.lt_irrefl _)) ?_ fun s'' T'' k'' hm'' h0'' hT'' hor hne => ?_
    · exact (Heap.get?_update_other _ _ hSN).trans ((Heap.get?_update_other _ _ hSN).trans hN1)
    · rw [hacc, List.range_succ, List.map_append, List.flatten_append]; simp
    · refine hR s'' T'' k'' (Moved.trans W.gtrans ((hm.mono hsub).then_heap (Nat.le_refl _) fun b o hb e => other b (fun h : b = S => hb (by rw [h]; exact List.mem_cons_self)) o e) hm'') h0'' hT'' ?_ (fun z => absurd z (by omega))
      rcases hor with e | e
      · right
        rw [e]
        cases q : h0.get? N with
        | none => rfl
        | some o => exact absurd (hN ▸ Heap.lt_size (h0' N o q)) (Nat.lt_irrefl _)
      · exact .inr e
end
section
variable {prog : Program} {w : World} {A : Around} {E : Value → Shared → Prop} {s : Shared}
theorem call_sumL {l e0 : Addr} {its : List Value} {ke : Nat} {val : Nat → List Value} {Q : Value → Shared → Prop} (hh : A.handled = none) (hl : s.heap.IsList l its.toArray) (he : s.heap.get? e0 = some (lO [] ke))
    (hval : ∀ i v, its[i]? = some v → ∃ a k, v = .ref a ∧ s.heap.get? a = some (lO (val i) k)) (hz : ((List.range its.length).map fun j => (val j).length).sum ≤ sizeLine)
    (h : ∀ s' T k, (∃ h' tk, s' = { s with heap := h', toks := tk }) → (∀ b o, s.heap.get? b = some o → s'.heap.get? b = some o) → s'.heap.get? T = some (lO ((List.range its.length).map val).flatten k) → (T = e0 ∨ s.heap.get? T = none) → (its.length = 0 → T = e0) → Q (.ref T) s') :
    wpAny (model prog w) A (call (.builtin "sum") [.ref l, .ref e0]) Q E s := by
  refine call_function_tree F.kind_sum F.plain_sum F.entry_sum (args_sum2 _ _) ?_
  unfold Builtin.«sum»
  simp only [List.length_cons, List.length_nil]
  rw [if_neg (by decide)]
  refine wpAny_bind (wpAny_of_eq (show Builtin.Builtins.bindParams "sum" ["start"] 0 ⟨[.ref e0], []⟩ = pure [some (.ref e0)] from rfl) ?_)
  refine wpAny_bind (PySem.W.iter_listW (A := A.in1) hh hl fun s₂ e2 W st hfp hw hk => ?_)
  have he2 := hk _ _ he
  refine wpAny_bind (wpAny_pure ?_)
  simp only [List.forIn_cons, List.forIn_nil]
  have ty : s₂.TypeIs (.ref e0) "list" := ⟨_, he2, rfl⟩
  refine wpAny_bind (wpAny_bind (wpAny_bind (wpAny_isInstance (T := "list") (b := false) ty sub_list_str ?_)))
  simp only [Bool.false_eq_true, if_false]
  refine wpAny_pure (wpAny_bind (wpAny_bind (wpAny_isInstance (T := "list") (b := false) ty sub_list_bytes ?_)))
  simp only [Bool.false_eq_true, if_false]
  refine wpAny_pure (wpAny_bind (wpAny_bind (wpAny_isInstance (T := "list") (b := false) ty sub_list_bytearray ?_)))
  simp only [Bool.false_eq_true, if_false]
  refine wpAny_pure (wpAny_pure ?_)
  refine wpAny_bind (wpAny_newObj_type ?_)
  have hfl : ∀ b ∈ [s.heap.objs.size, l], b < s₂.heap.objs.size := hfp
  have hS0 : s.heap.get? s₂.heap.objs.size = none := by
    cases q : s.heap.get? s₂.heap.objs.size with
    | none => rfl
    | some o => exact absurd (Heap.lt_size (hk _ _ q)) (Nat.lt_irrefl _)
  refine wpAny_pure ⟨plainId_quiet F.plain_sum_loop _, sum_loopL W s.heap (fun b o e => hw b o e) val (fun i v hv => hval i v (by simpa using hv)) s₂.heap.objs.size (fun hm => Nat.lt_irrefl _ (hfl _ hm)) hfl hS0 (by rw [List.size_toArray]; exact hz) its.toArray.size 0 _ e0 [] ke 0 (by omega)
    (W.frame 0 s₂ _ _ st (by first | exact Nat.le_refl _ | exact Nat.le_succ _ | omega) fun b _ o e => Heap.get?_push_of_some _ e) (fun b o e => Heap.get?_push_of_some _ (hk b o e)) (Heap.get?_push_size _ rfl) (Heap.get?_push_of_some _ he2) (Nat.ne_of_lt (Heap.lt_size he2)) (fun hm => ?_) rfl fun s' T' k' hm h0' hT' hor hz0 => ?_⟩
  · exact hw _ _ he hm
  · rw [List.size_toArray] at hT'
    refine h s' T' k' ?_ h0' hT' hor (fun z => hz0 (by rw [List.size_toArray]; exact z))
    obtain ⟨hp', g', d', t', o'⟩ := s'
    have e3 := hm.gens
    have e4 := hm.drawn
    have e5 := hm.os
    subst e2
    simp only at e3 e4 e5
    exact ⟨hp', t', by rw [e3, e4, e5]⟩
end

/-! ### the rule -/
def lists? : List D → Option (List (List D))
  | [] => some []
  | .list ds :: r => (lists? r).map (ds :: ·)
  | _ => none
def sum2D : List D → R D
  | [.list ds, .list []] => opt (lists? ds) >>= fun ls => if ls.flatten.length ≤ 16777216 then .ok (.list ls.flatten) else stk
  | _ => stk
theorem lists_at : ∀ {ds : List D} {ls : List (List D)}, lists? ds = some ls → ds = ls.map .list
  | [], ls, h => by cases h; rfl
  | d :: r, ls, h => by
    cases d with
    | list xs =>
      obtain ⟨l2, h1, rfl⟩ := Option.map_eq_some_iff.mp (show (lists? r).map (xs :: ·) = some ls from h)
      rw [lists_at h1]; rfl
    | _ => cases h
section
variable {X : Cx} {pins : List (Addr × Obj)} {σ : L2.St} {G H : Hp} {s : Shared}
/-- the lists, as they stand in the heap -/
theorem lists_in (I : Inv X pins σ H s) (sb : Sub G H) : ∀ {ls : List (List D)} {vs : List V} {us : List Value}, DtAll X.w X.K G vs (ls.map .list) → Vals vs us → ∃ (vss : List (List V)) (uss : List (List Value)), uss.length = us.length ∧ vss.length = uss.length ∧ (∀ i v, us[i]? = some v → ∃ a k, v = .ref a ∧ s.heap.get? a = some (lO (uss.getD i []) k)) ∧ Vals vss.flatten uss.flatten ∧ DtAll X.w X.K G vss.flatten ls.flatten
  | [], _, _, .nil, .nil => ⟨[], [], rfl, rfl, fun i v h => by simp at h, .nil, .nil⟩
  | l :: ls, _, _, .cons t1 t2, .cons r1 r2 => by
    obtain ⟨vss, uss, h1, h2, h3, h4, h5⟩ := lists_in I sb t2 r2
    cases t1 with
    | @lst a xs _ s1 a1 =>
      obtain ⟨z, its, n, rv, e⟩ := lst_at I (Rd.sub sb s1)
      cases r1
      refine ⟨xs :: vss, its :: uss, by rw [List.length_cons, List.length_cons, h1], by rw [List.length_cons, List.length_cons, h2], fun i v h => ?_, rv.append h4, a1.append h5⟩
      cases i with
      | zero =>
        simp only [List.getElem?_cons_zero, Option.some.injEq] at h
        subst h
        exact ⟨a, n, rfl, e⟩
      | succ j =>
        simp only [List.getElem?_cons_succ] at h
        exact h3 j v h
theorem range_getD (uss : List (List Value)) : (List.range uss.length).map (fun j => uss.getD j []) = uss := by
  apply List.ext_getElem?
  intro i
  by_cases h : i < uss.length
  · rw [List.getElem?_map, List.getElem?_range h, List.getElem?_eq_getElem h]
    simp [List.getD, List.getElem?_eq_getElem h]
  · rw [List.getElem?_eq_none (by rw [List.length_map, List.length_range]; omega), List.getElem?_eq_none (by omega)]
theorem c_sum2 (hc : X.calm = true) : CallR X (.builtin "sum") (rC X.w X.K sum2D) := by
  intro pins s σ H xs us Q I rx ⟨G, ds, e, sb, t, q⟩
  unfold sum2D at q
  split at q
  · rename_i ds
    obtain ⟨ls, e1, q1⟩ := opt_in (gd_bind.mp q)
    clear q
    split at q1
    · rename_i hz
      obtain rfl := lists_at e1
      cases t with
      | cons t1 t =>
        cases t with
        | cons t2 t =>
          cases t
          cases t1 with
          | @lst l0 ys _ s1 a1 =>
            cases t2 with
            | @lst e0 zs _ s2 a2 =>
              cases a2
              cases rx with
              | cons r1 rr =>
                cases rr with
                | cons r2 rr =>
                  cases rr
                  cases r1
                  cases r2
                  obtain ⟨its, rv, hl, _⟩ := I.list (Rd.sq (Rd.sub sb s1))
                  obtain ⟨_, ie, ke, rve, he⟩ := lst_at I (Rd.sub sb s2)
                  cases rve
                  obtain ⟨vss, uss, h1, h2, h3, h4, h5⟩ := lists_in I sb a1 rv
                  have hr := range_getD uss
                  rw [h1] at hr
                  have hlen : (vss.flatten).length ≤ sizeLine := by rw [h5.length, sizeLine_eq]; exact hz
                  have hsum : ((List.range its.length).map fun j => (uss.getD j []).length).sum ≤ sizeLine := by
                    have : ((List.range its.length).map fun j => (uss.getD j []).length) = uss.map List.length := by
                      rw [show (fun j => (uss.getD j []).length) = List.length ∘ (fun j => uss.getD j []) from rfl, ← List.map_map, hr]
                    rw [this, ← List.length_flatten, ← h4.length]
                    exact hlen
                  refine call_sumL (val := fun j => uss.getD j []) (I.ok.hd hc) hl.isList he h3 hsum fun s' T k hs hk hT hor hz0 => ?_
                  rw [hr] at hT
                  obtain ⟨h', tk, rfl⟩ := hs
                  rcases hor with e2 | e2
                  · subst e2
                    have e3 := hk _ _ he
                    rw [hT] at e3
                    have e4 : uss.flatten = [] := by
                      have := congrArg (fun o : Option Obj => match o with | some { data := .seq a _, .. } => a.toList | _ => []) e3
                      simpa using this
                    have e5 : vss.flatten = [] := by
                      have := h4.length
                      rw [e4] at this
                      exact List.length_eq_zero_iff.mp this
                    rw [e5] at h5
                    have e6 : ls.flatten = [] := by
                      have := h5.length
                      exact List.length_eq_zero_iff.mp this.symm
                    rw [e6] at q1
                    exact ⟨.ref T, H, I.kept hk, rfl, q1 _ G H (Gr.refl sb) (.lst s2 .nil)⟩
                  · have hTn : H T = none := I.hok.gone e2
                    obtain ⟨g, n2, o⟩ := own_new sb hTn h5
                    have g2 := Gr.new (o := .lst vss.flatten) sb hTn
                    exact ⟨.ref T, upd H T (.lst vss.flatten), I.laidN (t' := tk) hk e2 hTn ⟨hlen, uss.flatten, k, h4, hT⟩, rfl, q1 _ _ _ g2 (.lst (.inl upd_same) (h5.sub (g2.up sb)))⟩
    · exact q1.elim
  · exact q.elim
end

/-! ### enumerate of a text -/
theorem src_str {P : Program} {w : World} {K : PySem.W.Frag} {it : Addr} {x : Str} {t : Tok} : Src P w K it (x.cps.toList.map fun c => .str ⟨#[c]⟩) (fun _ => True) (fun i h => h.IsStrIter it (strIterType x) x t i) where
  live := fun i h st => by
    obtain ⟨o, ho, hc, hd⟩ := st
    exact ⟨o, ho, fun v q => by rw [hd] at q; cases q⟩
  keep := fun i h h' st k => by
    obtain ⟨o, ho, r⟩ := st
    exact ⟨o, k o ho, r⟩
  draw := by
    intro X hP hw hK pins σ H s I hok A hA i st
    subst hP hw hK
    have D := Draws.text (prog := X.prog) (w := X.w) hA it x t
    have hl : x.cps.size = (x.cps.toList.map fun c => V.str ⟨#[c]⟩).length := by rw [List.length_map, Array.length_toList]
    rw [hl] at D
    refine ⟨_, _, _, D, fun b hb => .inl (List.mem_singleton.mp hb), st, fun i h q => q, fun i v hv => ?_⟩
    obtain ⟨c, u, h1, rfl⟩ := hv
    exact ⟨.str ⟨#[c]⟩, by rw [List.getElem?_map, Array.getElem?_toList, h1]; rfl, ⟨u, rfl⟩⟩
theorem sgn_dt {w : World} {K : PySem.W.Frag} {G : Hp} (l : List Nat) : DtAll w K G (l.map fun c => .str ⟨#[c]⟩) (l.map fun c => .str ⟨#[c]⟩) := by
  induction l with
  | nil => exact .nil
  | cons c l ih => exact .cons (.str _) ih
def en1s : List D → R (List D)
  | [.str x] => .ok (enD 0 (x.cps.toList.map fun c => .str ⟨#[c]⟩))
  | _ => stk
section
variable {X : Cx} {a : Expr} {p pos : Pos} {e : Bas → Nat → D → Prop} {O : List Nat} {fs : Env' → R (List D)}
theorem i_ens {elts : List Expr} {kk : Nat} {tp : Pos} (hm : X.mg "enumerate" = none) (h : PA X [a] (tA X.w X.K e O fs)) (hg : Gl X "enumerate" := by rfl) (hs : starEach [a] X.env = [(false, eval a X.env)] := by rfl) : PI X (.Tuple elts kk tp) (.Call (.Name "enumerate" p) [a] [] pos) (iV X.w X.K e O fun ρ => fs ρ >>= en1s) := by
  have h0 : PI X (.Tuple elts kk tp) (.Call (.Name "enumerate" p) [a] [] pos) (fun σ H R => tA X.w X.K e O fs σ H fun vs H1 => ∃ x, vs = [.str x] ∧ R (ItE (fun _ => True) (x.cps.toList.map fun c => .str ⟨#[c]⟩)) H1) := by
    refine ⟨fun pins s σ H R I hq => ?_⟩
    refine Call_ (ld_blt I hg hm boot_enumerate (PyProof.Rows.callWith_type1 (thn (h.run pos pins s σ H _ I hq) fun us s1 ⟨vs, H1, I1, r1, q1⟩ => ?_) hs rfl))
    obtain ⟨x, ex, q⟩ := q1
    subst ex
    cases r1 with
    | cons r rr =>
      cases rr
      obtain ⟨t, rfl⟩ := r
      refine call_enumerate_str fun h' he hit hz hk => wpAny_pyIter_enum he ?_
      have I2 : Inv X pins σ H1 { s1 with heap := h' } := I1.kept (t' := s1.toks) hk
      refine ⟨s1.heap.objs.size + 1, [s1.heap.objs.size + 1, s1.heap.objs.size], _, _, H1, rfl, I2, turn_enS (s1.heap.objs.size + 1) s1.heap.objs.size (Nat.succ_ne_self _) (src_str (x := x) (t := t)), ⟨⟨.none, he⟩, hit⟩, fun b hb => ?_, q⟩
      have e' : b = s1.heap.objs.size + 1 ∨ b = s1.heap.objs.size := by simpa using hb
      have hle : s1.heap.objs.size ≤ b := by
        rcases e' with z | z
        · rw [z]; exact Nat.le_add_right _ _
        · rw [z]; exact Nat.le_refl _
      exact I1.fpOk hle (I1.hok.fresh hle)
  refine pi_imp h0 fun σ H Q ⟨B, ρ, G, r, q⟩ => ⟨B, ρ, G, r, gd_mono (gd_bind.mp q) fun ds q vs G1 H1 g1 t => ?_⟩
  unfold en1s at q
  split at q
  · cases t with
    | cons t1 t2 =>
      cases t2
      cases t1 with
      | str x => exact ⟨_, rfl, q _ G1 H1 g1 (wk_enS (fun G' H' q1 q2 => True.intro) (sgn_dt _))⟩
  · exact q.elim
end

/-! ### x = [..] on one line, one's own -/
section
variable {X : Cx} {elt tgt iter : Expr} {ifs : List Expr} {scope : Scope} {pos : Pos} {e : Bas → Nat → D → Prop} {O O' ws : List Nat} {fr : Bool} {fi : Env' → R (List D)} {tg : D → Env' → R Env'} {ft : Env' → R Bool} {fe : Env' → R D}
theorem s_lcO (i : Nat) (own : List (Str × Nat)) {y : Str} {py spos : Pos} (hc : X.calm = true) (hN : X.N.Nodup) (hi : PI X tgt iter (iV X.w X.K e O fi)) (ok : BlkOk X.N X.env.scope scope own) (hg : Blk X scope fun Y => PG Y tgt (gT Y.w Y.K noE O ws tg)) (ht : Blk X scope fun Y => PTs Y ifs (tW Y.w Y.K noE O ft)) (he : Blk X scope fun Y => PE Y elt (tV Y.w Y.K noE O fe))
    (h0 : i ∈ O' := by decide) (h1 : ∀ j ∈ O', j = i ∨ j ∈ O := by decide) (h2 : ∀ j ∈ O, j = i ∨ j ∈ O' := by decide) (hy : X.N[i]? = some y := by rfl) (hyl : X.env.scope.names.lookup y = some .local := by rfl) (hv : ∀ j ∈ ws, j ∈ own.map (·.2) := by decide) (hs : ∀ x, foldedSetIterable iter X.env x = pure x := by intro _; rfl)
    (hsw : swapsWith (.ListComp elt [⟨tgt, iter, ifs, 0⟩] scope pos) (some (.Name y py)) spos.line X.env = pure true := by exact sw_true rfl rfl rfl (by decide +kernel)) :
    PS X (.Assign [.Name y py] (.ListComp elt [⟨tgt, iter, ifs, 0⟩] scope pos) spos) (sV X.w X.K e O O' fr fun ρ => compD (own.map (·.2)) fi tg ft fe ρ >>= fun d => setD i d ρ) :=
  s_lc own i hc hN hsw hi ok hg ht he h0 h1 h2 hy hyl hv hs
end
end Vs

set_option Elab.async false
set_option linter.all false
set_option maxRecDepth 100000
/-! constants of the module: tuples, dicts. -/
namespace Vs
open PySem PySem.Spec PyProof.Rows L2
mutual
inductive KVal (w : World) (K : PySem.W.Frag) : Value → D → Prop
  | non : KVal w K .none .none
  | bl (b : Bool) : KVal w K (.bool b) (.bool b)
  | int (i : Int) (t : Tok) : KVal w K (.int i t) (.int i)
  | str (x : Str) (t : Tok) : KVal w K (.str x t) (.str x)
  | tup {a : Addr} {dd : Option Addr} {its : List Value} {n : Nat} {sl : Array (Option Value)} {ds : List D} : K.lookup a = some ⟨.type "tuple", dd, .seq its.toArray n, sl⟩ → its.length ≤ 16777216 → KAll w K its ds → KVal w K (.ref a) (.tuple ds)
  | dct {a : Addr} {es : List DictEntry} {n : Nat} {kvs : List (D × D)} : K.lookup a = some ⟨.type "dict", none, .dict es.toArray n, #[]⟩ → (a == sysModules) = false → KEs w K es kvs → (kvs.map (·.1)).Nodup → KVal w K (.ref a) (.dict kvs)
inductive KAll (w : World) (K : PySem.W.Frag) : List Value → List D → Prop
  | nil : KAll w K [] []
  | cons {u : Value} {us : List Value} {d : D} {ds : List D} : KVal w K u d → KAll w K us ds → KAll w K (u :: us) (d :: ds)
inductive KEs (w : World) (K : PySem.W.Frag) : List DictEntry → List (D × D) → Prop
  | nil : KEs w K [] []
  | cons {h : Int} {k v : Value} {dk dv : D} {es : List DictEntry} {kvs : List (D × D)} : KVal w K k dk → h = hashD w dk → KVal w K v dv → KEs w K es kvs → KEs w K (⟨h, k, v⟩ :: es) ((dk, dv) :: kvs)
end
section
variable {w : World} {K : PySem.W.Frag}
mutual
theorem KVal.dt : ∀ {u : Value} {d : D}, KVal w K u d → ∃ v, RelV v u ∧ ∀ G : Hp, Dt w K G v d
  | _, _, .non => ⟨.non, rfl, fun _ => .non⟩
  | _, _, .bl b => ⟨.bl b, rfl, fun _ => .bl b⟩
  | _, _, .int i t => ⟨.int i, ⟨t, rfl⟩, fun _ => .int i⟩
  | _, _, .str x t => ⟨.str x, ⟨t, rfl⟩, fun _ => .str x⟩
  | _, _, .tup (a := a) h hl t => by
    obtain ⟨vs, rv, tv⟩ := KAll.dt t
    exact ⟨.ref a, rfl, fun G => .tup (.inr ⟨_, _, _, h, rfl, rfl, by rw [List.size_toArray, sizeLine_eq]; exact hl, rv⟩) (tv G)⟩
  | _, _, .dct (a := a) h ns t nd => by
    refine ⟨.ref a, rfl, fun G => .dct (.inr h) ns ⟨rfl, rfl, rfl⟩ rfl (KEs.dt t G) nd⟩
theorem KAll.dt : ∀ {us : List Value} {ds : List D}, KAll w K us ds → ∃ vs, Vals vs us ∧ ∀ G : Hp, DtAll w K G vs ds
  | _, _, .nil => ⟨[], .nil, fun _ => .nil⟩
  | _, _, .cons h t => by
    obtain ⟨v, r, tv⟩ := KVal.dt h
    obtain ⟨vs, rs, ts⟩ := KAll.dt t
    exact ⟨v :: vs, .cons r rs, fun G => .cons (tv G) (ts G)⟩
theorem KEs.dt : ∀ {es : List DictEntry} {kvs : List (D × D)}, KEs w K es kvs → ∀ G : Hp, DtEs w K G es kvs
  | _, _, .nil, _ => .nil
  | _, _, .cons h1 h2 h3 t, G => by
    obtain ⟨v, r, tv⟩ := KVal.dt h1
    obtain ⟨v2, r2, tv2⟩ := KVal.dt h3
    exact .cons r (tv G) h2 r2 (tv2 G) (KEs.dt t G)
end
end
theorem Kon.of {w : World} {K : PySem.W.Frag} {mg : Str → Option Value} {x : Str} {u : Value} {d : D} (m : mg x = some u) (k : KVal w K u d) : Kon w K mg x d := by
  obtain ⟨v, r, t⟩ := k.dt
  exact ⟨v, u, m, r, t⟩
theorem KVal.stx {w : World} {K : PySem.W.Frag} {z : Str} {t : Tok} {l : List Nat} (h : z = tx l := by decide +kernel) : KVal w K (.str z t) (.str (tx l)) := by subst h; exact .str _ t
theorem hash_kh {w : World} {z : Str} {l : List Nat} (h : z = tx l := by decide +kernel) : PyData.keyHash w.params z = hashD w (.str (tx l)) := by subst h; rfl
/-- two keys that are not the same, for certain -/
def dne : D → D → Bool
  | .str a, .str b => decide (a ≠ b)
  | .int a, .int b => decide (a ≠ b)
  | .tuple [.int a, .int b], .tuple [.int c, .int d] => decide (a ≠ c ∨ b ≠ d)
  | _, _ => false
theorem dne_ne : ∀ {a b : D}, dne a b = true → a ≠ b
  | .str a, .str b, h => fun e => of_decide_eq_true h (by cases e; rfl)
  | .int a, .int b, h => fun e => of_decide_eq_true h (by cases e; rfl)
  | .tuple [.int a, .int b], .tuple [.int c, .int d], h => fun e => by
    cases e
    rcases of_decide_eq_true h with h | h <;> exact h rfl
def kds : List D → Bool
  | [] => true
  | a :: l => l.all (dne a) && kds l
theorem kds_nd : ∀ {l : List D}, kds l = true → l.Nodup
  | [], _ => List.nodup_nil
  | a :: l, h => by
    unfold kds at h
    rw [Bool.and_eq_true, List.all_eq_true] at h
    exact List.nodup_cons.mpr ⟨fun hm => dne_ne (h.1 a hm) rfl, kds_nd h.2⟩
end Vs

set_option Elab.async false
set_option linter.all false
set_option maxRecDepth 100000
/-! gcd, wide //, lists taken apart, {k: v for ..}. -/
namespace Vs
open PySem PySem.Spec PyProof.Rows L2

/-! ### gcd(a, b); // by a wide divisor -/
section
variable {X : Cx} {e : Bas → Nat → D → Prop} {O : List Nat} {a : Expr} {es : List Expr} {x : Str} {p pos : Pos} {id : String} {g : List D → R D} {fs : Env' → R (List D)}
def gcdD : List D → R D
  | [.int a, .int b] => .ok (.int ((Nat.gcd a.natAbs b.natAbs : Nat) : Int))
  | _ => stk
theorem c_gcd : CallR X (.builtin "math.gcd") (rC X.w X.K gcdD) := callr_imp cr_gcd fun xs H Q ⟨G, ds, e, sb, t, q⟩ => by
  unfold gcdD at q
  split at q
  · cases t with
    | cons t1 t2 => cases t2 with
      | cons t2 t3 =>
        cases t3; cases t1; cases t2
        exact ⟨_, _, rfl, q _ G H (Gr.refl sb) (.int _)⟩
  · exact q.elim
theorem v_gb (hc : CallR X (.builtin id) (rC X.w X.K g)) (hm : X.mg x = some (.builtin id)) (hs : PA X (a :: es) (tA X.w X.K e O fs)) (hg : Gl X x := by rfl) (hdb : (x == ("__debug__" : Str)) = false := by decide)
    (he : starEach (a :: es) X.env = (false, eval a X.env) :: starEach es X.env := by rfl) (hpl : (backTo pos (starEach es X.env)).any (·.1) = false := by rfl) : PE X (.Call (.Name x p) (a :: es) [] pos) (tV X.w X.K e O fun ρ => fs ρ >>= g) :=
  pe_imp (pe_callBfun hc hg hm hs hdb he hpl) fun _ _ _ h => args h
def fdivW : D → D → R D := arI fun i j => if 0 < j ∧ j < 18446744073709551616 then .ok (.int (i / j)) else stk
theorem d_fdivW : OpR X (binaryOp .FloorDiv) (r2 X.w X.K fdivW) := op_i op_fdivW fun i j q e h => by
  split at h
  · rename_i hc
    refine ⟨wide_div (b := 64) hc.1 ?_ (by decide) (by decide), _, h, fun _ => .int _⟩
    have := hc.2
    have e2 : (2 : Nat) ^ 64 = 18446744073709551616 := by decide
    omega
  · exact h.elim
end

/-! ### a, b = a list -/
section
variable {X : Cx} {as : List Expr} {pos : Pos} {e : Bas → Nat → D → Prop} {O vs : List Nat} {tgs : List D → Env' → R Env'}
def unL (n : Nat) (tgs : List D → Env' → R Env') (d : D) (ρ : Env') : R Env' := match d with
  | .list ds => if ds.length = n then tgs ds ρ else stk
  | _ => stk
theorem g_lst {k n : Nat} (hc : X.calm = true) (h : PGs X as (gTs X.w X.K e O vs tgs)) (hn : (assignEach as X.env).length = n := by rfl) (hst : (assignEach as X.env).findIdx? (·.1) = none := by rfl) : PG X (.Tuple as k pos) (gT X.w X.K e O vs (unL n tgs)) := by
  refine pg_imp (pg_lst hc h hn hst) fun v σ H Q ⟨B, ρ, G, d, r, t, q⟩ => ?_
  cases t with
  | lst s1 t1 =>
    unfold unL at q
    simp only at q
    split at q
    · rename_i hl
      exact ⟨_, _, rfl, Rd.sq (Rd.sub r.sub s1), by rw [t1.length]; exact hl, B, ρ, G, _, r, t1, q⟩
    · exact q.elim
  | non => exact q.elim
  | bl _ => exact q.elim
  | int _ => exact q.elim
  | str _ => exact q.elim
  | tup _ _ => exact q.elim
  | dct _ _ _ _ _ _ => exact q.elim
  | scr _ _ => exact q.elim
  | exc _ _ => exact q.elim
end

/-! ### {k: v for x in ..} -/
inductive AtV (w : World) (K : PySem.W.Frag) (G : Hp) : List (D × D) → List (Key × V) → Prop
  | nil : AtV w K G [] []
  | cons {dk dv : D} {k : Key} {v : V} {kvs : List (D × D)} {vs : List (Key × V)} : atomK dk = some k → Dt w K G v dv → AtV w K G kvs vs → AtV w K G ((dk, dv) :: kvs) ((k, v) :: vs)
section
variable {w : World} {K : PySem.W.Frag} {G : Hp}
theorem AtV.sub {G' : Hp} (s : Sub G G') : ∀ {kvs : List (D × D)} {vs : List (Key × V)}, AtV w K G kvs vs → AtV w K G' kvs vs
  | _, _, .nil => .nil
  | _, _, .cons h1 h2 h3 => .cons h1 (h2.sub s) (h3.sub s)
theorem AtV.len : ∀ {kvs : List (D × D)} {vs : List (Key × V)}, AtV w K G kvs vs → kvs.length = vs.length
  | _, _, .nil => rfl
  | _, _, .cons _ _ h3 => by rw [List.length_cons, List.length_cons, h3.len]
theorem AtV.all : ∀ {kvs : List (D × D)} {vs : List (Key × V)}, AtV w K G kvs vs → allAt kvs = true
  | _, _, .nil => rfl
  | _, _, .cons (dk := dk) h1 _ h3 => by
    have := h3.all
    unfold allAt at this ⊢
    rw [List.all_cons, this, show (atomK dk).isSome = true by rw [h1]; rfl]; rfl
theorem AtV.any {dk : D} {k : Key} (hk : atomK dk = some k) : ∀ {kvs : List (D × D)} {vs : List (Key × V)}, AtV w K G kvs vs → kvs.any (fun p => PyData.eqv p.1 dk) = vs.any (fun kv => decide (kv.1 = k))
  | _, _, .nil => rfl
  | _, _, .cons h1 _ h3 => by rw [List.any_cons, List.any_cons, h3.any hk, atom_eqv h1 hk]
theorem AtV.repl {dk dv : D} {k : Key} {v : V} (hk : atomK dk = some k) (t : Dt w K G v dv) : ∀ {kvs : List (D × D)} {vs : List (Key × V)}, AtV w K G kvs vs →
    AtV w K G (kvs.map (fun p => if PyData.eqv p.1 dk then (p.1, dv) else p)) (vs.map fun kv => if kv.1 = k then (kv.1, v) else kv)
  | _, _, .nil => .nil
  | _, _, .cons (k := k1) h1 h2 h3 => by
    have e := atom_eqv h1 hk
    rw [List.map_cons, List.map_cons]
    by_cases h : k1 = k
    · rw [decide_eq_true h] at e
      rw [if_pos e, if_pos h]
      exact .cons h1 t (h3.repl hk t)
    · rw [decide_eq_false h] at e
      rw [if_neg (by rw [e]; exact Bool.false_ne_true), if_neg h]
      exact .cons h1 h2 (h3.repl hk t)
theorem AtV.app {dk dv : D} {k : Key} {v : V} (hk : atomK dk = some k) (t : Dt w K G v dv) : ∀ {kvs : List (D × D)} {vs : List (Key × V)}, AtV w K G kvs vs → AtV w K G (kvs ++ [(dk, dv)]) (vs ++ [(k, v)])
  | _, _, .nil => .cons hk t .nil
  | _, _, .cons h1 h2 h3 => .cons h1 h2 (h3.app hk t)
theorem AtV.put {dk dv : D} {k : Key} {v : V} {kvs : List (D × D)} {vs : List (Key × V)} (hk : atomK dk = some k) (t : Dt w K G v dv) (a : AtV w K G kvs vs) : AtV w K G (dput kvs dk dv) (putK vs k v) := by
  unfold dput putK
  rw [a.any hk]
  split
  · exact a.repl hk t
  · exact a.app hk t
theorem AtV.p : ∀ {kvs : List (D × D)} {vs : List (Key × V)} {us : List (Key × Value)}, AtV w K G kvs vs → KV vs us → AtP w K G kvs us
  | _, _, [], .nil, _ => .nil
  | _, _, u :: us, .nil, h => by unfold KV at h; cases h
  | _, _, [], .cons _ _ _, h => by unfold KV at h; cases h
  | _, _, (k', u) :: us, .cons h1 h2 h3, h => by
    unfold KV at h
    cases h with
    | cons q1 q2 =>
      obtain ⟨e1, e2⟩ := q1
      cases e1
      exact .cons h1 e2 h2 (h3.p q2)
end
def dcL (tg : D → Env' → R Env') (ft : Env' → R Bool) (fk fv : Env' → R D) (ρ : Env') : List D → List (D × D) → R (List (D × D))
  | [], acc => .ok acc
  | d :: ds, acc => tg d ρ >>= fun ρ1 => ft ρ1 >>= fun b => if b then fk ρ1 >>= fun k => fv ρ1 >>= fun v => if (atomK k).isSome = true then dcL tg ft fk fv ρ ds (dput acc k v) else stk else dcL tg ft fk fv ρ ds acc
def dcD (vs : List Nat) (fi : Env' → R (List D)) (tg : D → Env' → R Env') (ft : Env' → R Bool) (fk fv : Env' → R D) : Env' → R D := fun ρ => fi ρ >>= fun ds => lenOk ds.length >>= fun _ => noX (dcL tg ft fk fv (wipeD ρ vs) ds []) >>= fun kvs => .ok (.dict kvs)
theorem pe_redo {X : Cx} {x : Expr} {t : TE} (h : PE X x t) : PE X x (fun σ H Q => t σ H fun v H1 => ∀ pins s, Inv X pins σ H1 s → ∃ H2, Inv X pins σ H2 s ∧ Q v H2) :=
  ⟨fun pins s σ H Q I q => thn (h.run pins s σ H _ I q) fun u s1 ⟨v, H1, I1, r, q1⟩ => let ⟨H2, I2, q2⟩ := q1 pins s1 I1; ⟨v, H2, I2, r, q2⟩⟩
/-- a dict made by the comprehension, seen as an object -/
theorem dk_obj {X : Cx} {pins : List (Addr × Obj)} {σ : L2.St} {G H : Hp} {s : Shared} {A : Addr} {kvs : List (D × D)} {vs : List (Key × V)} (I : Inv X pins σ H s) (hA : H A = some (.dK vs)) (t : AtV X.w X.K G kvs vs) :
    ∃ ob, Inv X pins σ (upd H A (dO A ob)) s ∧ DcH X.w X.K G A ob kvs := by
  obtain ⟨z, hd, us, rel, dd⟩ := dk_of I.hok hA
  obtain ⟨o, es, ep, g1, g2, g3, g4, g5, g6⟩ := dd
  have p := t.p rel
  refine ⟨o, d_write (h' := s.heap) (t' := s.toks) I (by rw [hA]; exact True.intro) ⟨rfl, fun _ _ => rfl⟩ ⟨_, g1⟩ (dO_ok g1), ⟨hd, g2, ⟨es, ep, g3, at_es g5 (fun e he => g4 e (Array.mem_toList_iff.mp he)) p⟩, at_nd1 p g6⟩⟩
section
variable {X : Cx} {kx vx tgt iter : Expr} {ifs : List Expr} {scope : Scope} {own : List (Str × Nat)} {pos : Pos} {e : Bas → Nat → D → Prop} {O vs ws : List Nat} {fi : Env' → R (List D)} {tg : D → Env' → R Env'} {ft : Env' → R Bool} {fk fv : Env' → R D}
theorem dc_in {w : World} {K : PySem.W.Frag} {σ : L2.St} {H : Hp} {Q : VK} (hv : ∀ j ∈ ws, j ∈ vs)
    (h : ∃ B ρ G, Rp w K B O ρ σ G H ∧ gd (dcD vs fi tg ft fk fv ρ) (fun d => ∀ (A : Addr) G' H' acc kvs, d = .dict kvs → Gr G H G' H' → H A = none → G' A = none → H' A = some (.dK acc) → AtV w K G' kvs acc → Q (.ref A) H') (e B)) :
    tDc (iV w K e O fi) (gT w K noE O ws tg) (tW w K noE O ft) (tV w K noE O fk) (tV w K noE O fv) vs σ H Q := by
  obtain ⟨B, ρ, G, r, q⟩ := h
  refine ⟨B, ρ, G, r, gd_mono (gd_bind.mp q) fun ds q J G1 H1 g1 wk A nA => ?_⟩
  obtain ⟨hlen, q⟩ := lenOk_in (gd_bind.mp q)
  obtain ⟨ys, eys, q⟩ := noX_in (gd_bind.mp q)
  have r1 := r.grow g1
  have nA0 : H A = none := none_sub g1.keep nA
  have nG1 : G1 A = none := none_sub g1.sub nA
  have gA := Gr.own (o := .dK []) g1.sub nA
  have nB : B.H A = none := by
    cases z : B.H A with
    | none => rfl
    | some o => rw [r.gr.keep A o z] at nA0; cases nA0
  have ap : ∀ (i : Nat) (d : D), i ∈ O → (wipeD ρ vs)[i]? = some (some d) → (wipe σ vs)[i]? ≠ some (some (.ref A)) := fun i d hi e z => by
    obtain ⟨b, q1, q2, _⟩ := (r1.wipe vs).own i d e hi
    rw [z] at q1; cases q1
    obtain ⟨u, hu⟩ := q2.there
    rw [hu] at nA; cases nA
  refine ⟨fun i m H' => m = ds.length - i ∧ i ≤ ds.length ∧ ∃ G' acc kvs, Rp w K B O (wipeD ρ vs) (wipe σ vs) G' H' ∧ Gr G1 H1 G' H' ∧ G' A = none ∧ H' A = some (.dK acc) ∧ AtV w K G' kvs acc ∧ dcL tg ft fk fv (wipeD ρ vs) (ds.drop i) kvs = .ok ys ∧ kvs.length ≤ i, ⟨ds.length, rfl, Nat.zero_le _, G1, [], [], (r1.grow gA).wipe vs, gA, nG1, upd_same, .nil, eys, Nat.le_refl _⟩, fun i m H' hW => ?_⟩
  obtain ⟨rfl, hi, G', acc, kvs, r', g', nG, hA, tA, eR, hdl⟩ := hW
  by_cases hl : i < ds.length
  · refine .inr ⟨wk.go i G' H' (g'.up g1.sub) g'.sub hl, fun H2 => ∃ G2 acc kvs, Rp w K B O (wipeD ρ vs) (wipe σ vs) G2 H2 ∧ Gr G1 H1 G2 H2 ∧ G2 A = none ∧ H2 A = some (.dK acc) ∧ AtV w K G2 kvs acc ∧ dcL tg ft fk fv (wipeD ρ vs) (ds.drop (i + 1)) kvs = .ok ys ∧ kvs.length ≤ i + 1, fun H2 h2 => ⟨ds.length - (i + 1), by omega, rfl, hl, h2⟩, fun x H2 y => ?_⟩
    obtain ⟨G2, g2, t2⟩ := wk.yld i ds[i] G' H' x H2 (g'.up g1.sub) g'.sub (List.getElem?_eq_getElem hl) y
    rw [List.drop_eq_getElem_cons hl] at eR
    obtain ⟨ρ1, e1, eR⟩ := bind_ok (show (tg ds[i] (wipeD ρ vs) >>= fun ρ1 => ft ρ1 >>= fun b => if b then fk ρ1 >>= fun k => fv ρ1 >>= fun v => if (atomK k).isSome = true then dcL tg ft fk fv (wipeD ρ vs) (ds.drop (i + 1)) (dput kvs k v) else stk else dcL tg ft fk fv (wipeD ρ vs) (ds.drop (i + 1)) kvs) = .ok ys from eR)
    obtain ⟨b, e2, eR⟩ := bind_ok eR
    have neA : H' A ≠ none := by rw [hA]; exact fun z => nomatch z
    refine ⟨B, wipeD ρ vs, G2, ds[i], r'.grow g2, t2, gd_of e1 fun σ2 k2 r2 => ⟨?_, B, ρ1, G2, r2, gd_of e2 fun G3 H3 g3 => ?_⟩⟩
    · have := wipe_same (vs := vs) k2.len k2.off hv
      rw [this, wipe_wipe]
    · have g23 := g2.trans g3
      cases b with
      | false =>
        refine iteF ⟨G3, acc, kvs, r'.grow g23, g'.trans g23, (g23.fix A neA).trans nG, g23.keep A _ hA, tA.sub (g23.up g'.sub), eR, by omega⟩
      | true =>
        obtain ⟨y1, e3, eR⟩ := bind_ok (show (fk ρ1 >>= fun k => fv ρ1 >>= fun v => if (atomK k).isSome = true then dcL tg ft fk fv (wipeD ρ vs) (ds.drop (i + 1)) (dput kvs k v) else stk) = .ok ys from eR)
        obtain ⟨y2, e4, eR⟩ := bind_ok eR
        split at eR
        · rename_i hk
          obtain ⟨k, hk⟩ := Option.isSome_iff_exists.mp hk
          refine iteT ⟨B, ρ1, G3, r2.grow g3, gd_of e3 fun u G4 H4 g4 t4 => ⟨B, ρ1, G4, (r2.grow g3).grow g4, gd_of e4 fun u2 G5 H5 g5 t5 => ?_⟩⟩
          have g25 := (g23.trans g4).trans g5
          have hA5 := g25.keep A _ hA
          have nG5 : G5 A = none := (g25.fix A neA).trans nG
          have eu : u = kV k := atom_V t4 hk
          have tA5 := (tA.sub (g25.up g'.sub)).put hk t5
          refine ⟨acc, k, eu, hA5, by rw [← tA.len]; omega, G5, putK acc k u2, dput kvs y1 y2, ?_, ?_, nG5, upd_same, tA5, eR, by have := dput_len kvs y1 y2; omega⟩
          · exact (r'.grow g25).out nG5 nB ap
          · exact (g'.trans g25).wr nA nG5
        · cases eR
  · have ei : i = ds.length := by omega
    subst ei
    rw [List.drop_length] at eR
    cases eR
    exact .inl ⟨wk.stop G' H' (g'.up g1.sub) g'.sub, q A G' H' acc _ rfl (g1.trans g') nA0 nG hA tA⟩
theorem o_dc (own : List (Str × Nat)) (hc : X.calm = true) (hN : X.N.Nodup) (hi : PI X tgt iter (iV X.w X.K e O fi)) (ok : BlkOk X.N X.env.scope scope own) (hg : Blk X scope fun Y => PG Y tgt (gT Y.w Y.K noE O ws tg)) (ht : Blk X scope fun Y => PTs Y ifs (tW Y.w Y.K noE O ft)) (hk : Blk X scope fun Y => PE Y kx (tV Y.w Y.K noE O fk)) (he : Blk X scope fun Y => PE Y vx (tV Y.w Y.K noE O fv))
    (hv : ∀ j ∈ ws, j ∈ own.map (·.2) := by decide) (hs : ∀ x, foldedSetIterable iter X.env x = pure x := by intro _; rfl) : PE X (.DictComp kx vx [⟨tgt, iter, ifs, 0⟩] scope pos) (tO X.w X.K e O (dcD (own.map (·.2)) fi tg ft fk fv)) :=
  pe_imp (pe_redo (pe_dc hc hN hi ok hg ht hk he hs)) fun σ H Q ⟨B, ρ, G, r, q⟩ => dc_in hv ⟨B, ρ, G, r, gd_mono q fun d q A G' H' acc kvs ed g' n1 n2 hA tA pins s I => by
    subst ed
    obtain ⟨ob, I2, c⟩ := dk_obj I hA tA
    exact ⟨_, I2, q A G' _ (g'.wr n1 n2) n1 n2 (c.own upd_same)⟩⟩
end
end Vs

set_option Elab.async false
set_option linter.all false
set_option maxRecDepth 100000
/-! An own exception over ValueError whose __init__(self, at) says super().__init__(at) and keeps self.at; classes over it that inherit it. -/
namespace PySem
namespace PlayX
open PySem.W PySem.Calls PyProof.Rows PySem.HandSPX
/-! ### the text of __init__ -/
def iA (p1 p2 : Pos) : Arguments := { posonlyargs := [], args := [{ arg := "self", annotation := none, pos := p1 }, { arg := "at", annotation := none, pos := p2 }], vararg := none, kwonlyargs := [], kw_defaults := [], kwarg := none, defaults := [] }
def iB (l m : Nat) : List Stmt := [.Expr (.Call (.Attribute (.Call (.Name "super" ⟨l, 8, l, 13⟩) [] [] ⟨l, 8, l, 15⟩) "__init__" ⟨l, 8, l, 24⟩) [.Name "at" ⟨l, 25, l, 27⟩] [] ⟨l, 8, l, 28⟩) ⟨l, 8, l, 28⟩,
  .Assign [.Attribute (.Name "self" ⟨m, 8, m, 12⟩) "at" ⟨m, 8, m, 15⟩] (.Name "at" ⟨m, 18, m, 20⟩) ⟨m, 8, m, 20⟩]
def iS : Scope := { kind := .function, names := [(PySem.Str.ofString "self", .local), (PySem.Str.ofString "at", .local), (PySem.Str.ofString "__class__", .free), (PySem.Str.ofString "super", .globalImplicit)], isGenerator := false, isCoroutine := false, more := [] }
/-- what the written part says of __init__, at fI, of the class D that tells it -/
structure PlayBase (prog : Program) (K : Frag) (D fI : Addr) : Prop where
  tC : typeIn K (.ref fI) = some (.type "function")
  clD : ∃ cd, clsIn K D = some cd
  any : nsIn K cStatics "thirdparty.any" = some none
  sup : nsIn K mainGlobals "super" = some none
  hn : specialIn K (.builtin "object.__class__") "__get__" = some (some (.builtin "getset_descriptor.__get__"))
  ht : takesIn K (.builtin "object.__class__") = some true
  top : (prog.main.scope.names.lookup ("super" : Str)).isSome = false
  fn : ∃ (oc : Value) (od : Option Addr) (doc pm : Value) (an : Option Addr) (cda : Addr) (ct : Value) (osl : Array (Option Value)) (p1 p2 : Pos) (cc : Addr) (cl : Value) (cld : Option Addr) (csl : Array (Option Value)) (ccl : Value) (cdd : Option Addr) (vs : Array Value) (ccs : Array (Option Value)) (file : Str) (tf : Tok) (l m : Nat),
    K.lookup fI = some ⟨oc, od, .func (ksFn "__init__" "PlayError.__init__" (iA p1 p2) (iB l m) iS .none .none doc pm an (.ref cda) ct cc), osl⟩ ∧ codeIn K (.ref cda) "PlayError.__init__" = true ∧
    K.lookup cc = some ⟨cl, cld, .cell (some (.ref D)), csl⟩ ∧ K.lookup cda = some ⟨ccl, cdd, .fields vs, ccs⟩ ∧ vs[2]? = some (.str file tf) ∧ ((prog.main.file : Str) == file) = true ∧ (l = 5 ∧ m = 6 ∨ l = 6 ∧ m = 7)
/-- what it says of a class C over D (or of D) -/
structure PlayTxt (K : Frag) (C D fI : Addr) : Prop where
  cls : ∃ nm q N bs bm sn sub ab col dd k0 k1 k2 k3 k5, K.lookup C = some (excClassObj nm q C N bs bm true sn sub ab col dd k0 k1 k2 k3 k5 "ValueError.__new__") ∧ refsVE bm = true
  sa : findIn K (.ref C) "__setattr__" = some (some (.builtin "object.__setattr__"))
  ga : findIn K (.ref C) "__getattribute__" = some (some (.builtin "BaseException.__getattribute__"))
  gg : findIn K (.ref C) "__getattr__" = some none
  noN : findIn K (.ref C) "at" = some none
  iC : findIn K (.ref C) "__init__" = some (some (.ref fI))
  kC : keepIn K (.ref C) = true
  exC : subIn K (.ref C) (.type "BaseException") = some true
  veC : subIn K (.ref C) (.type "ValueError") = some true
  tyC : typeIn K (.ref C) = some (.type "type")
  hdC : hasDictIn K C = true
  te : exmOne K (.ref C) (.ref D) = some true
  inD : mroIn K C (.ref D) = some true
  ca : findIn K (.ref C) "__class__" = some (some (.builtin "object.__class__"))
  hm : mroIn K C (.type "object") = some true
  ei : excInitIn K C [.type "ValueError", .type "Exception", .type "BaseException", .type "object"] "ValueError.__new__" = true
  si : ks_superIn K C D "__init__" = some (some (.builtin "ValueError.__init__"))
theorem one_size (v : Value) : [v].length ≤ sizeLine := by
  rw [sizeLine_eq]
  exact (by decide : 1 ≤ 16777216)
/-- what __init__ leaves of a fresh exception at x; h: the heap ahead of it, without x -/
structure InitEnd (h h' : Heap) (x C dx t1 : Addr) (v : Value) : Prop where
  keep : ∀ b o, h.get? b = some o → h'.get? b = some o
  obj : h'.get? x = some { cls := .ref C, dict := some dx, data := .fields #[.ref t1, .none, .none, .none, .bool false, .none] }
  dbig : h.objs.size ≤ dx
  dne : dx ≠ x
  ns : h'.Ns1 dx (fun y => if y = "at" then some v else none)
/-- a made exception -/
structure OwnMade (h h' : Heap) (e C d : Addr) (v : Value) : Prop where
  keep : ∀ b o, h.get? b = some o → h'.get? b = some o
  new : h.objs.size ≤ e
  obj : ∃ oe vs, h'.get? e = some oe ∧ oe.cls = .ref C ∧ oe.dict = some d ∧ oe.data = .fields vs ∧ vs[1]? = some .none ∧ vs[2]? = some .none
  dbig : h.objs.size ≤ d
  dne : d ≠ e
  ns : h'.Ns1 d (fun y => if y = "at" then some v else none)
section
variable {prog : Program} {w : World} {A : Around} {E : Value → Shared → Prop} {R : Result → Shared → Prop} {s : Shared} {K : Frag} {mg : Str → Option Value} {C D fI : Addr}
theorem play_init (T0 : PlayBase prog K D fI) (T : PlayTxt K C D fI) {h0 : Heap} {x t0 : Addr} {v : Value} (X0 : K.In h0) (hlim : h0.NoLimit) (k0 : ∀ b o, h0.get? b = some o → s.heap.get? b = some o) (nx : h0.get? x = none) (hx : s.heap.get? x = some (excO C t0)) (hroom : A.depth < recursionLimit)
    (hg : h0.Ns mainGlobals mg) (hmg : mg "super" = none) (hb : ∃ mb, h0.Ns builtinsNs mb ∧ ∀ x : Str, x ≠ "__name__" → mb x = bootBuiltins x) (hbig : h0.objs.size ≤ s.heap.objs.size)
    (hq : ∀ h' tk dx t1, InitEnd h0 h' x C dx t1 v → R (.ok (.ret .none)) { s with heap := h', toks := tk }) :
    codeAny (model prog w) A (.call (.ref fI) ⟨[.ref x, v], []⟩) R s := by
  obtain ⟨oc, od, doc, pm, an, cda, ct, osl, p1, p2, cc, cl, cld, csl, ccl, cdd, vs, ccs, file, tf, l, m, ho, hcd, hcell, hcode, hvs, hfile, ⟨rfl, rfl⟩ | ⟨rfl, rfl⟩⟩ := T0.fn
  · obtain ⟨nm, q, N, bs, bm, sn, sub, ab, col, dd, k0', k1, k2, k3, k5, hC, hbm⟩ := T.cls
    obtain ⟨cdD, hD⟩ := T0.clD
    have hcl : clsIn K C = some { name := nm, bases := bs, mro := .ref C :: bm, ns := N, qualname := q, hasDict := true, slotNames := sn, subclasses := sub, abstract := ab, collection := col, hasDel := false } := by unfold clsIn; rw [hC] <;> rfl
    have X : K.In s.heap := X0.keeps k0
    refine ks_codeAny_call_defAt (fd := ksFn "__init__" "PlayError.__init__" (iA p1 p2) (iB 5 6) iS .none .none doc pm an (.ref cda) ct cc) (body := iB 5 6) (binds := [("self", .ref x), ("at", v)]) hroom (X _ _ ho) rfl (hlim.keeps k0) (codeRec_of X hcd) rfl
      (BindsTo.of_eq (by first | rfl | with_unfolding_all rfl)) (show ∀ x ∈ iS.names, x.2 ≠ .cell by decide) (by first | decide | (intro y hy; revert y; decide) | (intro y hy; rcases List.mem_cons.mp hy with rfl | hy; rfl; rcases List.mem_cons.mp hy with rfl | hy; rfl; cases hy)) (fun h1 hns hk => ?_)
    have hxL : s.heap.objs.size ≠ x := Nat.ne_of_gt (Heap.lt_size hx)
    have F : Fr h0 s.heap.objs.size h1 (fun y => [(("self" : Str), Value.ref x), ("at", v)].reverse.lookup y) := ⟨hns, fun b o e => hk b o (k0 b o e), hbig⟩
    have N0 : News h0 s.heap.objs.size h1 [(x, excObj C t0 none .none)] := fun p hp => by
      rw [List.mem_singleton.mp hp]
      exact ⟨hk _ _ hx, Ne.symm hxL, nx⟩
    show _root_.PySem.wpAt (model prog w) (A.deeper (ksEnv "PlayError.__init__" iS s.heap.objs.size fI (.ref cda) cc)) (.func (iB 5 6) (ksEnv "PlayError.__init__" iS s.heap.objs.size fI (.ref cda) cc)) (execs (iB 5 6) (ksEnv "PlayError.__init__" iS s.heap.objs.size fI (.ref cda) cc)) _ _ _
    have gSuper : ∀ {s1 : Shared} {Q : Value → Shared → Prop} {E : Value → Shared → Prop} {A : Around} {L : Addr}, (∀ b o, h0.get? b = some o → s1.heap.get? b = some o) → Q (.type "super") s1 → wpAny (model prog w) A (loadName (ksEnv "PlayError.__init__" iS L fI (.ref cda) cc) "super") Q E s1 := fun {s1 Q E A L} k h => by
      obtain ⟨mb, hb1, hb2⟩ := hb
      exact ks_loadName_global rfl rfl (Calls.loadGlobal_builtin (hg.keeps k) hmg (hb1.keeps k) ((hb2 _ (by decide)).trans (by decide +kernel : bootBuiltins "super" = some (.type "super"))) h)
    refine ks_wpAt_execs_cons (ks_wpAt_Expr_any (ks_wpAt_MethodCall ?_))
    have X1 : K.In h1 := X0.keeps F.keep
    have I1 : InstAt h1 x (excObj C t0 none .none) C none := ⟨hk _ _ hx, rfl, rfl, trivial⟩
    obtain ⟨oD, hD1, hD2⟩ : ∃ oD, h1.get? D = some oD ∧ oD.data = .cls cdD := by
      unfold clsIn at hD
      split at hD
      · rename_i c d cd' sl ho'
        cases hD
        exact ⟨_, X1 _ _ ho', rfl⟩
      · cases hD
    refine ks_wpAt_super_base (env := ksEnv "PlayError.__init__" iS s.heap.objs.size fI (.ref cda) cc) rfl rfl (by decide) rfl (X1 _ _ ho) rfl rfl rfl (X1 _ _ hcode) rfl hvs hfile T0.top ?_
    refine gSuper F.keep ⟨rfl, ?_⟩
    refine wpAny_loadName_free rfl rfl rfl ⟨_, X1 _ _ hcell, rfl⟩ ?_
    refine wpAny_loadName_local rfl rfl F.ns (v := .ref x) (by first | rfl | with_unfolding_all rfl) ?_
    refine ks_wpAny_isType_cls hD1 hD2 ⟨rfl, ?_⟩
    refine ks_wpAny_call_super hD1 hD2 I1.at_ I1.cls (fun c e => nomatch e) (looks_mroIn X1 T.inD) (fun h2 e2 k2 => ?_)
    obtain ⟨F2, N2, l2⟩ := ks_newsPush (s := { s with heap := h1 }) F N0 rfl e2 k2
    have I2 : InstAt h2 x (excObj C t0 none .none) C none := ⟨k2 _ _ I1.at_, rfl, rfl, trivial⟩
    refine kxs_method (s := ⟨h2, s.gens, s.drawn, _, s.os⟩) kxs_ValueError F2 X0 N2 List.mem_cons_self I2 T0.any T.si T.veC (by decide) fun u h3 F3 N3 l3 => ?_
    refine kxs_callWith1 (x := x) (i := "ValueError.__init__") N3 List.mem_cons_self ?_
    refine PyProof.Rows.args_cons (wpAny_Name (wpAny_loadName_local rfl rfl F3.ns (v := v) (by first | rfl | with_unfolding_all rfl) (PyProof.Rows.args_nil ⟨kxs_at N3 List.mem_cons_self, ?_⟩)) (by decide)) rfl
    have xu : u ≠ x := Nat.ne_of_gt (l3 _ (List.mem_cons_of_mem _ List.mem_cons_self))
    have xs : h1.objs.size ≠ x := Nat.ne_of_gt (l2 _ List.mem_cons_self)
    refine kxs_call (nw := fun o => [(u, kxs_mw "ValueError.__init__" x), (h1.objs.size, ks_superObj D x C), (x, o)]) F3 X0 N3 PySem.F.excBase_ValueError T.ei List.mem_cons_self (.tail xu (.tail xs (.head (fun _ h => nomatch h)))) (one_size v) fun t4 h4 F4 N4 l4 => ?_
    refine ks_wpAt_execs_cons (ks_wpAt_Assign_Attr ?_)
    refine wpAt_of_wpAny (wpAny_Name (wpAny_loadName_local rfl rfl F4.ns (v := v) (by first | rfl | with_unfolding_all rfl) ?_) (by decide))
    refine wpAny_Name (wpAny_loadName_local rfl rfl F4.ns (v := .ref x) (by first | rfl | with_unfolding_all rfl) ?_) (by decide)
    have X4 : K.In h4 := X0.keeps F4.keep
    have hx4 : h4.get? x = some (excO C t4) := (N4 (x, excObj C t4 none .none) (by simp)).1
    refine set_plain X4 (ox := excO C t4) (od := none) ⟨hx4, rfl, rfl, trivial⟩ T.sa ?_
    refine exc_osa X4 hx4 hcl (show refsVE (.ref C :: bm) = true from hbm) rfl T.noN (fun h5 tk5 dx k5' dn dne hx5 hn5 => ?_)
    have z : h0.objs.size ≤ h4.objs.size := Nat.le_of_lt (Nat.lt_of_le_of_lt F4.above F4.ns.lt)
    exact wpAt_of_wpAny (wpAny_execs_nil (hq h5 tk5 dx t4 ⟨fun b o e => k5' b o (fun y => by rw [y, nx] at e; cases e) (F4.keep b o e), hx5, Nat.le_trans z dn, dne, hn5⟩))
  · obtain ⟨nm, q, N, bs, bm, sn, sub, ab, col, dd, k0', k1, k2, k3, k5, hC, hbm⟩ := T.cls
    obtain ⟨cdD, hD⟩ := T0.clD
    have hcl : clsIn K C = some { name := nm, bases := bs, mro := .ref C :: bm, ns := N, qualname := q, hasDict := true, slotNames := sn, subclasses := sub, abstract := ab, collection := col, hasDel := false } := by unfold clsIn; rw [hC] <;> rfl
    have X : K.In s.heap := X0.keeps k0
    refine ks_codeAny_call_defAt (fd := ksFn "__init__" "PlayError.__init__" (iA p1 p2) (iB 6 7) iS .none .none doc pm an (.ref cda) ct cc) (body := iB 6 7) (binds := [("self", .ref x), ("at", v)]) hroom (X _ _ ho) rfl (hlim.keeps k0) (codeRec_of X hcd) rfl
      (BindsTo.of_eq (by first | rfl | with_unfolding_all rfl)) (show ∀ x ∈ iS.names, x.2 ≠ .cell by decide) (by first | decide | (intro y hy; revert y; decide) | (intro y hy; rcases List.mem_cons.mp hy with rfl | hy; rfl; rcases List.mem_cons.mp hy with rfl | hy; rfl; cases hy)) (fun h1 hns hk => ?_)
    have hxL : s.heap.objs.size ≠ x := Nat.ne_of_gt (Heap.lt_size hx)
    have F : Fr h0 s.heap.objs.size h1 (fun y => [(("self" : Str), Value.ref x), ("at", v)].reverse.lookup y) := ⟨hns, fun b o e => hk b o (k0 b o e), hbig⟩
    have N0 : News h0 s.heap.objs.size h1 [(x, excObj C t0 none .none)] := fun p hp => by
      rw [List.mem_singleton.mp hp]
      exact ⟨hk _ _ hx, Ne.symm hxL, nx⟩
    show _root_.PySem.wpAt (model prog w) (A.deeper (ksEnv "PlayError.__init__" iS s.heap.objs.size fI (.ref cda) cc)) (.func (iB 6 7) (ksEnv "PlayError.__init__" iS s.heap.objs.size fI (.ref cda) cc)) (execs (iB 6 7) (ksEnv "PlayError.__init__" iS s.heap.objs.size fI (.ref cda) cc)) _ _ _
    have gSuper : ∀ {s1 : Shared} {Q : Value → Shared → Prop} {E : Value → Shared → Prop} {A : Around} {L : Addr}, (∀ b o, h0.get? b = some o → s1.heap.get? b = some o) → Q (.type "super") s1 → wpAny (model prog w) A (loadName (ksEnv "PlayError.__init__" iS L fI (.ref cda) cc) "super") Q E s1 := fun {s1 Q E A L} k h => by
      obtain ⟨mb, hb1, hb2⟩ := hb
      exact ks_loadName_global rfl rfl (Calls.loadGlobal_builtin (hg.keeps k) hmg (hb1.keeps k) ((hb2 _ (by decide)).trans (by decide +kernel : bootBuiltins "super" = some (.type "super"))) h)
    refine ks_wpAt_execs_cons (ks_wpAt_Expr_any (ks_wpAt_MethodCall ?_))
    have X1 : K.In h1 := X0.keeps F.keep
    have I1 : InstAt h1 x (excObj C t0 none .none) C none := ⟨hk _ _ hx, rfl, rfl, trivial⟩
    obtain ⟨oD, hD1, hD2⟩ : ∃ oD, h1.get? D = some oD ∧ oD.data = .cls cdD := by
      unfold clsIn at hD
      split at hD
      · rename_i c d cd' sl ho'
        cases hD
        exact ⟨_, X1 _ _ ho', rfl⟩
      · cases hD
    refine ks_wpAt_super_base (env := ksEnv "PlayError.__init__" iS s.heap.objs.size fI (.ref cda) cc) rfl rfl (by decide) rfl (X1 _ _ ho) rfl rfl rfl (X1 _ _ hcode) rfl hvs hfile T0.top ?_
    refine gSuper F.keep ⟨rfl, ?_⟩
    refine wpAny_loadName_free rfl rfl rfl ⟨_, X1 _ _ hcell, rfl⟩ ?_
    refine wpAny_loadName_local rfl rfl F.ns (v := .ref x) (by first | rfl | with_unfolding_all rfl) ?_
    refine ks_wpAny_isType_cls hD1 hD2 ⟨rfl, ?_⟩
    refine ks_wpAny_call_super hD1 hD2 I1.at_ I1.cls (fun c e => nomatch e) (looks_mroIn X1 T.inD) (fun h2 e2 k2 => ?_)
    obtain ⟨F2, N2, l2⟩ := ks_newsPush (s := { s with heap := h1 }) F N0 rfl e2 k2
    have I2 : InstAt h2 x (excObj C t0 none .none) C none := ⟨k2 _ _ I1.at_, rfl, rfl, trivial⟩
    refine kxs_method (s := ⟨h2, s.gens, s.drawn, _, s.os⟩) kxs_ValueError F2 X0 N2 List.mem_cons_self I2 T0.any T.si T.veC (by decide) fun u h3 F3 N3 l3 => ?_
    refine kxs_callWith1 (x := x) (i := "ValueError.__init__") N3 List.mem_cons_self ?_
    refine PyProof.Rows.args_cons (wpAny_Name (wpAny_loadName_local rfl rfl F3.ns (v := v) (by first | rfl | with_unfolding_all rfl) (PyProof.Rows.args_nil ⟨kxs_at N3 List.mem_cons_self, ?_⟩)) (by decide)) rfl
    have xu : u ≠ x := Nat.ne_of_gt (l3 _ (List.mem_cons_of_mem _ List.mem_cons_self))
    have xs : h1.objs.size ≠ x := Nat.ne_of_gt (l2 _ List.mem_cons_self)
    refine kxs_call (nw := fun o => [(u, kxs_mw "ValueError.__init__" x), (h1.objs.size, ks_superObj D x C), (x, o)]) F3 X0 N3 PySem.F.excBase_ValueError T.ei List.mem_cons_self (.tail xu (.tail xs (.head (fun _ h => nomatch h)))) (one_size v) fun t4 h4 F4 N4 l4 => ?_
    refine ks_wpAt_execs_cons (ks_wpAt_Assign_Attr ?_)
    refine wpAt_of_wpAny (wpAny_Name (wpAny_loadName_local rfl rfl F4.ns (v := v) (by first | rfl | with_unfolding_all rfl) ?_) (by decide))
    refine wpAny_Name (wpAny_loadName_local rfl rfl F4.ns (v := .ref x) (by first | rfl | with_unfolding_all rfl) ?_) (by decide)
    have X4 : K.In h4 := X0.keeps F4.keep
    have hx4 : h4.get? x = some (excO C t4) := (N4 (x, excObj C t4 none .none) (by simp)).1
    refine set_plain X4 (ox := excO C t4) (od := none) ⟨hx4, rfl, rfl, trivial⟩ T.sa ?_
    refine exc_osa X4 hx4 hcl (show refsVE (.ref C :: bm) = true from hbm) rfl T.noN (fun h5 tk5 dx k5' dn dne hx5 hn5 => ?_)
    have z : h0.objs.size ≤ h4.objs.size := Nat.le_of_lt (Nat.lt_of_le_of_lt F4.above F4.ns.lt)
    exact wpAt_of_wpAny (wpAny_execs_nil (hq h5 tk5 dx t4 ⟨fun b o e => k5' b o (fun y => by rw [y, nx] at e; cases e) (F4.keep b o e), hx5, Nat.le_trans z dn, dne, hn5⟩))
theorem play_made (T0 : PlayBase prog K D fI) (T : PlayTxt K C D fI) {v : Value} (X : K.In s.heap) (hlim : s.heap.NoLimit) (hroom : A.depth + 1 < recursionLimit)
    (hg : s.heap.Ns mainGlobals mg) (hmg : mg "super" = none) (hb : ∃ mb, s.heap.Ns builtinsNs mb ∧ ∀ x : Str, x ≠ "__name__" → mb x = bootBuiltins x)
    (hq : ∀ h' tk e d, OwnMade s.heap h' e C d v → R (.ok (.ret (.ref e))) { s with heap := h', toks := tk }) :
    codeAny (model prog w) A (.call (.ref C) ⟨[v], []⟩) R s := by
  obtain ⟨nm, q, N, bs, bm, sn, sub, ab, col, dd, k0, k1, k2, k3, k5, hC, hbm⟩ := T.cls
  obtain ⟨hp, g, dr, tk, os⟩ := s
  have k : ∀ b o, hp.get? b = some o → ((hp.push (kdv_tup [v])).push (excO C hp.objs.size)).get? b = some o := fun b o e => Heap.get?_push_of_some _ (Heap.get?_push_of_some _ e)
  have hget : ((hp.push (kdv_tup [v])).push (excO C hp.objs.size)).get? (hp.objs.size + 1) = some (excO C hp.objs.size) := by heap_get
  have nx : hp.get? (hp.objs.size + 1) = none := by
    cases e : hp.get? (hp.objs.size + 1) with
    | none => rfl
    | some o => exact absurd (Nat.lt_of_succ_lt (Heap.lt_size e)) (Nat.lt_irrefl _)
  refine call_own F.excBase_ValueError (fun X => refsVE_contains X bm hbm) (X _ _ hC) (looks_findIn X T.iC) (fun self => bind_fn X self T0.tC) (one_size v) ?_
  refine play_init (s := ⟨(hp.push (kdv_tup [v])).push (excO C hp.objs.size), g, dr, tk, os⟩) T0 T (h0 := hp) X hlim k nx hget ?_ hg hmg hb ?_ fun h' tk' dx t1 M => ?_
  · show A.depth + 1 < recursionLimit
    exact hroom
  · show hp.objs.size ≤ ((hp.push (kdv_tup [v])).push (excO C hp.objs.size)).objs.size
    rw [Heap.size_push, Heap.size_push]
    omega
  · exact ⟨rfl, hq h' tk' (hp.objs.size + 1) dx ⟨M.keep, Nat.le_succ _, ⟨_, _, M.obj, rfl, rfl, rfl, rfl, rfl⟩, M.dbig, M.dne, M.ns⟩⟩
end
end PlayX
end PySem

namespace Vs
open PySem PySem.Spec PyProof.Rows L2
theorem relO_at {v : V} {v' : Value} (r : RelV v v') (f : Str) : RelO (List.lookup f [(("at" : Str), v)]) (if f = "at" then some v' else none) := by
  by_cases hw : f = "at"
  · subst hw
    rw [if_pos rfl, show List.lookup ("at" : Str) [(("at" : Str), v)] = some v by simp [List.lookup]]
    exact r
  · rw [if_neg hw]
    have qw : (f == ("at" : Str)) = false := by simpa using hw
    rw [show List.lookup f [(("at" : Str), v)] = none by simp [List.lookup, qw]]
    trivial
section
variable {X : Cx} {C D fI : Addr}
/-- C(e) -/
def tMkX (C : Addr) (ta : TA) : L2.St → Hp → XK → Prop := fun σ H Q => ta σ H fun vs H1 => ∃ v, vs = [v] ∧ ∀ d, H1 d = none → Q (.ref C) (some d) (upd H1 d (.xd [(("at" : Str), v)]))
theorem pmk_x {a : Expr} {ta : TA} {x : Str} {p pos : Pos} {k : Nat} (T0 : PySem.PlayX.PlayBase X.prog X.K D fI) (T : PySem.PlayX.PlayTxt X.K C D fI) (hr : Room k X.A) (ha : PA X [a] ta) (hm : X.mg x = some (.ref C)) (hsu : X.mg "super" = none) (hg : Gl X x := by rfl) (hdb : (x == ("__debug__" : Str)) = false := by decide)
    (he : starEach (a :: []) X.env = (false, eval a X.env) :: starEach [] X.env := by rfl) (hpl : (backTo pos (starEach [] X.env)).any (·.1) = false := by rfl) :
    L2N.PMk X (.Call (.Name x p) [a] [] pos) (tMkX C ta) := by
  intro pins s σ H Q I h
  refine wpAny_Call_Name_kw (ld_glob I hg hm ?_ hdb)
  refine PySem.W.callWith_K (h₀ := X.base) I.ok.mod.kin T.kC (thn (ha.run pos pins s σ H _ I h) fun us s1 hh => ?_) he hpl
  obtain ⟨vs, H1, I1, r1, v, ev, q1⟩ := hh
  subst ev
  refine ⟨I1.kIn, ?_⟩
  cases r1 with
  | cons rv rn =>
    rename_i v' us'
    cases rn
    show wpAny _ _ (call (.ref C) [v']) _ _ _
    have hlim := I1.nolimit
    have hgl := I1.mod.glob.keeps I1.bk
    obtain ⟨mb, hb1, hb2⟩ := I1.mod.blt
    have hbl := hb1.keeps I1.bk
    obtain ⟨hp, g, dr, tk, os⟩ := s1
    refine wpAny_call (PySem.PlayX.play_made T0 T I1.kIn hlim (by have := hr.dp; omega) hgl hsu ⟨mb, hbl, hb2⟩ fun h' tk' e d M => ?_)
    show L2N.MkP X pins σ Q (.ref e) ⟨h', g, dr, tk', os⟩
    obtain ⟨oe, fv, hoe, hc, hd, hdat, h1, h2⟩ := M.obj
    have hns := M.ns
    obtain ⟨G', g1, g2⟩ := restrict h' fun b => decide (b ≠ e)
    have gk : ∀ b, b ≠ e → G'.get? b = h'.get? b := fun b hb => g1 b (decide_eq_true hb)
    have ge : G'.get? e = none := g2 e (by simp)
    have old : ∀ b o, hp.get? b = some o → G'.get? b = some o := fun b o q => (gk b (Nat.ne_of_lt (Nat.lt_of_lt_of_le (Heap.lt_size q) M.new))).trans (M.keep b o q)
    have ob : ObjOk X.prog X.w (upd H1 d (.xd [(("at" : Str), v)])) G' d (.xd [(("at" : Str), v)]) :=
      ⟨_, hns.at (fun o q => (gk d M.dne).trans q), fun f => relO_at rv f⟩
    have J : Inv X pins σ (upd H1 d (.xd [(("at" : Str), v)])) ⟨G', g, dr, tk', os⟩ := I1.laid (t' := tk') old M.dbig ob
    refine ⟨e, oe, fv, ⟨G', g, dr, tk', os⟩, _, .ref C, some d, rfl, J, fun b o q => ?_, ge, hoe, ⟨hc, hd, fun vs' q => by rw [hdat] at q; cases q; exact h2⟩, hdat, h1, ?_, rfl, I1.bare, raises_own T.exC T.tyC, q1 d (I1.hok.fresh M.dbig)⟩
    · by_cases hb : b = e
      · have q' : G'.get? b = some o := q
        rw [hb, ge] at q'; cases q'
      · exact (gk b hb).symm.trans q
    · rw [upd_ne (Ne.symm M.dne)]
      exact I1.hok.fresh M.new
end
end Vs

set_option Elab.async false
set_option linter.all false
set_option maxRecDepth 100000
/-! Errors: raise, defs that errors leave, their calls. -/
namespace Vs
open PySem PySem.Spec PyProof.Rows L2
/-- what is wished of an error of a def's body, by what its caller wishes -/
def eX (w : World) (K : PySem.W.Frag) (cl : Nat → Addr) (E : XK) : Bas → Nat → D → Prop := fun B c d => ∀ v G' H' dd, Gr B.G B.H G' H' → B.H dd = none → Dt w K G' v d → H' dd = some (.xd [("at", v)]) → E (.ref (cl c)) (some dd) H'
theorem wishX {w : World} {K : PySem.W.Frag} {cl : Nat → Addr} {E : XK} : Wish (eX w K cl E) w K cl E := fun _ _ _ h => h
/-- a callee from which no error comes -/
abbrev ET : XK := fun _ _ _ => True
theorem passT {X : Cx} : Passes CX0 X ET := fun _ _ _ _ _ _ _ h => h.elim
theorem wishT {e : Bas → Nat → D → Prop} {w : World} {K : PySem.W.Frag} {cl : Nat → Addr} : Wish e w K cl ET := fun _ _ _ _ _ _ _ _ _ _ _ _ => trivial
def excD (c : Nat) (d : D) : R Out := .error (.exc c d)
section
variable {X : Cx} {a : Expr} {pos pos2 p : Pos} {e : Bas → Nat → D → Prop} {O O' : List Nat} {fr : Bool} {fa : Env' → R D} {cl : Nat → Addr} {E : XK} {Dp fI : Addr}
theorem s_raise (c : Nat) {x : Str} {k : Nat} (T0 : PySem.PlayX.PlayBase X.prog X.K Dp fI) (T : PySem.PlayX.PlayTxt X.K (cl c) Dp fI) (hr : Room k X.A) (hc : X.calm = true) (tk : L2N.Takes X fun cls d _ H => E cls d H) (hw : Wish e X.w X.K cl E) (ha : PE X a (tV X.w X.K e O fa)) (hm : X.mg x = some (.ref (cl c))) (hsu : X.mg "super" = none) (hg : Gl X x := by rfl) (hdb : (x == ("__debug__" : Str)) = false := by decide)
    (he : starEach (a :: []) X.env = (false, eval a X.env) :: starEach [] X.env := by rfl) (hpl : (backTo pos (starEach [] X.env)).any (·.1) = false := by rfl) :
    PS X (.Raise (some (.Call (.Name x p) [a] [] pos)) none pos2) (sV X.w X.K e O O' fr fun ρ => fa ρ >>= fun d => excD c d) := by
  refine ps_imp (L2N.ps_raise hc tk (pmk_x T0 T hr (a_cons ha a_nil he) hm hsu hg hdb he hpl)) fun Dn σ H ⟨B, ρ, G, r, q⟩ => ?_
  refine ⟨B, ρ, G, r, gd_bind.mpr (gd_mono (gd_bind.mp q) fun d hd => ?_)⟩
  show gd ((.ok [] : R (List D)) >>= fun xs => .ok (d :: xs)) _ _
  intro vs G1 H1 g1 t
  cases t with
  | @cons v _ _ _ t1 t2 =>
    cases t2
    refine ⟨v, rfl, fun dd nd => ?_⟩
    have g2 := (r.gr.trans g1).trans (Gr.own (o := .xd [(("at" : Str), v)]) g1.sub nd)
    exact hw B c d hd v G1 _ dd g2 (none_of_keep (r.gr.trans g1).keep nd) t1 upd_same
end
section
variable {P : Program} {w : World} {K : PySem.W.Frag} {mg : Str → Option Value} {base : Heap} {cl : Nat → Addr} {x : Str} {st : Stmt} {a : Addr} {fd : FuncData} {N ps : List Str} {k n : Nat} {fr : Bool} {O' : List Nat} {fb : Env' → R Out}
/-- a def that errors leave: its promise -/
theorem fnok_ofX (F : Fun K x x st a fd) (S : FnScope N ps (defScope st)) (hn : ps.length = n)
    (body : ∀ (cdv : Value) (A : Around) (outer : List Env) (s : Shared) (H : Hp) (E : XK), Room k (A.deeper (envOfC x (defScope st) s.heap.objs.size a cdv)) →
      PSs (cxOf (L2N.CX P w) P w K mg base N x (defScope st) a cdv A outer s H E) (defBody st) (sV w K (eX w K cl E) [] O' fr fb)) :
    FnOk P w K mg base (L2N.CX P w) (k + 1) a fd ps (spD w K cl n fr (fun ds => fb (arg0 N.length ds) >>= ret fr)) := by
  obtain ⟨oc, od, kV, doc, pm, an, cdv, ct, osl, rfl, lk, hcd⟩ := F.ex
  refine fn_of lk hcd S (fun vs H Q E h => ?_) (fun A outer s H vs Q E hr h => ⟨_, body cdv A outer s H E hr, ?_⟩)
  · obtain ⟨ds, G, _, t, q⟩ := h
    unfold fnD at q
    split at q
    · rename_i hl
      rw [t.length, hl, hn]
    · exact q.elim
  · obtain ⟨ds, G, s1, t, q⟩ := h
    unfold fnD at q
    split at q
    · refine ⟨⟨G, H⟩, _, G, dtAll_start s1 t, gd_mono (gd_bind.mp q) fun o q => ?_⟩
      cases o with
      | rt d => exact q
      | nx ρ' =>
        intro σ' G' H' s' r'
        cases fr with
        | true => exact q.elim
        | false => exact q .non G' H' ⟨r'.gr, .non⟩
    · exact q.elim
theorem cal_ofX {g : Str} (F : Fun K x x st a fd) (m : mg g = some (.ref a)) (S : FnScope N ps (defScope st)) (b : Binds K fd ps []) (hn : ps.length = n)
    (body : ∀ (cdv : Value) (A : Around) (outer : List Env) (s : Shared) (H : Hp) (E : XK), Room k (A.deeper (envOfC x (defScope st) s.heap.objs.size a cdv)) →
      PSs (cxOf (L2N.CX P w) P w K mg base N x (defScope st) a cdv A outer s H E) (defBody st) (sV w K (eX w K cl E) [] O' fr fb)) :
    Cal P w K mg base (L2N.CX P w) cl (k + 1) g n fr (fun ds => fb (arg0 N.length ds) >>= ret fr) :=
  ⟨a, fd, ps, fnok_ofX F S hn body, m, F.kp, b⟩
end
end Vs

set_option Elab.async false
set_option linter.all false
set_option maxRecDepth 100000
/-! Within an except suite: the end of a walk over a list, a tuple; a tuple taken apart. -/
namespace PySem
namespace HotW
open PySem.Spec PyProof.Rows HotX
variable {prog : Program} {w : World} {A : Around} {E : Value → Shared → Prop} {s : Shared}
/-- StopIteration, made and raised where an exception is handled -/
theorem stop_made {x1 : Addr} {R : Value → Shared → Prop} {α : Type} {P : α → Shared → Prop} (hot : HotAt A x1 s.heap)
    (hR : ∀ h' e, (∀ b o, s.heap.get? b = some o → h'.get? b = some o) → (⟨h', s.gens, s.drawn, s.toks, s.os⟩ : Shared).TypeIs (.ref e) "StopIteration" → R (.ref e) ⟨h', s.gens, s.drawn, s.toks, s.os⟩) :
    wpAny (model prog w) A (newExc (.type "StopIteration") [] >>= fun e => (raiseNew e : Sem α)) P R s := by
  obtain ⟨hh, o1, vs1, h1, d1, c1⟩ := hot
  obtain ⟨hp, g, d, t, os⟩ := s
  refine wpAny_bind ?_
  simp only [newExc, newTuple]
  refine wpAny_bind (wpAny_newObj_type ?_ (by size_fits))
  refine wpAny_bind (m := firstArgMember _ _) (wpAny_of_eq (a := Value.none) (by first | rfl | (simp only [firstArgMember]; rfl)) ?_)
  refine wpAny_newObj_type ?_ (by size_fits)
  refine raiseNew_hot ⟨hh, o1, vs1, Heap.get?_push_of_some _ (Heap.get?_push_of_some _ h1), d1, c1⟩ (Nat.ne_of_lt (Heap.lt_size (Heap.get?_push_of_some _ h1))) (Heap.get?_push_size _ rfl) rfl (by first | (simp; done) | (simp; omega) | (simp only [Array.size_append]; simp; omega)) ?_
  refine hR _ _ (fun b o e => ?_) ⟨_, Heap.get?_update_self _ (Heap.get?_push_size _ rfl) rfl, rfl⟩
  rw [Heap.get?_update_other _ _ (Nat.ne_of_gt (Heap.lt_size (Heap.get?_push_of_some _ e)))]
  exact Heap.get?_push_of_some _ (Heap.get?_push_of_some _ e)
theorem hot_set {x1 it : Addr} {hp hp' : Heap} (hot : HotAt A x1 hp) (k : ∀ b o, b ≠ it → hp.get? b = some o → hp'.get? b = some o) (hne : x1 ≠ it) : HotAt A x1 hp' := by
  obtain ⟨hh, o1, vs1, h1, d1, c1⟩ := hot
  exact ⟨hh, o1, vs1, k _ _ hne h1, d1, c1⟩
theorem list_done {it l x1 : Addr} {i : Nat} {items : Array Value} {Q : Option Value → Shared → Prop} (hot : HotAt A x1 s.heap) (hne : x1 ≠ it) (hit : s.heap.IsListIter it l i) (hl : s.heap.IsList l items) (hx : items[i]? = none)
    (hQ : ∀ h', Heap.ExtBut it s.heap h' → Q none { s with heap := h' }) : wpAny (model prog w) A (pyNext (.ref it)) Q E s := by
  obtain ⟨o, ho, hc, hd⟩ := id hit
  obtain ⟨ol, hol, hocl, nl, hdl⟩ := hl
  unfold pyNext
  refine wpAny_bind (wpAny_attempt (wpAny_callSpecial?_slot (name := Str.ofString "__next__") hit.typeIs slot_listiter_next (wpAny_call_entry slot_listiter_next hit.typeIs entry_listiter_next ?_ (args_listiter_next _))))
  show wpAny _ A.in1 (field (.ref it) 0 >>= _) _ _ s
  refine wpAny_bind (wpAny_field ho hd (x := .ref l) rfl ?_)
  show wpAny _ A.in1 (if (Value.ref l == Value.none) = true then _ else _) _ _ s
  rw [if_neg (show ¬ ((Value.ref l == Value.none) = true) by exact Bool.false_ne_true)]
  show wpAny _ A.in1 (field (.ref it) 1 >>= _) _ _ s
  refine wpAny_bind (wpAny_field ho hd (x := .int i 0) rfl ?_)
  show wpAny _ A.in1 (seqItems? (.ref l) >>= _) _ _ s
  refine wpAny_bind (wpAny_seqItems hol hdl ?_)
  simp only [Int.toNat_natCast, hx]
  refine wpAny_bind (wpAny_rule (wpAny_bind (wpAny_setField ho hd (by simp) ?_)))
  have sb : ∀ b u, b ≠ it → s.heap.get? b = some u → (s.heap.update it (Obj.mapFields (·.setIfInBounds 0 Value.none))).get? b = some u := fun b u hb e => (Heap.get?_update_other _ _ (Ne.symm hb)).trans e
  refine stop_made (hot_set (A := A.in1) (hp := s.heap) hot sb hne) fun h' e k ty => ?_
  refine wpAny_bind (wpAny_isInstance (T := "StopIteration") (b := true) ty isSubtype_stop ?_)
  exact wpAny_pure (hQ _ fun b u hb q => k b u (sb b u hb q))
theorem tup_done {it t x1 : Addr} {i : Nat} {items : Array Value} {Q : Option Value → Shared → Prop} (hot : HotAt A x1 s.heap) (hne : x1 ≠ it) (hit : IsTupIter s.heap it t i) (ht : IsTup s.heap t items) (hx : items[i]? = none)
    (hQ : ∀ h', Heap.ExtBut it s.heap h' → Q none { s with heap := h' }) : wpAny (model prog w) A (pyNext (.ref it)) Q E s := by
  obtain ⟨o, ho, hc, hd⟩ := id hit
  obtain ⟨ol, hol, hocl, nl, hdl⟩ := ht
  unfold pyNext
  refine wpAny_bind (wpAny_attempt (wpAny_callSpecial?_slot (name := Str.ofString "__next__") hit.typeIs F.slot_tuple_iterator_next (wpAny_call_entry F.slot_tuple_iterator_next hit.typeIs F.entry_tuple_iterator_next ?_ (F.args_tuple_iterator_next_1 _))))
  show wpAny _ A.in1 (field (.ref it) 0 >>= _) _ _ s
  refine wpAny_bind (wpAny_field ho hd (x := .ref t) rfl ?_)
  show wpAny _ A.in1 (if (Value.ref t == Value.none) = true then _ else _) _ _ s
  rw [if_neg (show ¬ ((Value.ref t == Value.none) = true) by exact Bool.false_ne_true)]
  show wpAny _ A.in1 (field (.ref it) 1 >>= _) _ _ s
  refine wpAny_bind (wpAny_field ho hd (x := .int i 0) rfl ?_)
  show wpAny _ A.in1 (seqItems? (.ref t) >>= _) _ _ s
  refine wpAny_bind (wpAny_seqItems hol hdl ?_)
  simp only [Int.toNat_natCast, hx]
  refine wpAny_bind (wpAny_rule (wpAny_bind (wpAny_setField ho hd (by simp) ?_)))
  have sb : ∀ b u, b ≠ it → s.heap.get? b = some u → (s.heap.update it (Obj.mapFields (·.setIfInBounds 0 Value.none))).get? b = some u := fun b u hb e => (Heap.get?_update_other _ _ (Ne.symm hb)).trans e
  refine stop_made (hot_set (A := A.in1) (hp := s.heap) hot sb hne) fun h' e k ty => ?_
  refine wpAny_bind (wpAny_isInstance (T := "StopIteration") (b := true) ty isSubtype_stop ?_)
  exact wpAny_pure (hQ _ fun b u hb q => k b u (sb b u hb q))
/-- a, b, .. = a tuple, where an exception is handled -/
theorem tup_apart {x1 t : Addr} {items : Array Value} {env : Env} {elts : List Expr} {k : Nat} {pos : Pos} {Q : Unit → Shared → Prop} (hot : HotAt A x1 s.heap) (ht : IsTup s.heap t items) (hn : (assignEach elts env).length = items.size) (hstar : (assignEach elts env).findIdx? (·.1) = none)
    (h : ∀ h', Heap.ExtBut s.heap.objs.size s.heap h' → wpAny (model prog w) A (assignInOrder ((assignEach elts env).map (·.2)) items.toList) Q E { s with heap := h' }) :
    wpAny (model prog w) A (assign (.Tuple elts k pos) env (.ref t)) Q E s := by
  have hlt : t ≠ s.heap.objs.size := by obtain ⟨o, ho, _⟩ := ht; exact Nat.ne_of_lt (Heap.lt_size ho)
  have hxn : x1 ≠ s.heap.objs.size := by obtain ⟨_, _, _, h1, _⟩ := hot; exact Nat.ne_of_lt (Heap.lt_size h1)
  rw [assign_Tuple]
  refine wpAny_bind (wpAny_standAt ?_)
  unfold unpack
  rw [hn, hstar]
  refine wpAny_bind (wpAny_holding ?_)
  unfold unpackItems notIterableAtAll
  refine wpAny_bind (wpAny_bind (wpAny_specialOf ht.typeIs slot_tuple_iter.lookup (wpAny_pure ?_)))
  simp only [Bool.false_eq_true, if_false]
  refine wpAny_bind (wpAny_holding (iter_tuple ht (wpAny_bind (wpAny_holding (draw_tuple hlt items.size 0 _ _ ⟨_, Heap.get?_push_size _ rfl, rfl, rfl⟩ (ht.push _) (by omega) fun h1 hit1 sb1 => ?_)))))
  rw [show List.take items.size (List.drop 0 items.toList) = items.toList by rw [List.drop_zero]; exact List.take_of_length_le (by simp), if_neg (by simp)]
  have ht1 : IsTup h1 t items := (ht.push _).extBut sb1.extBut hlt
  have hot1 : HotAt A x1 h1 := hot_set hot (fun b o hb q => sb1.extBut b o hb (Heap.get?_push_of_some _ q)) hxn
  refine wpAny_bind (wpAny_holding (tup_done hot1 hxn hit1 ht1 (by simp) fun h2 eb => ?_))
  simp only [Option.isSome_none, Bool.false_eq_true, if_false]
  exact wpAny_pure (h h2 fun b o hb q => eb b o hb (sb1.extBut b o hb (Heap.get?_push_of_some _ q)))
end HotW
end PySem

set_option Elab.async false
set_option linter.all false
set_option maxRecDepth 100000
/-! Within an except suite: targets that are tuples, list comprehensions over lists. -/
namespace Vs
open PySem PySem.Spec PyProof.Rows L2 HotX
/-- in every state of the context the handled exception stands, out of the reach of what is tracked -/
def HotI (X : Cx) : Prop := ∃ x1 : Addr, ∀ (pins : List (Addr × Obj)) (σ : L2.St) (H : Hp) (s : Shared), Inv X pins σ H s → HotAt X.A x1 s.heap ∧ H x1 = none ∧ x1 ∉ frs X.stack
theorem hotI_of {X : Cx} (h : L2H.HotC X) : HotI X := by
  obtain ⟨p, ⟨hh, vs, e1, c1⟩, hp⟩ := h
  refine ⟨p.1, fun pins σ H s I => ?_⟩
  obtain ⟨q1, q2, q3, q4, _⟩ := I.pin p (List.mem_append_left _ hp)
  exact ⟨⟨hh, p.2, vs, q1, e1, c1⟩, q2, fun hm => (List.mem_cons.mp (I.stkSub p.1 hm)).elim q3 q4⟩
theorem hotI_blk {X : Cx} {x1 : Addr} {pins : List (Addr × Obj)} {σ : L2.St} {H : Hp} {s : Shared} {scope : Scope} {ce : Env} {fp : List Addr} (h : HotAt X.A x1 s.heap) (n : H x1 = none) (nf : x1 ∉ frs X.stack) (ne : x1 ∉ fp) : HotI (X.blk s H scope ce fp) := by
  obtain ⟨hh, o1, v1, e1, e2, e3⟩ := h
  refine ⟨x1, fun pins σ H' s' I => ⟨⟨hh, o1, v1, I.base.keep x1 o1 e1 n nf ne, e2, e3⟩, I.base.free x1 o1 e1 n ne, nf⟩⟩
section
variable {X : Cx} {pos : Pos}
theorem pg_tupH {es : List Expr} {k : Nat} {t : TGs} {n : Nat} (hc : HotI X) (h : PGs X es t) (hn : (assignEach es X.env).length = n := by rfl) (hst : (assignEach es X.env).findIdx? (·.1) = none := by rfl) : PG X (.Tuple es k pos) (gTup X.K n t) := by
  obtain ⟨x1, hx⟩ := hc
  refine ⟨fun pins s σ H v u Q I r ⟨a, xs, ev, sq, hl, w⟩ => ?_⟩
  subst ev
  cases r
  obtain ⟨its, rv, tp, hz⟩ := I.tuple sq
  refine HotW.tup_apart (hx pins σ H s I).1 tp (by simp [hn, ← hl, rv.length]) hst fun h' hk => ?_
  exact h.run pins _ σ H xs _ Q (I.kept (t' := s.toks) (h' := h') fun b o e => hk b o (Nat.ne_of_lt (Heap.lt_size e)) e) (by simpa using rv) w
end
section
variable {X : Cx}
theorem pe_lcH {elt tg iter : Expr} {ifs : List Expr} {scope : Scope} {own : List (Str × Nat)} {pos : Pos} {ta : TE} {g : TG} {tt : TT} {te : TE} (hot : HotI X) (hN : X.N.Nodup) (ha : PE X iter ta) (ok : BlkOk X.N X.env.scope scope own)
    (hg : ∀ (s : Shared) (H : Hp) (C : Addr) (cl : List (Str × Addr)) (fp : List Addr), HotI (X.blk s H scope (compEnvC scope cl C X.env) fp) → PG (X.blk s H scope (compEnvC scope cl C X.env) fp) tg g)
    (ht : ∀ (s : Shared) (H : Hp) (C : Addr) (cl : List (Str × Addr)) (fp : List Addr), PTs (X.blk s H scope (compEnvC scope cl C X.env) fp) ifs tt)
    (he : ∀ (s : Shared) (H : Hp) (C : Addr) (cl : List (Str × Addr)) (fp : List Addr), PE (X.blk s H scope (compEnvC scope cl C X.env) fp) elt te) (hs : ∀ x, foldedSetIterable iter X.env x = pure x := by intro _; rfl) :
    PE X (.ListComp elt [⟨tg, iter, ifs, 0⟩] scope pos) (tLc (iList X.K ta) g tt te (own.map (·.2))) := by
  obtain ⟨x1, hx⟩ := hot
  refine ⟨fun pins s σ H Q I h => ?_⟩
  rw [eval_ListComp]
  refine wpAny_comprehension_free (use := none) rfl hs (closure_ok fun y hy e => (ok.free y hy e).elim (fun k => I.ok.has _ (.inl k)) fun k => I.ok.has _ (.inr k)) ok.kind (fun y hy e => (ok.uniq y hy).trans (by rw [e]))
    (thn (ha.run pins s σ H _ I h) fun xv s1 ⟨x, H1, I1, r1, a, ex, ⟨xs0, sq0⟩, q0⟩ => ?_)
  subst ex
  cases r1
  obtain ⟨its0, rv0, pl0, hz0⟩ := I1.list sq0
  refine wpAny_pyIter_list pl0.isList ?_
  generalize hit : s1.heap.objs.size = it
  have nit : H1 it = none := I1.hok.fresh (Nat.le_of_eq hit)
  generalize hs2 : ({ s1 with heap := s1.heap.push { cls := .type "list_iterator", data := .fields #[.ref a, .int 0 0] } } : Shared) = s2
  have hp2 : s2.heap = s1.heap.push { cls := .type "list_iterator", data := .fields #[.ref a, .int 0 0] } := by rw [← hs2]
  have I2 : Inv X pins σ H1 s2 := by rw [← hs2]; exact I1.kept (t' := s1.toks) fun b o e => Heap.get?_push_of_some _ e
  have it2 : s2.heap.IsListIter it a 0 := by rw [hp2, ← hit]; exact ⟨_, Heap.get?_push_size _ rfl, rfl, rfl⟩
  have fp0 : FpOk X pins H1 it := I1.fpOk (Nat.le_of_eq hit) nit
  refine wpAny_newObj_type (newEnv_comp ?_) (by show 0 ≤ sizeLine; decide)
  generalize hD : s2.heap.objs.size = D
  have nD : H1 D = none := I2.hok.fresh (Nat.le_of_eq hD)
  obtain ⟨W, ⟨m0, w0⟩, turn⟩ := q0 D nD
  generalize hs3 : ({ s2 with heap := s2.heap.push { cls := .type "list", data := .seq ([] : List Value).toArray } } : Shared) = s3
  have hp3 : s3.heap = s2.heap.push { cls := .type "list", data := .seq ([] : List Value).toArray } := by rw [← hs3]
  have I3 : Inv X pins σ (upd H1 D (.lst [])) s3 := by
    rw [← hs3]
    refine I2.laid (t' := s2.toks) (fun b o e => Heap.get?_push_of_some _ e) (Nat.le_of_eq hD) ⟨Nat.zero_le _, [], 0, .nil, ?_⟩
    rw [← hD]; exact Heap.get?_push_size _ rfl
  have itD : it ≠ D := by
    obtain ⟨o, e, _⟩ := it2
    rw [← hD]; exact Nat.ne_of_lt (Heap.lt_size e)
  have it3 : s3.heap.IsListIter it a 0 := it2.at fun o e => by rw [hp3]; exact Heap.get?_push_of_some _ e
  have fp3 : ∀ b ∈ [it], FpOk X pins (upd H1 D (.lst [])) b ∧ b < s3.heap.objs.size := fun b hb => by
    rw [List.mem_singleton.mp hb]
    obtain ⟨o, e, _⟩ := it3
    exact ⟨⟨by rw [upd_ne itD]; exact nit, fp0.2⟩, Heap.lt_size e⟩
  obtain ⟨hot3, nx3⟩ := hx pins σ _ s3 I3
  have x1it : x1 ≠ it := by
    obtain ⟨_, o1, v1, e1, _⟩ := (hx pins σ H1 s1 I1).1
    rw [← hit]; exact Nat.ne_of_lt (Heap.lt_size e1)
  have x1fp : x1 ∉ [it] := fun z => x1it (List.mem_singleton.mp z)
  have I4 := block_start I3 ok hN fp3
  have hotB := fun ce => hotI_blk (X := X) (pins := pins) (σ := σ) (scope := scope) (ce := ce) hot3 nx3.1 nx3.2 x1fp
  have pg := hg s3 (upd H1 D (.lst [])) s3.heap.objs.size (cellsFrom (s3.heap.objs.size + 1) scope.names (cloFrom X.env.cells scope.names [])) [it] (hotB _)
  have pt := ht s3 (upd H1 D (.lst [])) s3.heap.objs.size (cellsFrom (s3.heap.objs.size + 1) scope.names (cloFrom X.env.cells scope.names [])) [it]
  have pe := he s3 (upd H1 D (.lst [])) s3.heap.objs.size (cellsFrom (s3.heap.objs.size + 1) scope.names (cloFrom X.env.cells scope.names [])) [it]
  show codeAny _ _ (.compStart (.ListComp elt [⟨tg, iter, ifs, 0⟩] scope pos) 0 (.ref it) (.ref D) (compEnvC scope (cellsFrom (s3.heap.objs.size + 1) scope.names (cloFrom X.env.cells scope.names [])) s3.heap.objs.size X.env)) (compPost (model X.prog X.w) X.A X.xe none _ (.ref D) s3.heap.objs.size) { s3 with heap := pushCells (s3.heap.push { cls := .type "dict", data := .dict #[] }) scope.names }
  have hotF : ∀ (ce : Env) (pl : List (Addr × Obj)) (σ' : L2.St) (H' : Hp) (s' : Shared), Inv (X.blk s3 (upd H1 D (.lst [])) scope ce [it]) pl σ' H' s' → HotAt X.A x1 s'.heap := fun ce pl σ' H' s' I' => by
    obtain ⟨hh, o1, v1, e1, e2, e3⟩ := hot3
    exact ⟨hh, o1, v1, I'.base.keep x1 o1 e1 nx3.1 nx3.2 x1fp, e2, e3⟩
  have hotY := hotF (compEnvC scope (cellsFrom (s3.heap.objs.size + 1) scope.names (cloFrom X.env.cells scope.names [])) s3.heap.objs.size X.env)
  generalize hce : compEnvC scope (cellsFrom (s3.heap.objs.size + 1) scope.names (cloFrom X.env.cells scope.names [])) s3.heap.objs.size X.env = ce at I4 pg pt pe hotY ⊢
  have cL : ce.locals = s3.heap.objs.size := by rw [← hce]; rfl
  generalize hH3 : upd H1 D (.lst []) = H3 at I3 I4 pg pt pe w0 fp3 nx3 hotY
  generalize hs4 : ({ s3 with heap := pushCells (s3.heap.push { cls := .type "dict", data := .dict #[] }) scope.names } : Shared) = s4 at I4 ⊢
  have it4 : s4.heap.IsListIter it a 0 := it3.at fun o e => by rw [← hs4]; exact pushCells_keeps _ _ _ _ (Heap.get?_push_of_some _ e)
  have stat : ∀ {σ' : L2.St} {H' : Hp} {s' : Shared} {pl : List (Addr × Obj)}, Inv (X.blk s3 H3 scope ce [it]) [] σ' H' s' → H' it = none → FpOk (X.blk s3 H3 scope ce [it]) [] H' it := fun {σ' H' s' pl} I' n =>
    ⟨n, (I'.ok.exf it (List.mem_singleton.mpr rfl)).1, I'.ok.exfs it (List.mem_singleton.mpr rfl), .inl (List.mem_singleton.mpr rfl), fun x c e => (I'.ok.exf it (List.mem_singleton.mpr rfl)).2 x c e, fun p hp => absurd (show p ∈ ([] : List (Addr × Obj)) ++ [] from hp) (by simp)⟩
  have loop : codeAny (model X.prog X.w) X.A (.compLoop (.ListComp elt [⟨tg, iter, ifs, 0⟩] scope pos) 0 (.ref it) (.ref D) ce) (compPost (model X.prog X.w) X.A X.xe none (EP X pins σ Q) (.ref D) s3.heap.objs.size) s4 := by
    refine compLoop_any (fun n s' => ∃ i H', Inv (X.blk s3 H3 scope ce [it]) [] (L2.wipe σ (own.map (·.2))) H' s' ∧ s'.heap.IsListIter it a i ∧ H' it = none ∧ W i n H') ?_ m0 ⟨0, H3, I4, it4, (fp3 it (List.mem_singleton.mpr rfl)).1.1, w0⟩
    rintro n s5 ⟨i, H5, I5, it5, n5, w5⟩
    obtain ⟨f0, f1, f2, f3, f4, f5⟩ := stat (pl := []) I5 n5
    rcases turn i n H5 w5 with ⟨⟨xs, sq, hlen⟩, qq⟩ | ⟨⟨xs, x, sq, hxi⟩, Nx, hNx, step⟩
    · obtain ⟨its, rv, pl, hz⟩ := I5.list sq
      have hl := rv.length
      refine HotW.list_done (hotY _ _ _ _ I5) x1it it5 pl.isList (by simp; omega) fun h' eb => ?_
      have I6 : Inv (X.blk s3 H3 scope ce [it]) [] (L2.wipe σ (own.map (·.2))) H5 { s5 with heap := h' } := I5.turned (t' := s5.toks) (fun b o hb e => eb b o hb e) f0 f1 f3 f4 f5
      have fpI := (fp3 it (List.mem_singleton.mpr rfl)).1
      have I7 : Inv X pins σ H5 { s5 with heap := h' } := I3.call' (ch := [it]) I6.os I6.base I6.hok I6.bare fun b hb => by
        rw [List.mem_singleton.mp hb]
        exact ⟨fpI.2.2.2.1, fpI.2.1, fpI.2.2.2.2.1, fpI.2.2.2.2.2⟩
      have nC : H5 s3.heap.objs.size = none := by
        have z : H5 ce.locals = none := I6.free
        rw [cL] at z
        exact z
      obtain ⟨m, hn, _⟩ := I6.loc
      have hn : ({ s5 with heap := h' } : Shared).heap.Ns ce.locals m := hn
      rw [cL] at hn
      obtain ⟨c0, c1, c2, c3, c4, c5⟩ := I3.fpOk (H' := H5) (Nat.le_refl _) nC
      exact ⟨m, hn, fun h'' sb => ⟨.ref D, H5, I7.turned (t' := s5.toks) (fun b o hb e => (sb.2 b hb).trans e) c0 c1 c3 c4 c5, rfl, qq⟩⟩
    · obtain ⟨its, rv, pl, hz⟩ := I5.list sq
      obtain ⟨u, hu, ru⟩ := rv.get hxi
      refine wpAny_pyNext_list_item it5 pl.isList (x := u) (by simpa using hu) fun h6 it6 sb => ?_
      have I6 : Inv (X.blk s3 H3 scope ce [it]) [] (L2.wipe σ (own.map (·.2))) H5 { s5 with heap := h6 } := I5.turned (t' := s5.toks) (fun b o hb e => (sb.2 b hb).trans e) f0 f1 f3 f4 f5
      obtain ⟨o6, e6, c6, d6⟩ := id it6
      refine go_of (s := { s5 with heap := h6 }) e6 c6 d6 (by decide) ?_
      have I6p := I6.pinned (fp := [it]) (fun b hb => by rw [List.mem_singleton.mp hb]; exact stat (pl := []) I6 n5) (fun b hb => by rw [List.mem_singleton.mp hb]; exact ⟨o6, e6, fun v z => by rw [d6] at z; cases z⟩)
      have yl : (Itl X.K a).yld i H5 x H5 := ⟨rfl, fun ys hy => by rw [I5.list_inj hy sq]; exact hxi⟩
      refine thnF (pg.run _ _ _ H5 x u _ I6p ru (step x H5 yl)) fun _ s8 ⟨σ8, H8, I8, hw8, q8⟩ => ?_
      refine thnF (pt.run _ s8 σ8 H8 _ I8 q8) fun b s9 ⟨H9, I9, q9⟩ => ?_
      have fin : ∀ {s' : Shared} {H' : Hp}, Inv (X.blk s3 H3 scope ce [it]) ([] ++ pinsAt [it] h6) σ8 H' s' → Nx H' → ∃ m, m < n ∧ ∃ i H', Inv (X.blk s3 H3 scope ce [it]) [] (L2.wipe σ (own.map (·.2))) H' s' ∧ s'.heap.IsListIter it a i ∧ H' it = none ∧ W i m H' := fun {s' H'} I' nx => by
        obtain ⟨m', hm, w'⟩ := hNx H' nx
        have pin' := I'.pin (it, o6) (List.mem_append_right _ (List.mem_append_right _ (mem_pinsAt (List.mem_singleton.mpr rfl) e6)))
        have hl : (L2.wipe σ (own.map (·.2))).length = σ8.length := by rw [← hw8, wipe_length]
        refine ⟨m', hm, i + 1, H', (I'.unpinned (pins := [])).weak hl (fun j v e => ?_), it6.at fun o e => ?_, pin'.2.1, w'⟩
        · rw [← hw8] at e
          exact (wipe_some e).1
        · rw [show h6.get? it = some o6 from e6] at e
          cases e
          exact pin'.1
      cases b with
      | false =>
        simp only [Bool.false_eq_true, if_false] at q9 ⊢
        exact fin I9 q9
      | true =>
        simp only [if_true] at q9 ⊢
        refine thnF (pe.run _ s9 σ8 H9 _ I9 q9) fun z s10 ⟨yv, H10, I10, r10, acc, hD10, hz10, nx⟩ => ?_
        exact app_ok (X := X.blk s3 H3 scope ce [it]) I10 hD10 hz10 r10 fun s11 I11 => fin I11 nx
  exact codeAny_compStart_list loop (wpAny_pyIter_listiter it4 loop)
end
end Vs

set_option Elab.async false
set_option linter.all false
set_option maxRecDepth 100000
/-! The error in hand as a datum: isinstance, its field; tuple targets and comprehensions within a suite. -/
namespace Vs
open PySem PySem.Spec PyProof.Rows L2 HotX
/-- the error at a, whose own dict stands at dd, with the field at = d -/
def excDt (a dd : Addr) (d : D) : D := .dict [(.none, .tuple [.int a, .int dd, d]), (.none, .none)]
def isE (a0 dd0 : Addr) (b : Bool) (x : D) : R D := match x with
  | .dict [(.none, .tuple [.int a, .int dd, _]), (.none, .none)] => if a = a0 ∧ dd = dd0 then .ok (.bool b) else stk
  | _ => stk
def atE (a0 dd0 : Addr) (x : D) : R D := match x with
  | .dict [(.none, .tuple [.int a, .int dd, d]), (.none, .none)] => if a = a0 ∧ dd = dd0 then .ok d else stk
  | _ => stk
/-- the context bears the error at a: its class C, its dict at dd -/
structure PinE (X : Cx) (a C dd : Addr) : Prop where
  ex : ∃ oe : Obj, (a, oe) ∈ X.pn ∧ oe.cls = .ref C ∧ oe.dict = some dd ∧ ∃ vs, oe.data = .fields vs
theorem isE_in {w : World} {K : PySem.W.Frag} {G : Hp} {v : V} {x : D} {a0 dd0 : Addr} {b : Bool} {q : D → Prop} {e : Nat → D → Prop} (t : Dt w K G v x) (h : gd (isE a0 dd0 b x) q e) : v = .ref a0 ∧ (∃ u, G dd0 = some (.xd [("at", u)])) ∧ q (.bool b) := by
  unfold isE at h
  split at h
  · split at h
    · rename_i hh
      cases t with
      | dct _ _ _ _ _ u => simp at u
      | exc e1 e2 =>
        obtain ⟨h1, h2⟩ := hh
        have h2 := Int.ofNat.inj h2
        subst h2
        exact ⟨by rw [Int.ofNat.inj h1], ⟨_, e1⟩, h⟩
    · exact h.elim
  · exact h.elim
theorem atE_in {w : World} {K : PySem.W.Frag} {G : Hp} {v : V} {x : D} {a0 dd0 : Addr} {q : D → Prop} {e : Nat → D → Prop} (t : Dt w K G v x) (h : gd (atE a0 dd0 x) q e) : v = .ref a0 ∧ ∃ u d, G dd0 = some (.xd [("at", u)]) ∧ Dt w K G u d ∧ q d := by
  unfold atE at h
  split at h
  · split at h
    · rename_i hh
      cases t with
      | dct _ _ _ _ _ u => simp at u
      | exc e1 e2 =>
        obtain ⟨h1, h2⟩ := hh
        have h2 := Int.ofNat.inj h2
        subst h2
        exact ⟨by rw [Int.ofNat.inj h1], _, _, e1, e2, h⟩
    · exact h.elim
  · exact h.elim
section
variable {X : Cx} {a b : Expr} {pos p : Pos} {e : Bas → Nat → D → Prop} {O : List Nat} {fa : Env' → R D} {C Ck D0 fI a0 dd0 : Addr}
theorem inst_of {oe : Obj} {h : Heap} {od : Obj} (e1 : h.get? a0 = some oe) (c : oe.cls = .ref C) (dct : oe.dict = some dd0) (f : ∃ vs, oe.data = .fields vs) (e2 : h.get? dd0 = some od) : PySem.W.InstAt h a0 oe C (some od) := by
  obtain ⟨vs, hd⟩ := f
  exact ⟨e1, c, by unfold PySem.W.notCls; rw [hd] <;> rfl, by rw [dct]; exact e2⟩
/-- isinstance(e, C'), e the error in hand -/
theorem v_isE {b0 : Bool} {y : Str} {py : Pos} (T0 : PySem.PlayX.PlayBase X.prog X.K D0 fI) (T : PySem.PlayX.PlayTxt X.K C D0 fI) (P : PinE X a0 C dd0) (hk : PySem.W.kitOne X.K (.ref C) (.ref Ck) = some b0) (hmi : X.mg "isinstance" = none) (ha : PE X a (tV X.w X.K e O fa)) (hm : X.mg y = some (.ref Ck)) (hgi : Gl X "isinstance" := by rfl) (hg : Gl X y := by rfl) (hdb : (y == ("__debug__" : Str)) = false := by decide)
    (he : starEach [a, .Name y py] X.env = (false, eval a X.env) :: starEach [.Name y py] X.env := by rfl) (he2 : starEach [.Name y py] X.env = (false, eval (.Name y py) X.env) :: starEach [] X.env := by rfl) (hpl : (backTo pos (starEach [.Name y py] X.env)).any (·.1) = false := by rfl) :
    PE X (.Call (.Name "isinstance" p) [a, .Name y py] [] pos) (tV X.w X.K e O fun ρ => fa ρ >>= isE a0 dd0 b0) := by
  obtain ⟨oe, hp, hc, hd, hf⟩ := P.ex
  refine ⟨fun pins s σ H Q I ⟨B, ρ, G, r, q⟩ => ?_⟩
  refine wpAny_Call_Name_kw (ld_blt I hgi hmi (u := .builtin "isinstance") (by decide +kernel) ?_ (by decide) (by decide))
  refine PyProof.Rows.callWith_builtin1 (PyProof.Rows.args_cons (thn (ha.run pins s σ H (fun v H1 => v = .ref a0 ∧ ∃ G1, Gr G H G1 H1 ∧ (∃ u, G1 dd0 = some (.xd [("at", u)])) ∧ ∀ v G' H', Gr G H G' H' → Dt X.w X.K G' v (.bool b0) → Q v H') I ?_) fun u1 s1 ⟨v, H1, I1, r1, ev, G1, g1, ⟨u, hu⟩, q1⟩ => PyProof.Rows.args_cons (ld_glob I1 hg hm (PyProof.Rows.args_nil ?_) hdb) he2) he) he hpl
  · refine ⟨B, ρ, G, r, gd_mono (gd_bind.mp q) fun x q v G1 H1 g1 t => ?_⟩
    obtain ⟨rfl, hx, q⟩ := isE_in t q
    exact ⟨rfl, G1, g1, hx, q⟩
  · subst ev
    obtain rfl : u1 = Value.ref a0 := r1
    obtain ⟨ha0, _⟩ := I1.pin (a0, oe) (List.mem_append_left _ hp)
    have hx : ObjOk X.prog X.w H1 s1.heap dd0 (.xd [(("at" : Str), u)]) := I1.hok dd0 _ (g1.sub _ _ hu)
    obtain ⟨mA, hns, hr⟩ := hx
    obtain ⟨od, ho, hl⟩ := lookIn_ns hns
    obtain ⟨nm, qn, N, bs, bm, sn, sub, ab, col, dd, k0, k1, k2, k3, k5, hC, hbm⟩ := T.cls
    have hcl : (PySem.W.clsIn X.K C).isSome = true := by unfold PySem.W.clsIn; rw [hC] <;> rfl
    exact PySem.W.kia_one (PySem.W.kitx_exc hcl T.ga T.gg T.exC T.ca T0.hn T0.ht T.hm) I1.kIn (inst_of ha0 hc hd hf ho) hk (fun z => nomatch z) fun tk => ⟨.bl b0, H1, I1.tok tk, rfl, q1 _ G1 H1 g1 (.bl b0)⟩
/-- e.at, e the error in hand -/
theorem v_atE (T : PySem.PlayX.PlayTxt X.K C D0 fI) (P : PinE X a0 C dd0) (ha : PE X a (tV X.w X.K e O fa)) (hb : attributeBase a "at" X.env (eval a X.env) = eval a X.env := by rfl) :
    PE X (.Attribute a "at" pos) (tV X.w X.K e O fun ρ => fa ρ >>= atE a0 dd0) := by
  obtain ⟨oe, hp, hc, hd, hf⟩ := P.ex
  refine ⟨fun pins s σ H Q I ⟨B, ρ, G, r, q⟩ => ?_⟩
  refine attr_of hb (thn (ha.run pins s σ H (fun v H1 => v = .ref a0 ∧ ∃ u, H1 dd0 = some (.xd [("at", u)]) ∧ Q u H1) I ?_) fun u1 s1 ⟨v, H1, I1, r1, ev, u, hu, q1⟩ => ?_)
  · refine ⟨B, ρ, G, r, gd_mono (gd_bind.mp q) fun x q v G1 H1 g1 t => ?_⟩
    obtain ⟨rfl, u, d, h1, h2, q⟩ := atE_in t q
    exact ⟨rfl, u, g1.sub _ _ h1, q u G1 H1 g1 h2⟩
  · subst ev
    obtain rfl : u1 = Value.ref a0 := r1
    obtain ⟨ha0, _⟩ := I1.pin (a0, oe) (List.mem_append_left _ hp)
    have hx : ObjOk X.prog X.w H1 s1.heap dd0 (.xd [(("at" : Str), u)]) := I1.hok dd0 _ hu
    obtain ⟨mA, hns, hr⟩ := hx
    obtain ⟨od, ho, hl⟩ := lookIn_ns hns
    have l : List.lookup ("at" : Str) [(("at" : Str), u)] = some u := by simp [List.lookup]
    obtain ⟨w', hw, rw'⟩ := RelO.some_of (v := u) (o := mA "at") (by rw [← l]; exact hr "at")
    exact HandSPX.exc_get I1.kIn (inst_of ha0 hc hd hf ho) T.ga T.gg T.exC (PySem.W.findObj_own T.hdC T.noN rfl (by rw [hl, hw])) (handed_of rw') ⟨u, H1, I1.tok _, rw', q1⟩
end
section
variable {X : Cx} {as : List Expr} {pos : Pos} {e : Bas → Nat → D → Prop} {O vs : List Nat} {tgs : List D → Env' → R Env'}
theorem g_tupH {k n : Nat} (hc : HotI X) (h : PGs X as (gTs X.w X.K e O vs tgs)) (hn : (assignEach as X.env).length = n := by rfl) (hst : (assignEach as X.env).findIdx? (·.1) = none := by rfl) : PG X (.Tuple as k pos) (gT X.w X.K e O vs (unT n tgs)) := by
  refine pg_imp (pg_tupH hc h hn hst) fun v σ H Q ⟨B, ρ, G, d, r, t, q⟩ => ?_
  unfold unT at q
  cases t with
  | tup s1 t1 =>
    simp only at q
    split at q
    · rename_i hl
      exact ⟨_, _, rfl, SqT.sub r.sub s1, by rw [t1.length]; exact hl, B, ρ, G, _, r, t1, q⟩
    · exact q.elim
  | _ => exact q.elim
end
section
variable {X : Cx} {elt tgt iter : Expr} {ifs : List Expr} {scope : Scope} {own : List (Str × Nat)} {pos : Pos} {e : Bas → Nat → D → Prop} {O vs ws : List Nat} {fa : Env' → R D} {tg : D → Env' → R Env'} {ft : Env' → R Bool} {fe : Env' → R D}
/-- a comprehension over a list, within a suite -/
theorem o_lcHot (own : List (Str × Nat)) (hot : HotI X) (hN : X.N.Nodup) (ha : PE X iter (tV X.w X.K e O fa)) (ok : BlkOk X.N X.env.scope scope own)
    (hg : ∀ (s : Shared) (H : Hp) (C : Addr) (cl : List (Str × Addr)) (fp : List Addr), HotI (X.blk s H scope (compEnvC scope cl C X.env) fp) → PG (X.blk s H scope (compEnvC scope cl C X.env) fp) tgt (gT X.w X.K noE O ws tg))
    (ht : Blk X scope fun Y => PTs Y ifs (tW Y.w Y.K noE O ft)) (he : Blk X scope fun Y => PE Y elt (tV Y.w Y.K noE O fe))
    (hv : ∀ j ∈ ws, j ∈ own.map (·.2) := by decide) (hs : ∀ x, foldedSetIterable iter X.env x = pure x := by intro _; rfl) :
    PE X (.ListComp elt [⟨tgt, iter, ifs, 0⟩] scope pos) (tO X.w X.K e O (compD (own.map (·.2)) (fun ρ => fa ρ >>= itL) tg ft fe)) := by
  refine pe_imp (pe_lcH (g := gT X.w X.K noE O ws tg) (tt := tW X.w X.K noE O ft) (te := tV X.w X.K noE O fe) hot hN ha ok hg ht he hs) fun σ H Q h => ?_
  have h2 := lc_in (w := X.w) (K := X.K) hv h
  obtain ⟨B, ρ, G, r, q⟩ := h2
  refine ⟨B, ρ, G, r, gd_mono (gd_bind.mp q) fun d q v G1 H1 g1 t => ?_⟩
  unfold itL at q
  cases t with
  | lst s1 t1 => exact ⟨_, rfl, ⟨_, Rd.sq (Rd.sub g1.sub s1)⟩, q _ G1 H1 g1 (wk_list s1 t1)⟩
  | _ => exact q.elim
end
end Vs

set_option Elab.async false
set_option linter.all false
set_option maxRecDepth 100000
/-! A def called within an except suite with the error in hand; try; a function chosen from a list. -/
namespace Vs
open PySem PySem.Spec PyProof.Rows L2 HotX
/-- what a def promises that is called within a suite: it may look at the error that is handled (at p.1, of class number c, its dict at dd) -/
structure FnE (P : Program) (w : World) (K : PySem.W.Frag) (mg : Str → Option Value) (base : Heap) (cl : Nat → Addr) (k : Nat) (f : Addr) (fd : FuncData) (ps : List Str) (g : Nat → Addr → Addr → List D → R D) : Prop where
  run : ∀ (A : Around) (outer : List Env) (s : Shared) (H G : Hp) (args : Args) (us : List Value) (vs : List V) (ds : List D) (Q : VK) (p : Addr × Obj) (c : Nat) (dd : Addr), L2H.RoomH k A → L2H.Hot1 A p → L2H.PinOk outer H s p → p.2.cls = .ref (cl c) → p.2.dict = some dd →
    Env0 P w K mg base A outer s H → BindsTo s fd args (ps.zip us) → Vals vs us → vs.length = ps.length → Sub G H → DtAll w K G vs ds → gd (fnD 1 (g c p.1 dd) ds) (fun d => ∀ v G' H', Back w K false G H G' H' v d → Q v H') (fun _ _ => False) →
    codeAny (model P w) A (.call (.ref f) args) (CR CX0 outer P w H s Q E0) s
section
variable {P : Program} {w : World} {K : PySem.W.Frag} {mg : Str → Option Value} {base : Heap} {cl : Nat → Addr} {x : Str} {st : Stmt} {a : Addr} {fd : FuncData} {N ps : List Str} {k : Nat} {O' : List Nat} {fb : Nat → Addr → Addr → Env' → R Out}
theorem fne_of (F : Fun K x x st a fd) (S : FnScope N ps (defScope st))
    (body : ∀ (c : Nat) (p : Addr × Obj) (dd : Addr) (cdv : Value) (A : Around) (outer : List Env) (s : Shared) (H : Hp), L2H.Hot1 A p → p.2.cls = .ref (cl c) → p.2.dict = some dd → L2H.RoomH k (A.deeper (envOfC x (defScope st) s.heap.objs.size a cdv)) →
      PSs (L2H.cxH CX0 P w K mg base N x (defScope st) a cdv A outer s H E0 p) (defBody st) (sV w K noE [] O' false (fb c p.1 dd))) :
    FnE P w K mg base cl (k + 1) a fd ps (fun c e dd ds => noX (fb c e dd (arg0 N.length ds)) >>= ret false) := by
  obtain ⟨oc, od, kV, doc, pm, an, cdv, ct, osl, rfl, lk, hcd⟩ := F.ex
  refine ⟨fun A outer s H G args us vs ds Q p c dd hr hot hpin hc hd e0 hb r hl sG t q => ?_⟩
  have kk : ∀ b o, base.get? b = some o → s.heap.get? b = some o := fun b o e => (e0.bs b o e).1
  have KX := e0.mod.kin.keeps kk
  have locals : ∀ y ∈ ps.zip us, (defScope st).names.lookup y.1 = some .local ∨ ((defScope st).names.lookup y.1 = some .cell ∧ ((cellsFrom (s.heap.objs.size + 1) (defScope st).names []).lookup y.1).isSome = true) := fun y hy =>
    (S.par y.1 (List.of_mem_zip (a := y.1) (b := y.2) hy).1).imp id fun z => ⟨z, PySem.W.cellsFrom_some _ _ _ (.inl z)⟩
  refine codeAny_call_function hr.depth (KX _ _ lk) rfl S.co S.gen rfl (PySem.W.codeRec_of KX hcd) (hb _ _ _ _ (wpAny_newFunctionEnv_cells S.kind locals fun env he s1 ic => ?_))
  subst he
  refine ⟨(e0.mod.nolimit.keeps kk).keeps ic.toInCall.keep, codeAny_func ?_⟩
  have I := L2H.inv_startH (CX := CX0) (E := E0) (qual := x) (f := a) (cd := cdv) S hpin e0 hl r ic
  have hq : sV w K noE [] O' false (fb c p.1 dd) { nx := fun _ H' => Q .non H', rt := Q } (L2.start N vs) H := by
    unfold fnD at q
    split at q
    · refine ⟨⟨G, H⟩, _, G, dtAll_start sG t, ?_⟩
      obtain ⟨o, z, q⟩ := noX_in (gd_bind.mp q)
      rw [z]
      cases o with
      | rt d => exact q
      | nx ρ' => exact fun σ' G' H' s' r' => q .non G' H' ⟨r'.gr, .non⟩
    · exact q.elim
  refine wpAny_mono ((body c p dd cdv A outer s H hot hc hd (hr.deeper _)).run [] s1 (L2.start N vs) H _ I hq) (fun fl s' hs => ?_) fun _ _ hs => hs
  have fin : ∀ {σ' : L2.St} {H' : Hp} {v : V} {u : Value}, Inv (L2H.cxH CX0 P w K mg base N x (defScope st) a cdv A outer s H E0 p) [] σ' H' s' → RelV v u → Q v H' → CE outer P w H s Q u s' := fun {σ' H' v u} J rv q => ⟨v, H', J.os, J.bare, J.base, J.hok, rv, q⟩
  cases fl with
  | ret u => exact let ⟨v, σ', H', J, rv, q⟩ := hs; fin J rv q
  | next => exact let ⟨σ', H', J, q⟩ := hs; fin (v := V.non) (u := Value.none) J rfl q
  | brk => exact let ⟨_, _, _, q⟩ := hs; False.elim q
  | cont => exact let ⟨_, _, _, q⟩ := hs; False.elim q
end
section
variable {X : Cx} {cl : Nat → Addr} {k c : Nat} {f a0 dd : Addr} {oe : Obj} {fd : FuncData} {ps : List Str} {g : Nat → Addr → Addr → List D → R D} {x : Str} {q pos : Pos} {a : Expr} {O : List Nat} {fs : Env' → R (List D)}
/-- f(e) within a suite -/
theorem v_callE (Fe : FnE X.prog X.w X.K X.mg X.base cl k f fd ps g) (hn : ps.length = 1) (hr : L2H.RoomH k X.A) (hp : (a0, oe) ∈ X.pn) (hot : L2H.Hot1 X.A (a0, oe)) (hc : oe.cls = .ref (cl c)) (hd : oe.dict = some dd) (hm : X.mg x = some (.ref f)) (hk : PySem.W.keepIn X.K (.ref f) = true) (hb : Binds X.K fd ps [])
    (ha : PA X [a] (tA X.w X.K noE O fs)) (hg : Gl X x := by rfl) (hdb : (x == ("__debug__" : Str)) = false := by decide) (he : starEach [a] X.env = (false, eval a X.env) :: starEach [] X.env := by rfl) (hpl : (backTo pos (starEach [] X.env)).any (·.1) = false := by rfl) :
    PE X (.Call (.Name x q) [a] [] pos) (tV X.w X.K noE O fun ρ => fs ρ >>= fnD 1 (g c a0 dd)) := by
  refine ⟨fun pins s σ H Q I ⟨B, ρ, G, r, z⟩ => ?_⟩
  refine wpAny_Call_Name_kw (ld_glob I hg hm ?_ hdb)
  refine PySem.W.callWith_K (h₀ := X.base) I.ok.mod.kin hk (thn (ha.run pos pins s σ H (fun vs H1 => ∃ G1 ds, Gr G H G1 H1 ∧ DtAll X.w X.K G1 vs ds ∧ ds.length = 1 ∧ gd (fnD 1 (g c a0 dd) ds) (fun d => ∀ v G' H', Back X.w X.K false G1 H1 G' H' v d → Q v H') (fun _ _ => False)) I ?_) fun us s1 ⟨vs, H1, I1, r1, G1, ds, g1, t, hl, z1⟩ => ⟨I1.kIn, ?_⟩) he hpl
  · refine ⟨B, ρ, G, r, gd_mono (gd_bind.mp z) fun ds z vs G1 H1 g1 t => ?_⟩
    have hl : ds.length = 1 := by
      unfold fnD at z
      split at z
      · assumption
      · exact z.elim
    refine ⟨G1, ds, g1, t, hl, ?_⟩
    cases hz : fnD 1 (g c a0 dd) ds with
    | ok d =>
      rw [hz] at z
      exact fun v G2 H2 bk => z v G2 H2 (g1.trans bk.1) bk.2
    | error er =>
      rw [hz] at z
      cases er <;> exact z.elim
  · have hv : vs.length = ps.length := by rw [t.length, hl, hn]
    have hu : us.length = ps.length := by rw [← r1.length]; exact hv
    have b := hb s1 us I1.kIn (by rw [List.append_nil]; exact hu)
    rw [List.append_nil] at b
    obtain ⟨q1, q2, q3, q4, q5⟩ := I1.pin (a0, oe) (List.mem_append_left _ hp)
    have hpin : L2H.PinOk X.stack H1 s1 (a0, oe) := ⟨q1, q2, fun hm => (List.mem_cons.mp (I1.stkSub a0 hm)).elim q3 q4, q5⟩
    refine wpAny_call (codeAny_mono (Fe.run X.A X.stack s1 H1 G1 ⟨us, []⟩ us vs ds Q (a0, oe) c dd hr hot hpin hc hd I1.env0 b r1 hv g1.sub t z1) fun r2 s' h2 => ?_)
    cases r2 with
    | error e => exact h2.elim
    | ok fl =>
      cases fl with
      | ret u => exact I1.after h2
      | next => exact h2.elim
      | brk => exact h2.elim
      | cont => exact h2.elim
end
end Vs

set_option Elab.async false
set_option linter.all false
set_option maxRecDepth 100000
/-! try .. except as e: return f(e); calls within its body; a def chosen from a list of defs. -/
namespace Vs
open PySem PySem.Spec PyProof.Rows L2 HotX
/-- what is wished of an error of a try's body -/
def eT (w : World) (K : PySem.W.Frag) (cl : Nat → Addr) (W : WX) (n : Nat) : Bas → Nat → D → Prop := fun B c d => ∀ σ v G' H' dd, σ.length = n → Gr B.G B.H G' H' → B.H dd = none → Dt w K G' v d → H' dd = some (.xd [("at", v)]) → W (.ref (cl c)) (some dd) σ H'
/-- an error of the body is told by h -/
def tryD (ncl : Nat) (h : Nat → D → R D) : R Out → R Out
  | .error (.exc c d) => if c < ncl then h c d >>= fun r => .ok (.rt r) else stk
  | r => r
theorem takesN0 {X : Cx} : L2N.Takes X (fun _ _ _ _ => False) := fun _ _ ⟨_, _, _, _, _, _, _, _, _, _, _, _, _, _, _, _, z⟩ => z.elim
section
variable {X : Cx} {x n : Str} {D0 : Addr} {i : Nat} {body suite : List Stmt} {b₀ : Stmt} {np pos pos' : Pos} {cl : Nat → Addr} {fb : Env' → R Out} {fs : Nat → Addr → Addr → Env' → R Out} {h : Nat → D → R D}
theorem s_try (i ncl : Nat) (hs : X.stack = X.env :: X.outer) (hf : X.env.frame = some X.env.locals) (hN : X.N.Nodup) (hi : X.N[i]? = some n) (hln : X.env.kindOf n = some .local) (hc : Names X x (.ref D0)) (hte : ∀ c, c < ncl → PySem.W.exmOne X.K (.ref (cl c)) (.ref D0) = some true)
    (hb : ∀ (W : WX) (pn : List (Addr × Obj)) (xe : Value → Shared → Prop), L2N.Takes (X.tr pn xe) W → PassesOwn (model X.prog X.w) X.A X.env xe → PSs (X.tr pn xe) body (sV X.w X.K (eT X.w X.K cl W X.N.length) [] [] false fb))
    (hsu : ∀ (c : Nat) (a dd : Addr) (oe : Obj) (pn : List (Addr × Obj)), c < ncl → L2N.Zn (.ref (cl c)) (some dd) oe → (∃ vs, oe.data = .fields vs) → PSs (X.suite a ((a, oe) :: pn)) (b₀ :: suite) (sV X.w X.K noE [] [] false (fs c a dd)))
    (hh : ∀ c a dd d, c < ncl → fs c a dd ((List.replicate X.N.length none).set i (some (excDt a dd d))) = (h c d >>= fun r => .ok (.rt r))) :
    PS X (.Try body [.ExceptHandler (some (.Name x np)) (some n) (b₀ :: suite) pos'] [] [] pos) (sV X.w X.K noE [] [] false fun ρ => tryD ncl h (fb ρ)) := by
  refine ps_imp (L2N.ps_try_as (i := i) (tb := fun W => sV X.w X.K (eT X.w X.K cl W X.N.length) [] [] false fb)
    (ts := fun a cls d => fun Dn σ H => ∃ c dd, c < ncl ∧ cls = .ref (cl c) ∧ d = some dd ∧ sV X.w X.K noE [] [] false (fs c a dd) Dn σ H) (Wout := fun _ _ _ _ => False) hs hf hN hi hln hc takesN0 hb ?_) fun Dn σ H ⟨B, ρ, G, r, q⟩ => ?_
  · refine fun a oe cls d pn hz hd => ⟨fun pins s σ H Dn I ⟨c, dd, lt, e1, e2, z⟩ => ?_⟩
    subst e1 e2
    exact (hsu c a dd oe pn lt hz hd).run pins s σ H Dn I z
  · have q : gd (tryD ncl h (fb ρ)) (Post X.w X.K B [] false G Dn) (noE B) := q
    refine ⟨B, ρ, G, r, ?_⟩
    cases hm : fb ρ with
    | ok o =>
      rw [hm] at q
      exact q
    | error er =>
      rw [hm] at q
      cases er with
      | stuck => exact q.elim
      | exc c d =>
        unfold tryD at q
        simp only at q
        split at q
        · rename_i lt
          intro σ' v G' H' dd hl g nd t hd
          refine ⟨true, hte c lt, fun _ a ha => ⟨c, dd, lt, rfl, rfl, B, (List.replicate X.N.length none).set i (some (excDt a dd d)), upd G' dd (.xd [("at", v)]), ?_, ?_⟩, fun z => nomatch z⟩
          · have s2 : Sub G' (upd G' dd (.xd [("at", v)])) := fun b o z => by
              by_cases e : b = dd
              · subst e
                have := g.sub b o z
                rw [hd] at this
                rw [upd_same]; exact this
              · rw [upd_ne e]; exact z
            refine ⟨by rw [List.length_set, List.length_set, List.length_replicate, hl], g.frz nd hd, fun j dj e _ => ?_, (fun _ _ _ z => (nomatch z)), (fun _ _ _ _ _ z => (nomatch z))⟩
            rcases get_set e with ⟨rfl, e2, hj⟩ | ⟨ne, e2⟩
            · cases e2
              refine ⟨.ref a, List.getElem?_set_self (by rw [hl]; rw [List.length_replicate] at hj; exact hj), .exc upd_same (t.sub s2)⟩
            · rw [List.getElem?_replicate] at e2
              split at e2 <;> cases e2
          · rw [hh c a dd d lt]
            cases hr : h c d with
            | ok res =>
              rw [hr] at q
              exact fun v2 G2 H2 bk => q v2 G2 H2 bk
            | error er2 =>
              rw [hr] at q
              cases er2 <;> exact q.elim
        · exact q.elim
end
/-! ### calls within the body -/
section
variable {X : Cx} {cl : Nat → Addr} {k j n : Nat} {x : Str} {p pos : Pos} {f : List D → R D} {W : WX} {a : Expr} {es : List Expr} {O : List Nat} {fs : Env' → R (List D)} {fr : Bool}
/-- the callee's promise, as the body wishes -/
theorem spT {σ : L2.St} {H1 G G1 H : Hp} {B : Bas} {Q : VK} {vs : List V} {ds : List D} (hl : σ.length = X.N.length) (g0 : Gr B.G B.H G H) (g1 : Gr G H G1 H1) (t : DtAll X.w X.K G1 vs ds) (q : gd (fnD n f ds) (fun d => ∀ v G' H', Gr G H G' H' → Dt X.w X.K G' v d → Q v H') (eT X.w X.K cl W X.N.length B)) : spD X.w X.K cl n fr f vs H1 Q (WE W σ) := by
  refine ⟨ds, G1, g1.sub, t, gd_mono2 q (fun d q v G2 H2 bk => ?_) fun c d h v G' H' dd g' n' t' h' => h σ v G' H' dd hl ((g0.trans g1).trans g') (none_of_keep (g0.trans g1).keep n') t' h'⟩
  obtain ⟨g2, bk⟩ := bk
  cases fr with
  | false => exact q v G2 H2 (g1.trans g2) bk
  | true =>
    obtain ⟨b, rfl, n1, n2, o⟩ := bk
    obtain ⟨u, hu⟩ := o.there
    exact q (.ref b) _ H2 (g1.trans (g2.frz n1 hu)) (o.dt n2 hu)
theorem v_fnT (C : Cal X.prog X.w X.K X.mg X.base (L2N.CX X.prog X.w) cl k x n fr f) (hr : Room j X.A) (tk : L2N.Takes X W) (hs : PA X (a :: es) (tA X.w X.K (eT X.w X.K cl W X.N.length) O fs)) (hk : k ≤ j := by decide) (hg : Gl X x := by rfl) (hdb : (x == ("__debug__" : Str)) = false := by decide)
    (he : starEach (a :: es) X.env = (false, eval a X.env) :: starEach es X.env := by rfl) (hpl : (backTo pos (starEach es X.env)).any (·.1) = false := by rfl) : PE X (.Call (.Name x p) (a :: es) [] pos) (tV X.w X.K (eT X.w X.K cl W X.N.length) O fun ρ => fs ρ >>= fnD n f) := by
  obtain ⟨fa, fd, ps, F, m, kp, b⟩ := C.ex
  refine ⟨fun pins s σ H Q I ⟨B, ρ, G, r, q⟩ => ?_⟩
  refine (pe_callS F (hr.mono hk) hg m kp b (fun σ => L2N.passAt tk σ) hs hdb he hpl).run pins s σ H Q I ⟨B, ρ, G, r, gd_mono (gd_bind.mp q) fun ds q vs G1 H1 g1 t => ?_⟩
  exact spT I.len r.gr g1 t q
/-- defs in a row -/
inductive Sels (X : Cx) (cl : Nat → Addr) (j n : Nat) : List Expr → List (List D → R D) → Prop
  | nil : Sels X cl j n [] []
  | cons {k : Nat} {x : Str} {p : Pos} {fr : Bool} {f : List D → R D} {ns : List Expr} {fl : List (List D → R D)} (C : Cal X.prog X.w X.K X.mg X.base (L2N.CX X.prog X.w) cl k x n fr f) (h : Sels X cl j n ns fl) (hk : k ≤ j := by decide) (hg : Gl X x := by rfl) (hdb : (x == ("__debug__" : Str)) = false := by decide)
    (hst : starEach (.Name x p :: ns) X.env = (false, eval (.Name x p) X.env) :: starEach ns X.env := by rfl) : Sels X cl j n (.Name x p :: ns) (f :: fl)
structure SelF (X : Cx) (cl : Nat → Addr) (j n : Nat) (a : Addr) (f : List D → R D) : Prop where
  ex : ∃ (k : Nat) (fd : FuncData) (ps : List Str) (fr : Bool), k ≤ j ∧ FnOk X.prog X.w X.K X.mg X.base (L2N.CX X.prog X.w) k a fd ps (spD X.w X.K cl n fr f) ∧ PySem.W.keepIn X.K (.ref a) = true ∧ Binds X.K fd ps []
theorem Sels.at {ns : List Expr} {fl : List (List D → R D)} (S : Sels X cl j n ns fl) : ∃ as : List Addr, PA X ns (fun σ H Q => Q (as.map V.ref) H) ∧ as.length = fl.length ∧ ∀ (i : Nat) (a : Addr) (f : List D → R D), as[i]? = some a → fl[i]? = some f → SelF X cl j n a f := by
  induction S with
  | nil => exact ⟨[], pa_imp pa_nil fun _ _ _ h => h, rfl, fun i a f h => by simp at h⟩
  | @cons k x p fr f ns fl C h hk hg hdb hst ih =>
    obtain ⟨as, h1, h2, h3⟩ := ih
    obtain ⟨fa, fd, ps, F, m, kp, b⟩ := C.ex
    refine ⟨fa :: as, pa_imp (pa_cons (pe_glob (v := .ref fa) hg m rfl hdb) h1 hst) fun _ _ _ h => h, congrArg (· + 1) h2, fun i a g e1 e2 => ?_⟩
    cases i with
    | zero =>
      simp at e1 e2
      subst e1 e2
      exact ⟨k, fd, ps, fr, hk, F, kp, b⟩
    | succ i => exact h3 i a g (by simpa using e1) (by simpa using e2)
/-- [f, g, ..][i](..) -/
theorem v_sel {ns : List Expr} {fl : List (List D → R D)} {idx : Expr} {lp sp : Pos} {fi : Env' → R D} (S : Sels X cl j n ns fl) (hr : Room j X.A) (tk : L2N.Takes X W) (hi : PE X idx (tV X.w X.K (eT X.w X.K cl W X.N.length) O fi)) (hs : PA X (a :: es) (tA X.w X.K (eT X.w X.K cl W X.N.length) O fs)) (hlen : fl.length ≤ 1000) (hpx : PlainIx idx)
    (he : starEach (a :: es) X.env = (false, eval a X.env) :: starEach es X.env := by rfl) (hpl : (backTo pos (starEach es X.env)).any (·.1) = false := by rfl)
    (hc : eval (.Call (.Subscript (.List ns lp) idx sp) (a :: es) [] pos) X.env = (do callWith pos (← eval (.Subscript (.List ns lp) idx sp) X.env) [] (backTo pos (starEach (a :: es) X.env)) (backToKw pos (keywordEach [] X.env))) := by rfl) :
    PE X (.Call (.Subscript (.List ns lp) idx sp) (a :: es) [] pos) (tV X.w X.K (eT X.w X.K cl W X.N.length) O fun ρ => fi ρ >>= fun d => asI d >>= fun i => opt (atI fl i) >>= fun f => fs ρ >>= fnD n f) := by
  obtain ⟨as, pa, hl, hf⟩ := S.at
  have hfun := pe_ix (pos := sp) (ix_list (X := X)) (pe_lst (pos := lp) pa) hi hpx
  refine ⟨fun pins s σ H Q I ⟨B, ρ, G, r, q⟩ => ?_⟩
  refine PyProof.Rows.Call_ (thn (hfun.run pins s σ H (fun v H2 => ∃ (ia : Addr) (f : List D → R D) (G2 : Hp), v = .ref ia ∧ SelF X cl j n ia f ∧ Rp X.w X.K B O ρ σ G2 H2 ∧ Gr G H G2 H2 ∧ gd (fs ρ >>= fnD n f) (fun d => ∀ v G' H', Gr G H G' H' → Dt X.w X.K G' v d → Q v H') (eT X.w X.K cl W X.N.length B)) I ?_) fun u1 s1 ⟨v, H2, I2, rv, ia, f, G2, ev, sf, r2, g2, q2⟩ => ?_) hc
  · refine ⟨by rw [List.length_map, hl, sizeLine_eq]; omega, fun p np => ⟨B, ρ, G, r.grow (Gr.own r.sub np), gd_mono (gd_bind.mp q) fun d q v G1 H1 g1 t => ?_⟩⟩
    obtain ⟨i, rfl, q⟩ := asI_in t (gd_bind.mp q)
    obtain ⟨f, ef, q⟩ := opt_in (gd_bind.mp q)
    unfold atI at ef
    obtain ⟨m, e1, e2⟩ := Option.bind_eq_some_iff.mp ef
    have hm : m < as.length := by rw [hl]; exact (List.getElem?_eq_some_iff.mp e2).1
    have e3 : as[m]? = some as[m] := List.getElem?_eq_getElem hm
    refine ⟨p, as.map V.ref, i, .ref as[m], rfl, rfl, SqL.of (g1.keep p _ upd_same), ?_, as[m], f, G1, rfl, hf m _ f e3 e2, (r.grow (Gr.own r.sub np)).grow g1, (Gr.own r.sub np).trans g1, q⟩
    unfold atI
    rw [List.length_map, hl, e1]
    show (as.map V.ref)[m]? = _
    rw [List.getElem?_map, e3]; rfl
  · subst ev
    obtain rfl : u1 = Value.ref ia := rv
    obtain ⟨k, fd, ps, fr, hk, F, kp, b⟩ := sf.ex
    refine PySem.W.callWith_K (h₀ := X.base) I2.ok.mod.kin kp (thn (hs.run pos pins s1 σ H2 _ I2 ⟨B, ρ, G2, r2, gd_mono (gd_bind.mp q2) fun ds q vs G3 H3 g3 t => spT (fr := fr) I.len r.gr (g2.trans g3) t q⟩) fun us s2 ⟨vs, H3, I3, r3, q3⟩ => ⟨I3.kIn, ?_⟩) he hpl
    exact run_fnS F (hr.mono hk) b (L2N.passAt tk σ) I3 r3 q3
end
end Vs

set_option Elab.async false
set_option linter.all false
set_option maxRecDepth 100000
/-! repr; the law's own def where nothing is being told: it may call repr. -/
namespace Vs
open PySem PySem.Spec PyProof.Rows L2
/-! ### repr -/
def rpOk (d : D) : Bool := PyData.layable0 d && PyData.intsShort 13 d && PyData.showable d
def reprD : List D → R D
  | [.list xs] => if rpOk (.list xs) = true then .ok (.str (PyData.shown (.list xs))) else stk
  | [.tuple xs] => if rpOk (.tuple xs) = true then .ok (.str (PyData.shown (.tuple xs))) else stk
  | _ => stk
theorem repr_ref {X : Cx} {pins : List (Addr × Obj)} {σ : L2.St} {G H : Hp} {s : Shared} {Q : VK} {a : Addr} {d : D} (gs : X.A.guards = some []) (hu : X.A.units + 65 < cLine) (I : Inv X pins σ H s) (sb : Sub G H) (t : Dt X.w X.K G (.ref a) d) (hd : rpOk d = true) (q : Q (.str (PyData.shown d)) H) :
    wpAny (model X.prog X.w) X.A (call (.builtin "repr") [.ref a]) (EP X pins σ Q) X.xe s := by
  unfold rpOk at hd
  rw [Bool.and_eq_true, Bool.and_eq_true] at hd
  obtain ⟨⟨lay, ish⟩, sh⟩ := hd
  have l2 : (PyData.canLay0 d && decide (PyData.depth d ≤ 64) && decide (PyData.weight d ≤ 2 ^ 20)) = true := lay
  rw [Bool.and_eq_true, Bool.and_eq_true] at l2
  have dep := of_decide_eq_true l2.1.2
  obtain ⟨as, r⟩ := Dp.reads I d (.ref a) (.ref a) (t.dp sb l2.1.1) rfl
  exact repr_of_reads' r sh (PyData.noDict_hsm (PyData.hasDict_of_layable lay)) gs (by omega) (fun _ _ e => e)
    (fun h' u tk k => ⟨.str (PyData.shown d), H, I.kept k, ⟨u, rfl⟩, q⟩) (PyData.shown_fits_of_layable0 (by decide) (by decide) lay ish)
theorem c_repr {X : Cx} (gs : X.A.guards = some []) (hu : X.A.units + 65 < cLine) : CallR X (.builtin "repr") (rC X.w X.K reprD) := by
  intro pins s σ H xs us Q I r ⟨G, ds, e, sb, t, q⟩
  unfold reprD at q
  split at q
  · cases t with
    | cons t1 t2 =>
      cases t2
      cases t1 with
      | lst s1 a1 =>
        cases r with
        | cons r1 r2 =>
          cases r2
          cases r1
          split at q
          · rename_i hd
            exact repr_ref gs hu I sb (.lst s1 a1) hd (q _ G H (Gr.refl sb) (.str _))
          · exact q.elim
  · cases t with
    | cons t1 t2 =>
      cases t2
      cases t1 with
      | tup s1 a1 =>
        cases r with
        | cons r1 r2 =>
          cases r2
          cases r1
          split at q
          · rename_i hd
            exact repr_ref gs hu I sb (.tup s1 a1) hd (q _ G H (Gr.refl sb) (.str _))
          · exact q.elim
  · exact q.elim
/-! ### the law's def -/
/-- what the law's def does where it is called from outside -/
structure TopOk (P : Program) (w : World) (K : PySem.W.Frag) (mg : Str → Option Value) (base : Heap) (f : Addr) (fd : FuncData) (x : Str) (g : List D → R D) : Prop where
  run : ∀ (s : Shared) (H G : Hp) (u : Value) (v : V) (d : D) (Q : VK), Env0 P w K mg base callerA [] s H → RelV v u → Sub G H → Dt w K G v d → gd (g [d]) (fun d => ∀ v G' H', Back w K false G H G' H' v d → Q v H') (fun _ _ => False) →
    codeAny (model P w) callerA (.call (.ref f) ⟨[u], []⟩) (CR CX0 [] P w H s Q E0) s
section
variable {P : Program} {w : World} {K : PySem.W.Frag} {mg : Str → Option Value} {base : Heap} {x y : Str} {st : Stmt} {a : Addr} {fd : FuncData} {N : List Str} {k : Nat} {O' : List Nat} {fb : Env' → R Out}
theorem top_of (F : Fun K x x st a fd) (S : FnScope N [y] (defScope st)) (hr : Room (k + 1) callerA) (hb : ∀ (s : Shared) (u : Value), BindsTo s fd ⟨[u], []⟩ [(y, u)])
    (body : ∀ (cdv : Value) (s : Shared) (H : Hp) (E : XK), Room k (callerA.deeper (envOfC x (defScope st) s.heap.objs.size a cdv)) →
      PSs (cxOf CX0 P w K mg base N x (defScope st) a cdv callerA [] s H E).nox (defBody st) (sV w K noE [] O' false fb)) :
    TopOk P w K mg base a fd y (fun ds => noX (fb (arg0 N.length ds)) >>= ret false) := by
  obtain ⟨oc, od, kV, doc, pm, an, cdv, ct, osl, rfl, lk, hcd⟩ := F.ex
  refine ⟨fun s H G u v d Q e0 r sG t q => ?_⟩
  have kk : ∀ b o, base.get? b = some o → s.heap.get? b = some o := fun b o e => (e0.bs b o e).1
  have KX := e0.mod.kin.keeps kk
  have locals : ∀ z ∈ [(y, u)], (defScope st).names.lookup z.1 = some .local ∨ ((defScope st).names.lookup z.1 = some .cell ∧ ((cellsFrom (s.heap.objs.size + 1) (defScope st).names []).lookup z.1).isSome = true) := fun z hz => by
    rw [List.mem_singleton] at hz
    subst hz
    exact (S.par y List.mem_cons_self).imp id fun z => ⟨z, PySem.W.cellsFrom_some _ _ _ (.inl z)⟩
  refine codeAny_call_function hr.depth (KX _ _ lk) rfl S.co S.gen rfl (PySem.W.codeRec_of KX hcd) (hb _ _ _ _ _ _ (wpAny_newFunctionEnv_cells S.kind locals fun env he s1 ic => ?_))
  subst he
  refine ⟨(e0.mod.nolimit.keeps kk).keeps ic.toInCall.keep, codeAny_func ?_⟩
  have I := inv_start (CX := CX0) (E := E0) (qual := x) (f := a) (cd := cdv) (vs := [v]) (us := [u]) S hr.hd e0 rfl (.cons r .nil) ic
  have hq : sV w K noE [] O' false fb { nx := fun _ H' => Q .non H', rt := Q } (L2.start N [v]) H := by
    refine ⟨⟨G, H⟩, _, G, dtAll_start sG (.one t), ?_⟩
    obtain ⟨o, z, q⟩ := noX_in (gd_bind.mp q)
    rw [z]
    cases o with
    | rt d => exact q
    | nx ρ' => exact fun σ' G' H' s' r' => q .non G' H' ⟨r'.gr, .non⟩
  refine wpAny_mono ((body cdv s H E0 (hr.deeper _)).nox.run [] s1 (L2.start N [v]) H _ I hq) (fun fl s' hs => ?_) fun _ _ hs => hs
  have fin : ∀ {σ' : L2.St} {H' : Hp} {v : V} {u : Value}, Inv (cxOf CX0 P w K mg base N x (defScope st) a cdv callerA [] s H E0) [] σ' H' s' → RelV v u → Q v H' → CE [] P w H s Q u s' := fun {σ' H' v u} J rv q => ⟨v, H', J.os, J.bare, J.base, J.hok, rv, q⟩
  cases fl with
  | ret u => exact let ⟨v, σ', H', J, rv, q⟩ := hs; fin J rv q
  | next => exact let ⟨σ', H', J, q⟩ := hs; fin (v := V.non) (u := Value.none) J rfl q
  | brk => exact let ⟨_, _, _, q⟩ := hs; False.elim q
  | cont => exact let ⟨_, _, _, q⟩ := hs; False.elim q
end
/-- what is tracked at the call: the script alone, if it is not one of the written objects -/
def scH (K : PySem.W.Frag) (a : Addr) (o : Obj) (xs : List V) : Hp := fun b => if b = a ∧ K.lookup a = none then some (.frz o (.lst xs)) else none
section
variable {K : PySem.W.Frag} {a b : Addr} {o : Obj} {xs : List V} {u : HO}
theorem scH_some (h : scH K a o xs b = some u) : b = a ∧ K.lookup a = none ∧ u = .frz o (.lst xs) := by
  unfold scH at h
  split at h
  · rename_i z
    exact ⟨z.1, z.2, (Option.some.inj h).symm⟩
  · cases h
theorem scH_ne (h : b ≠ a ∨ K.lookup a ≠ none) : scH K a o xs b = none := by
  unfold scH
  rw [if_neg]
  exact fun z => h.elim (fun h => h z.1) fun h => h z.2
end
theorem law_top {P : Program} {w : World} {K : PySem.W.Frag} {mg mb : Str → Option Value} {fa a : Addr} {fd : FuncData} {x : Str} {g : List D → R D} {s₁ : Shared} {vs : List Value} {ns : List Int}
    (KX : K.In s₁.heap) (hns : s₁.heap.Ns mainGlobals mg) (hb : s₁.heap.Ns builtinsNs mb) (hbb : ∀ x : Str, x ≠ "__name__" → mb x = bootBuiltins x) (hlim : s₁.heap.NoLimit) (hg : s₁.gens = #[])
    (ha : s₁.heap.get? a = some { cls := .type "list", data := .seq vs.toArray }) (hi : IntsAre vs ns) (hl : ns.length ≤ sizeLine)
    (T : ∀ base : Heap, K.In base → base.Ns mainGlobals mg → TopOk P w K mg base fa fd x g) (hgr : g [.dict [(.none, .list (ns.map .int)), (.none, .none)]] = .ok (.bool true)) :
    codeAny (model P w) callerA (.call (.ref fa) ⟨[.ref a], []⟩) (fun r s' => r = .ok (.ret (.bool true)) ∧ OldK s₁.heap s'.heap ∧ s'.os = s₁.os ∧ AllBare s'.gens) s₁ := by
  let o : Obj := { cls := .type "list", data := .seq vs.toArray }
  let H := scH K a o (ns.map V.int)
  have rv := vals_ints hi
  have len : (ns.map V.int).length ≤ sizeLine := by rw [List.length_map]; exact hl
  have sq : SqL K H a (ns.map V.int) := by
    cases hk : K.lookup a with
    | none => exact .inl (.inr ⟨o, if_pos ⟨rfl, hk⟩⟩)
    | some o2 =>
      have e := KX a o2 hk
      rw [ha] at e
      cases e
      refine .inr ⟨o, vs.toArray, _, hk, rfl, rfl, rfl, ?_, rv⟩
      rw [List.size_toArray, ← rv.length]
      exact len
  have hok : HOk P w H s₁.heap := fun b u z => by
    obtain ⟨rfl, _, rfl⟩ := scH_some z
    exact ⟨ha, len, vs, _, rv, ha⟩
  have un : ∀ {b : Addr} {o2 : Obj}, s₁.heap.get? b = some o2 → (∀ vs n, o2.data ≠ .seq vs n) → (hidT s₁.heap H).get? b = some o2 := fun {b o2} e d => hidT_get e (scH_ne (.inl fun z => by
    subst z
    rw [ha] at e
    cases e
    exact d _ _ rfl))
  have nsK : ∀ {b : Addr} {m : Str → Option Value}, s₁.heap.Ns b m → (hidT s₁.heap H).Ns b m := fun {b m} ⟨o2, es, ep, e, d, r⟩ => ⟨o2, es, ep, un e (fun _ _ z => by rw [d] at z; cases z), d, r⟩
  have hKb : K.In (hidT s₁.heap H) := fun b o2 e => hidT_get (KX b o2 e) (by
    cases z : H b with
    | none => rfl
    | some u =>
      obtain ⟨rfl, z2, _⟩ := scH_some z
      rw [z2] at e; cases e)
  have M : Mod K mg (hidT s₁.heap H) := ⟨hKb, nsK hns, ⟨mb, nsK hb, hbb⟩, hlim.imp fun mc z => ⟨nsK z.1, z.2⟩⟩
  have e0 : Env0 P w K mg (hidT s₁.heap H) callerA [] s₁ H := ⟨rfl, M, fun b o e => of_hidT e, Nat.le_of_eq (hidT_size _ _), trivial, fun b hb => absurd hb (List.not_mem_nil), hok, .of_eq hg⟩
  have tI : ∀ l : List Int, DtAll w K H (l.map V.int) (l.map .int) := fun l => by
    induction l with
    | nil => exact .nil
    | cons i l ih => exact .cons (.int i) ih
  refine codeAny_mono ((T _ hKb (nsK hns)).run s₁ H H (.ref a) (.ref a) _ (fun v _ => v = .bl true) e0 rfl (Sub.refl H) (.scr sq (tI ns)) (by
    rw [hgr]
    intro v G' H' b
    cases b.2
    rfl)) fun r s' h => ?_
  cases r with
  | error e => exact h.elim
  | ok fl =>
    cases fl with
    | next => exact h.elim
    | brk => exact h.elim
    | cont => exact h.elim
    | ret u =>
      obtain ⟨v, H', os, bare, un, hok', r', q⟩ := h
      have q : v = .bl true := q
      subst q
      obtain rfl : u = Value.bool true := r'
      refine ⟨rfl, OldK.of_keep fun b o2 e => ?_, os, bare⟩
      cases z : H b with
      | none => exact un.keep b o2 e z (fun z => absurd z List.not_mem_nil) List.not_mem_nil
      | some t =>
        obtain ⟨rfl, _, rfl⟩ := scH_some z
        obtain ⟨e1, _⟩ := hok b _ z
        obtain ⟨e2, _⟩ := hok' b _ (un.frzs b o _ z)
        rw [e] at e1; cases e1
        exact e2
/-- the goal that k_head leaves -/
theorem walk_top {l : PySem.W.OpenLaw} {n k : Nat} {q : Program} {loose : List Str} {XP : (Str → Option Value) → Heap → Prop} {YP : World → Heap → Prop} {d : DefRec} {K : Params → PySem.W.Frag} {g : List D → R D} {x : Str}
    (hn : l.most = some n) (hn2 : n ≤ sizeLine) (hdf : d.params.defaults = []) (hY : ∀ (w : World) (h : Heap), YP w h → (K w.params).In h)
    (F : ∀ (w : World) (mg : Str → Option Value) (fa : Addr) (h : Heap), (K w.params).In h → h.Ns mainGlobals mg → mg d.name = some (.ref fa) →
      ∃ fd : FuncData, ∀ base : Heap, (K w.params).In base → base.Ns mainGlobals mg → TopOk l.prog w (K w.params) mg base fa fd x g)
    (hg : ∀ ns : List Int, ns.length ≤ n → g [.dict [(.none, .list (ns.map .int)), (.none, .none)]] = .ok (.bool true)) :
    PySem.W.WalkO q loose XP YP l.row.toRowW d [] (fun f vs => PySem.call f vs) := by
  refine Att.attach_call hn hdf fun w s₀ s₁ mg mb fa o pm cd doc a vs ns G Y ho hd hcd hmg hobj hints hlen hgn => ?_
  obtain ⟨fd, T⟩ := F w mg fa _ (hY w _ Y) G.T.g hmg
  exact law_top (hY w _ Y) G.T.g G.T.b G.T.builtins G.T.nolimit hgn hobj hints (Nat.le_trans hlen hn2) T (hg ns hlen)
end Vs

set_option Elab.async false
set_option linter.all false
set_option maxRecDepth 100000
/-! Glue for the laws about errors. -/
namespace Vs
open PySem PySem.Spec PyProof.Rows L2 HotX
/-! ### or by truth -/
def truD : D → R Bool
  | .none => .ok false
  | .bool b => .ok b
  | .tuple ds => .ok (!ds.isEmpty)
  | _ => stk
section
variable {X : Cx} {a b : Expr} {rs : List Expr} {pos : Pos} {e : Bas → Nat → D → Prop} {O : List Nat} {fa fb : Env' → R D} {fw : Env' → R Bool}
theorem tru_of {w : World} {K : PySem.W.Frag} {G H : Hp} {v : V} {d : D} {q : Bool → Prop} {e : Nat → D → Prop} (s : Sub G H) (t : Dt w K G v d) (h : gd (truD d) q e) : ∃ k, TruV K v H k ∧ q k := by
  cases t with
  | non => exact ⟨false, rfl, h⟩
  | bl b => exact ⟨b, rfl, h⟩
  | @tup _ xs ds s1 a1 =>
    refine ⟨_, .inr (.inl ⟨xs, SqT.sub s s1, rfl⟩), ?_⟩
    have : xs.isEmpty = ds.isEmpty := by cases a1 <;> rfl
    rw [this]
    exact h
  | _ => exact h.elim
theorem v_orT (h : PE X a (tV X.w X.K e O fa)) (h2 : PE X (.BoolOp .Or (b :: rs) pos) (tV X.w X.K e O fb)) : PE X (.BoolOp .Or (a :: b :: rs) pos) (tV X.w X.K e O fun ρ => fa ρ >>= fun d => truD d >>= fun k => if k then .ok d else fb ρ) := by
  refine pe_imp (pe_orT h h2) fun σ H Q ⟨B, ρ, G, r, q⟩ => ⟨B, ρ, G, r, gd_mono (gd_bind.mp q) fun d z v G1 H1 g1 t => ?_⟩
  obtain ⟨k, tk, z⟩ := tru_of g1.sub t (gd_bind.mp z)
  refine ⟨k, tk, ?_⟩
  cases k with
  | true => exact z v G1 H1 g1 t
  | false => exact ⟨B, ρ, G1, r.grow g1, gd_mono z fun d z2 v G2 H2 g2 t => z2 v G2 H2 (g1.trans g2) t⟩
theorem noX_gd {α : Type} {x : R α} {q : α → Prop} {e e' : Nat → D → Prop} (h : gd (noX x) q e) : gd x q e' := by
  obtain ⟨a, z, q⟩ := noX_in h
  rw [z]; exact q
theorem w_lookX (h : PT X a (tW X.w X.K noE [] fw)) : PT X a (tW X.w X.K e O fun ρ => noX (fw ρ)) :=
  pt_imp (w_look h) fun σ H Q ⟨B, ρ, G, r, q⟩ => ⟨B, ρ, G, r, noX_gd q⟩
theorem v_lookX (h : PE X a (tV X.w X.K noE [] fa)) : PE X a (tV X.w X.K e O fun ρ => noX (fa ρ >>= asS)) :=
  pe_imp (v_look h) fun σ H Q ⟨B, ρ, G, r, q⟩ => ⟨B, ρ, G, r, noX_gd q⟩
end
/-! ### where the error may pass -/
theorem passX {X : Cx} {E : XK} (tk : L2N.Takes X fun cls d _ H => E cls d H) : Passes (L2N.CX X.prog X.w) X E := L2N.passes_call tk fun _ _ _ _ h => h
/-- told only where p holds -/
def onlyP {α : Type} (p : Bool) (x : R α) : R α := if p = true then x else stk
theorem s_only {X : Cx} {sts : List Stmt} {e : Bas → Nat → D → Prop} {O O' : List Nat} {fr p : Bool} {f : Env' → R Out} (h : p = true → PSs X sts (sV X.w X.K e O O' fr f)) : PSs X sts (sV X.w X.K e O O' fr fun ρ => onlyP p (f ρ)) := by
  unfold onlyP
  cases p with
  | true => exact h rfl
  | false => exact s_nevs
/-! ### the error's name -/
/-- a def called with the error in hand, under a name of the module -/
structure CalE (P : Program) (w : World) (K : PySem.W.Frag) (mg : Str → Option Value) (base : Heap) (cl : Nat → Addr) (k : Nat) (x : Str) (g : Nat → Addr → Addr → List D → R D) : Prop where
  ex : ∃ (f : Addr) (fd : FuncData) (ps : List Str), FnE P w K mg base cl k f fd ps g ∧ mg x = some (.ref f) ∧ PySem.W.keepIn K (.ref f) = true ∧ Binds K fd ps [] ∧ ps.length = 1
theorem pinE_of {X : Cx} {p : Addr × Obj} {C dd : Addr} (hp : p ∈ X.pn) (hot : L2H.Hot1 X.A p) (hc : p.2.cls = .ref C) (hd : p.2.dict = some dd) : PinE X p.1 C dd := ⟨p.2, hp, hc, hd, hot.2.imp fun _ z => z.1⟩
theorem hotI_h {X : Cx} {p : Addr × Obj} (hp : p ∈ X.pn) (hot : L2H.Hot1 X.A p) : HotI X := hotI_of ⟨p, hot, hp⟩
section
variable {X : Cx} {cl : Nat → Addr} {D0 fI : Addr} {k j i : Nat} {g : Nat → Addr → Addr → List D → R D} {h : Nat → D → R D} {x n : Str} {body : List Stmt} {np pos pos' p1 p2 p3 p4 : Pos} {fb : Env' → R Out} {ncl : Nat} {y : Str}
/-- try: .. except x as n: return y(n) -/
theorem s_tryN (i ncl : Nat) (C : CalE X.prog X.w X.K X.mg X.base cl k y g) (hr : Room j X.A) (hg : ∀ c a dd d, c < ncl → g c a dd [excDt a dd d] = h c d) (hte : ∀ c, c < ncl → PySem.W.exmOne X.K (.ref (cl c)) (.ref D0) = some true) (hc : X.mg x = some (.ref D0))
    (hb : ∀ (W : WX) (pn : List (Addr × Obj)) (xe : Value → Shared → Prop), L2N.Takes (X.tr pn xe) W → PassesOwn (model X.prog X.w) X.A X.env xe → PSs (X.tr pn xe) body (sV X.w X.K (eT X.w X.K cl W X.N.length) [] [] false fb))
    (hN : X.N.Nodup) (hi : X.N[i]? = some n := by rfl) (hv : Vis X.env.scope n := by first | exact Or.inl rfl | exact Or.inr (Or.inl rfl) | exact Or.inr (Or.inr rfl)) (hln : X.env.kindOf n = some .local := by rfl) (hk : k ≤ j := by decide) (hs : X.stack = X.env :: X.outer := by rfl) (hf : X.env.frame = some X.env.locals := by rfl)
    (hgx : Gl X x := by rfl) (hdx : (x == ("__debug__" : Str)) = false := by decide) (hgy : Gl X y := by rfl) (hdy : (y == ("__debug__" : Str)) = false := by decide) (hdn : (n == ("__debug__" : Str)) = false := by decide) (hcn : (n == ("__classdict__" : Str)) = false := by decide)
    (he : starEach [.Name n p3] X.env = (false, eval (.Name n p3) X.env) :: starEach [] X.env := by rfl) (hpl : (backTo p4 (starEach [] X.env)).any (·.1) = false := by rfl) :
    PS X (.Try body [.ExceptHandler (some (.Name x np)) (some n) [.Return (some (.Call (.Name y p2) [.Name n p3] [] p4)) p1] pos'] [] [] pos) (sV X.w X.K noE [] [] false fun ρ => tryD ncl h (fb ρ)) := by
  obtain ⟨f, fd, ps, Fe, m, kp, b, hps⟩ := C.ex
  have hil : i < X.N.length := (List.getElem?_eq_some_iff.mp hi).1
  refine s_try (fs := fun c a dd ρ => ((gv ρ i >>= fun x => (.ok [] : R (List D)) >>= fun xs => .ok (x :: xs)) >>= fnD 1 (g c a dd)) >>= fun d => .ok (.rt d)) i ncl hs hf hN hi hln ⟨hgx, hdx, .inl hc⟩ hte hb (fun c a dd oe pn lt hz hd => ?_) fun c a dd d lt => ?_
  · obtain ⟨vs, hd⟩ := hd
    have hot : L2H.Hot1 (X.A.mark (some (.ref a))) (a, oe) := ⟨rfl, vs, hd, hz.2.2 vs hd⟩
    have hrH : L2H.RoomH k (X.A.mark (some (.ref a))) := L2H.RoomH.mono ⟨hr.dp, hr.un⟩ hk
    exact s_one (s_ret (v_callE (X := X.suite a ((a, oe) :: pn)) Fe hps hrH List.mem_cons_self hot hz.1 hz.2.1 m kp b (a_cons (v_nm i (by simp) hi hv hdn hcn) a_nil he) hgy hdy he hpl))
  · have e1 : gv ((List.replicate X.N.length (none : Option D)).set i (some (excDt a dd d))) i = .ok (excDt a dd d) := by
      unfold gv
      rw [List.getElem?_set_self (by rw [List.length_replicate]; exact hil)]
    rw [e1]
    show (fnD 1 (g c a dd) [excDt a dd d] >>= fun d => (.ok (.rt d) : R Out)) = _
    unfold fnD
    rw [if_pos (by rfl), hg c a dd d lt]
end
theorem isE_self {a dd : Addr} {b : Bool} {d : D} : isE a dd b (excDt a dd d) = .ok (.bool b) := by
  unfold isE excDt
  simp
theorem atE_self {a dd : Addr} {d : D} : atE a dd (excDt a dd d) = .ok d := by
  unfold atE excDt
  simp
end Vs

set_option Elab.async false
set_option linter.all false
set_option maxRecDepth 100000
/-! The typed mirror: plain Lean functions over typed values, and the rules that carry them to the meanings. -/
namespace Vt
open PySem PySem.Spec PyProof.Rows L2 Vs

abbrev Ch := Fin 128
abbrev Tx := List Ch
class En (α : Type) where
  en : α → D
open En (en)
def eS (l : Tx) : D := .str (tx (l.map Fin.val))
structure T3 (α β γ : Type) where
  a : α
  b : β
  c : γ
deriving DecidableEq
structure T4 (α β γ δ : Type) where
  a : α
  b : β
  c : γ
  d : δ
deriving DecidableEq
structure Tu (α : Type) where
  l : List α
deriving DecidableEq
structure Dc (κ α : Type) where
  l : List (κ × α)
deriving DecidableEq
instance : En D := ⟨fun d => d⟩
instance : En Int := ⟨.int⟩
instance : En Bool := ⟨.bool⟩
instance : En Unit := ⟨fun _ => .none⟩
instance {α : Type} [En α] : En (List α) := ⟨fun l => .list (l.map en)⟩
instance : En Tx := ⟨eS⟩
instance {α β : Type} [En α] [En β] : En (α × β) := ⟨fun p => .tuple [en p.1, en p.2]⟩
instance {α β γ : Type} [En α] [En β] [En γ] : En (T3 α β γ) := ⟨fun p => .tuple [en p.a, en p.b, en p.c]⟩
instance {α β γ δ : Type} [En α] [En β] [En γ] [En δ] : En (T4 α β γ δ) := ⟨fun p => .tuple [en p.a, en p.b, en p.c, en p.d]⟩
instance {α : Type} [En α] : En (Tu α) := ⟨fun t => .tuple (t.l.map en)⟩
def eKv {κ α : Type} [En κ] [En α] (p : κ × α) : D × D := (en p.1, en p.2)
instance {κ α : Type} [En κ] [En α] : En (Dc κ α) := ⟨fun d => .dict (d.l.map eKv)⟩
instance {α : Type} [En α] : En (Option α) := ⟨fun o => match o with | none => .none | some a => en a⟩

/-! ### what is known of an encoding -/
theorem S_inj {a b : Tx} : tx (a.map Fin.val) = tx (b.map Fin.val) ↔ a = b := by
  rw [tx_inj]
  constructor
  · intro h
    exact List.map_inj_right (fun x y e => Fin.ext e) |>.mp h
  · intro h; rw [h]
/-- == on the data is = -/
class Eqv (α : Type) [En α] [DecidableEq α] : Prop where
  eqv : ∀ a b : α, PyData.eqv (en a) (en b) = decide (a = b)
  nn : ∀ a : α, en a ≠ .none
/-- data that can be laid, of this depth at most -/
class Sh (α : Type) [En α] where
  n : Nat
  lay : ∀ a : α, (en a).canLay0 = true
  dep : ∀ a : α, (en a).depth ≤ n
theorem ch_lt (c : Ch) : c.val < 0x110000 := Nat.lt_trans c.isLt (by decide)
theorem lay_S (l : Tx) : PyData.strOk (tx (l.map Fin.val)) = true := by
  unfold PyData.strOk
  rw [Array.all_eq_true']
  intro x hx
  have hx : x ∈ l.map Fin.val := by simpa [tx] using hx
  obtain ⟨c, _, rfl⟩ := List.mem_map.mp hx
  exact decide_eq_true (ch_lt c)
instance : Sh Int := ⟨0, fun _ => rfl, fun _ => Nat.le_refl _⟩
instance : Sh Bool := ⟨0, fun _ => rfl, fun _ => Nat.le_refl _⟩
instance : Sh Unit := ⟨0, fun _ => rfl, fun _ => Nat.le_refl _⟩
instance : Sh Tx := ⟨0, lay_S, fun _ => Nat.le_refl _⟩
theorem lay_all {α : Type} [En α] [Sh α] : ∀ l : List α, PyData.canLayAll0 (l.map en) = true
  | [] => rfl
  | a :: l => by
    show ((en a).canLay0 && PyData.canLayAll0 (l.map en)) = true
    rw [Sh.lay a, lay_all l]; rfl
theorem dep_all {α : Type} [En α] [s : Sh α] : ∀ l : List α, PyData.depthAll (l.map en) ≤ s.n
  | [] => Nat.zero_le _
  | a :: l => by
    show max (en a).depth (PyData.depthAll (l.map en)) ≤ _
    exact Nat.max_le.mpr ⟨Sh.dep a, dep_all l⟩
instance {α : Type} [En α] [s : Sh α] : Sh (List α) := ⟨s.n + 1, fun l => lay_all l, fun l => Nat.succ_le_succ (dep_all l)⟩
instance {α : Type} [En α] [s : Sh α] : Sh (Tu α) := ⟨s.n + 1, fun l => lay_all l.l, fun l => Nat.succ_le_succ (dep_all l.l)⟩
instance {α β : Type} [En α] [En β] [s : Sh α] [t : Sh β] : Sh (α × β) := ⟨max s.n t.n + 1, fun p => by
  show ((en p.1).canLay0 && ((en p.2).canLay0 && true)) = true
  rw [Sh.lay p.1, Sh.lay p.2]; rfl, fun p => by
  show max (en p.1).depth (max (en p.2).depth 0) + 1 ≤ _
  have h1 := Sh.dep p.1
  have h2 := Sh.dep p.2
  omega⟩
instance {α β γ : Type} [En α] [En β] [En γ] [s : Sh α] [t : Sh β] [u : Sh γ] : Sh (T3 α β γ) := ⟨max s.n (max t.n u.n) + 1, fun p => by
  show ((en p.a).canLay0 && ((en p.b).canLay0 && ((en p.c).canLay0 && true))) = true
  rw [Sh.lay p.a, Sh.lay p.b, Sh.lay p.c]; rfl, fun p => by
  show max (en p.a).depth (max (en p.b).depth (max (en p.c).depth 0)) + 1 ≤ _
  have h1 := Sh.dep p.a
  have h2 := Sh.dep p.b
  have h3 := Sh.dep p.c
  omega⟩
instance {α : Type} [En α] [s : Sh α] : Sh (Option α) := ⟨s.n, fun o => match o with | none => rfl | some a => Sh.lay a, fun o => match o with | none => Nat.zero_le _ | some a => Sh.dep a⟩
theorem shp {α : Type} [En α] [s : Sh α] (h : s.n ≤ 64) (a : α) : SeqAt.shaped (en a) = true := by
  unfold SeqAt.shaped
  rw [Sh.lay a, Bool.true_and]
  exact decide_eq_true (Nat.le_trans (Sh.dep a) h)
instance : Eqv Int := ⟨fun a b => by
  show (a == b) = _
  by_cases h : a = b <;> simp [h], fun _ h => nomatch h⟩
instance : Eqv Bool := ⟨fun a b => by
  show (a == b) = _
  cases a <;> cases b <;> rfl, fun _ h => nomatch h⟩
instance : Eqv Tx := ⟨fun a b => by
  show ((tx (a.map Fin.val)) == (tx (b.map Fin.val))) = _
  by_cases h : a = b
  · rw [h]; simp
  · rw [decide_eq_false h, beq_eq_false_iff_ne]; exact fun e => h (S_inj.mp e), fun _ h => nomatch h⟩
theorem eqv_all {α : Type} [En α] [DecidableEq α] [Eqv α] : ∀ l m : List α, PyData.eqvAll (l.map en) (m.map en) = decide (l = m)
  | [], [] => rfl
  | [], _ :: _ => rfl
  | _ :: _, [] => rfl
  | a :: l, b :: m => by
    show (PyData.eqv (en a) (en b) && PyData.eqvAll (l.map en) (m.map en)) = _
    rw [Eqv.eqv, eqv_all l m]
    by_cases h : a = b
    · by_cases h2 : l = m <;> simp [h, h2]
    · simp [h]
instance {α : Type} [En α] [DecidableEq α] [Eqv α] : Eqv (List α) := ⟨fun l m => eqv_all l m, fun _ h => nomatch h⟩
instance {α : Type} [En α] [DecidableEq α] [Eqv α] : Eqv (Tu α) := ⟨fun l m => by
  obtain ⟨l⟩ := l
  obtain ⟨m⟩ := m
  show PyData.eqvAll (l.map en) (m.map en) = _
  rw [eqv_all l m]
  exact decide_eq_decide.mpr ⟨fun h => by rw [h], fun h => by injection h⟩, fun _ h => nomatch h⟩
instance {α β : Type} [En α] [En β] [DecidableEq α] [DecidableEq β] [Eqv α] [Eqv β] : Eqv (α × β) := ⟨fun p q => by
  show (PyData.eqv (en p.1) (en q.1) && (PyData.eqv (en p.2) (en q.2) && true)) = _
  rw [Eqv.eqv, Eqv.eqv, Bool.and_true]
  obtain ⟨a, b⟩ := p
  obtain ⟨c, d⟩ := q
  by_cases h : a = c <;> by_cases h2 : b = d <;> simp [h, h2], fun _ h => nomatch h⟩
instance {α β γ : Type} [En α] [En β] [En γ] [DecidableEq α] [DecidableEq β] [DecidableEq γ] [Eqv α] [Eqv β] [Eqv γ] : Eqv (T3 α β γ) := ⟨fun p q => by
  show (PyData.eqv (en p.a) (en q.a) && (PyData.eqv (en p.b) (en q.b) && (PyData.eqv (en p.c) (en q.c) && true))) = _
  rw [Eqv.eqv, Eqv.eqv, Eqv.eqv, Bool.and_true]
  obtain ⟨a, b, c⟩ := p
  obtain ⟨d, e, f⟩ := q
  by_cases h : a = d <;> by_cases h2 : b = e <;> by_cases h3 : c = f <;> simp [h, h2, h3], fun _ h => nomatch h⟩
theorem eqv_non {d : D} (h : d ≠ .none) : PyData.eqv .none d = false ∧ PyData.eqv d .none = false := by
  cases d with
  | none => exact absurd rfl h
  | _ => exact ⟨rfl, rfl⟩
/-- == with None among the data -/
class EqvO (α : Type) [En α] [DecidableEq α] : Prop where
  eqv : ∀ a b : α, PyData.eqv (en a) (en b) = decide (a = b)
instance {α : Type} [En α] [DecidableEq α] [Eqv α] : EqvO α := ⟨Eqv.eqv⟩
instance {α : Type} [En α] [DecidableEq α] [Eqv α] : EqvO (Option α) := ⟨fun p q => by
  cases p with
  | none =>
    cases q with
    | none => rfl
    | some b => exact (eqv_non (Eqv.nn b)).1.trans (by simp)
  | some a =>
    cases q with
    | none => exact (eqv_non (Eqv.nn a)).2.trans (by simp)
    | some b => exact (Eqv.eqv a b).trans (by simp)⟩
theorem eqvO_all {α : Type} [En α] [DecidableEq α] [EqvO α] : ∀ l m : List α, PyData.eqvAll (l.map en) (m.map en) = decide (l = m)
  | [], [] => rfl
  | [], _ :: _ => rfl
  | _ :: _, [] => rfl
  | a :: l, b :: m => by
    show (PyData.eqv (en a) (en b) && PyData.eqvAll (l.map en) (m.map en)) = _
    rw [EqvO.eqv, eqvO_all l m]
    by_cases h : a = b
    · by_cases h2 : l = m <;> simp [h, h2]
    · simp [h]
instance {α : Type} [En α] [DecidableEq α] [EqvO α] : EqvO (List α) := ⟨fun l m => eqvO_all l m⟩
instance {α β : Type} [En α] [En β] [DecidableEq α] [DecidableEq β] [EqvO α] [EqvO β] : EqvO (α × β) := ⟨fun p q => by
  show (PyData.eqv (en p.1) (en q.1) && (PyData.eqv (en p.2) (en q.2) && true)) = _
  rw [EqvO.eqv, EqvO.eqv, Bool.and_true]
  obtain ⟨a, b⟩ := p
  obtain ⟨c, d⟩ := q
  by_cases h : a = c <;> by_cases h2 : b = d <;> simp [h, h2]⟩
/-- data that are told apart by < -/
class Alk (α : Type) [En α] : Prop where
  alk : ∀ a b : α, PySem.W.alike (en a) (en b) = true
  nn : ∀ a : α, en a ≠ .none
instance : Alk Int := ⟨fun _ _ => rfl, fun _ h => nomatch h⟩
instance : Alk Tx := ⟨fun _ _ => rfl, fun _ h => nomatch h⟩
theorem alk_all {α : Type} [En α] [Alk α] : ∀ l m : List α, PySem.W.alikeAll (l.map en) (m.map en) = true
  | [], [] => rfl
  | [], _ :: _ => rfl
  | _ :: _, [] => rfl
  | a :: l, b :: m => by
    show (PySem.W.alike (en a) (en b) && PySem.W.alikeAll (l.map en) (m.map en)) = true
    rw [Alk.alk, alk_all l m]; rfl
instance {α : Type} [En α] [Alk α] : Alk (List α) := ⟨fun l m => alk_all l m, fun _ h => nomatch h⟩
instance {α : Type} [En α] [Alk α] : Alk (Tu α) := ⟨fun l m => alk_all l.l m.l, fun _ h => nomatch h⟩
instance {α β : Type} [En α] [En β] [Alk α] [Alk β] : Alk (α × β) := ⟨fun p q => by
  show (PySem.W.alike (en p.1) (en q.1) && (PySem.W.alike (en p.2) (en q.2) && true)) = true
  rw [Alk.alk, Alk.alk]; rfl, fun _ h => nomatch h⟩
instance {α β γ : Type} [En α] [En β] [En γ] [Alk α] [Alk β] [Alk γ] : Alk (T3 α β γ) := ⟨fun p q => by
  show (PySem.W.alike (en p.a) (en q.a) && (PySem.W.alike (en p.b) (en q.b) && (PySem.W.alike (en p.c) (en q.c) && true))) = true
  rw [Alk.alk, Alk.alk, Alk.alk]; rfl, fun _ h => nomatch h⟩
/-- keys: whole numbers and texts -/
class KyA (κ : Type) [En κ] [DecidableEq κ] : Prop where
  eqv : ∀ a b : κ, PyData.eqv (en a) (en b) = decide (a = b)
  kind : ∀ a : κ, (atomK (en a)).isSome = true
instance : KyA Int := ⟨Eqv.eqv, fun _ => rfl⟩
instance : KyA Tx := ⟨Eqv.eqv, fun _ => rfl⟩
/-- keys: tuples of such -/
class Nk (κ : Type) [En κ] where
  n : Nat
  nk : ∀ a : κ, ∃ k, nk (en a) = some k ∧ k.depth ≤ n
instance : Nk Int := ⟨0, fun i => ⟨_, rfl, Nat.le_refl _⟩⟩
instance : Nk Tx := ⟨0, fun i => ⟨_, rfl, Nat.le_refl _⟩⟩
theorem nk_allT {α : Type} [En α] [s : Nk α] : ∀ l : List α, ∃ ks, nkAll (l.map en) = some ks ∧ NestedKey.depthAll ks ≤ s.n
  | [] => ⟨[], rfl, Nat.zero_le _⟩
  | a :: l => by
    obtain ⟨k, h1, h2⟩ := Nk.nk a
    obtain ⟨ks, h3, h4⟩ := nk_allT l
    refine ⟨k :: ks, ?_, Nat.max_le.mpr ⟨h2, h4⟩⟩
    show (match nk (en a), nkAll (l.map en) with | some k, some ks => some (k :: ks) | _, _ => none) = _
    rw [h1, h3]
instance {α : Type} [En α] [s : Nk α] : Nk (Tu α) := ⟨s.n + 1, fun l => by
  obtain ⟨ks, h1, h2⟩ := nk_allT l.l
  refine ⟨.tup ks, ?_, Nat.succ_le_succ h2⟩
  show (nkAll (l.l.map en)).map _ = _
  rw [h1]; rfl⟩
instance {α β : Type} [En α] [En β] [s : Nk α] [t : Nk β] : Nk (α × β) := ⟨max s.n t.n + 1, fun p => by
  obtain ⟨k, h1, h2⟩ := Nk.nk p.1
  obtain ⟨j, h3, h4⟩ := Nk.nk p.2
  refine ⟨.tup [k, j], ?_, ?_⟩
  · show (nkAll [en p.1, en p.2]).map _ = _
    unfold nkAll
    unfold nkAll
    unfold nkAll
    rw [h1, h3]; rfl
  · show max k.depth (max j.depth 0) + 1 ≤ _
    omega⟩
instance {α β γ : Type} [En α] [En β] [En γ] [s : Nk α] [t : Nk β] [u : Nk γ] : Nk (T3 α β γ) := ⟨max s.n (max t.n u.n) + 1, fun p => by
  obtain ⟨k, h1, h2⟩ := Nk.nk p.a
  obtain ⟨j, h3, h4⟩ := Nk.nk p.b
  obtain ⟨i, h5, h6⟩ := Nk.nk p.c
  refine ⟨.tup [k, j, i], ?_, ?_⟩
  · show (nkAll [en p.a, en p.b, en p.c]).map _ = _
    unfold nkAll
    unfold nkAll
    unfold nkAll
    unfold nkAll
    rw [h1, h3, h5]; rfl
  · show max k.depth (max j.depth (max i.depth 0)) + 1 ≤ _
    omega⟩
structure Kyk (κ : Type) [En κ] [DecidableEq κ] : Prop where
  eqv : ∀ a b : κ, PyData.eqv (en a) (en b) = decide (a = b)
  kind : (∀ a : κ, (atomK (en a)).isSome = true) ∨ ∀ a : κ, (tk (en a)).isSome = true
theorem tk_some {d : D} {ds : List D} {ks : List NestedKey} (e : d = .tuple ds) (h : nkAll ds = some ks) (hd : NestedKey.depthAll ks ≤ 7) : (tk d).isSome = true := by
  subst e
  unfold tk
  simp only [h, if_pos hd]
  rfl
theorem tk_of_nk {κ : Type} [En κ] [s : Nk κ] (h : s.n ≤ 8) (a : κ) {ds : List D} (e : en a = .tuple ds) : (tk (en a)).isSome = true := by
  obtain ⟨k, h1, h2⟩ := Nk.nk a
  rw [e] at h1
  unfold nk at h1
  obtain ⟨ks, h3, rfl⟩ := Option.map_eq_some_iff.mp h1
  refine tk_some e h3 ?_
  have h2 : NestedKey.depthAll ks + 1 ≤ s.n := h2
  omega
theorem kyA {κ : Type} [En κ] [DecidableEq κ] [KyA κ] : Kyk κ := ⟨KyA.eqv, .inl KyA.kind⟩
theorem kyT {κ : Type} [En κ] [DecidableEq κ] [Eqv κ] [s : Nk κ] (h : s.n ≤ 8) (ht : ∀ a : κ, ∃ ds, en a = .tuple ds) : Kyk κ := ⟨Eqv.eqv, .inr fun a => let ⟨_, e⟩ := ht a; tk_of_nk h a e⟩
end Vt

set_option Elab.async false
set_option linter.all false
set_option maxRecDepth 100000
/-! The typed mirror: expressions. -/
namespace Vt
open PySem PySem.Spec PyProof.Rows L2 Vs
open En (en)
section
variable {α β γ δ κ : Type} [En α] [En β] [En γ] [En δ] [En κ]
/-- where the plain answer is v, the meaning's is v's datum -/
def Ev (r : R D) (p : R α) : Prop := ∀ v, p = .ok v → r = .ok (en v)
theorem so {r : R D} {a : α} (h : r = .ok (en a)) : r = .ok (en (some a)) := h
theorem noN {r : R D} (h : r = .ok .none) : r = .ok (en (none : Option α)) := h
theorem ev_ok {r : R D} {v : α} (h : r = .ok (en v)) : Ev r (.ok v) := fun u e => by cases e; exact h
theorem ev_bind {r : R D} {m : R γ} {p : γ → R α} (h : ∀ x, m = .ok x → Ev r (p x)) : Ev r (m >>= p) := fun v e => by
  obtain ⟨x, h1, h2⟩ := bind_ok e
  exact h x h1 v h2
theorem at_ok {r : R D} {t x : α} (e : (.ok t : R α) = .ok x) (h : r = .ok (en t)) : r = .ok (en x) := by cases e; exact h
theorem atv {r : R D} {p : R α} {v : α} (h : p = .ok v) (e : Ev r p) : r = .ok (en v) := e v h
/-- tests -/
def Et (r p : R Bool) : Prop := ∀ v, p = .ok v → r = .ok v
theorem et_ok {r : R Bool} {v : Bool} (h : r = .ok v) : Et r (.ok v) := fun u e => by cases e; exact h
theorem et_bind {r : R Bool} {m : R γ} {p : γ → R Bool} (h : ∀ x, m = .ok x → Et r (p x)) : Et r (m >>= p) := fun v e => by
  obtain ⟨x, h1, h2⟩ := bind_ok e
  exact h x h1 v h2
theorem att {r p : R Bool} {v : Bool} (h : p = .ok v) (e : Et r p) : r = .ok v := e v h
variable {A B C : R D} {T U : R Bool}
theorem t_val {b : Bool} (h : A = .ok (en b)) : (A >>= asB) = .ok b := by subst h; rfl
theorem t_and {a b : Bool} (h : T = .ok a) (h2 : U = .ok b) : (T >>= fun c => if c then U else .ok false) = .ok (a && b) := by subst h h2; cases a <;> rfl
theorem t_or {a b : Bool} (h : T = .ok a) (h2 : U = .ok b) : (T >>= fun c => if c then .ok true else U) = .ok (a || b) := by subst h h2; cases a <;> rfl
theorem t_not {a : Bool} (h : T = .ok a) : (T >>= fun c => .ok (!c)) = .ok (!a) := by subst h; rfl
theorem et_and {a : Bool} {p : R Bool} (h : T = .ok a) (h2 : Et U p) : Et (T >>= fun c => if c then U else .ok false) (if a then p else .ok false) := by
  subst h
  cases a
  · exact et_ok rfl
  · exact h2
theorem et_or {a : Bool} {p : R Bool} (h : T = .ok a) (h2 : Et U p) : Et (T >>= fun c => if c then .ok true else U) (if a then .ok true else p) := by
  subst h
  cases a
  · exact h2
  · exact et_ok rfl
/-! values that are tests -/
theorem e_and {a b : Bool} (h : T = .ok a) (h2 : B = .ok (en b)) : (T >>= fun c => if c then B else .ok (.bool false)) = .ok (en (a && b)) := by subst h h2; cases a <;> rfl
theorem e_or {a b : Bool} (h : T = .ok a) (h2 : B = .ok (en b)) : (T >>= fun c => if c then .ok (.bool true) else B) = .ok (en (a || b)) := by subst h h2; cases a <;> rfl
theorem e_not {a : Bool} (h : T = .ok a) : (T >>= fun c => .ok (.bool (!c))) = .ok (en (!a)) := by subst h; rfl
theorem ev_and {a : Bool} {p : R Bool} (h : T = .ok a) (h2 : Ev B p) : Ev (T >>= fun c => if c then B else .ok (.bool false)) (if a then p else .ok false) := by
  subst h
  cases a
  · exact ev_ok rfl
  · exact h2
theorem ev_or {a : Bool} {p : R Bool} (h : T = .ok a) (h2 : Ev B p) : Ev (T >>= fun c => if c then .ok (.bool true) else B) (if a then .ok true else p) := by
  subst h
  cases a
  · exact h2
  · exact ev_ok rfl
theorem e_if {c : Bool} {a b : α} (h : T = .ok c) (h1 : A = .ok (en a)) (h2 : B = .ok (en b)) : (T >>= fun k => if k then A else B) = .ok (en (if c then a else b)) := by subst h h1 h2; cases c <;> rfl
theorem ev_if {c : Bool} {p q : R α} (h : T = .ok c) (h1 : Ev A p) (h2 : Ev B q) : Ev (T >>= fun k => if k then A else B) (if c then p else q) := by
  subst h
  cases c
  · exact h2
  · exact h1
/-! ### whole numbers -/
theorem e_add {a b : Int} (h : A = .ok (en a)) (h2 : B = .ok (en b)) : (A >>= fun x => B >>= fun y => addD x y) = .ok (en (a + b)) := by subst h h2; rfl
theorem e_sub {a b : Int} (h : A = .ok (en a)) (h2 : B = .ok (en b)) : (A >>= fun x => B >>= fun y => subI x y) = .ok (en (a - b)) := by subst h h2; rfl
theorem e_mulr {a b : Int} (h : A = .ok (en a)) (h2 : B = .ok (en b)) (hb : b.natAbs < 18446744073709551616) : (A >>= fun x => B >>= fun y => mulD x y) = .ok (en (a * b)) := by subst h h2; exact mul_r hb
theorem e_mull {a b : Int} (h : A = .ok (en a)) (h2 : B = .ok (en b)) (hb : a.natAbs < 18446744073709551616) : (A >>= fun x => B >>= fun y => mulD x y) = .ok (en (a * b)) := by subst h h2; exact mul_l hb
def mulG (a b : Int) : R Int := if a.natAbs < 18446744073709551616 ∨ b.natAbs < 18446744073709551616 then .ok (a * b) else stk
theorem v_mul {a b : Int} (h : A = .ok (en a)) (h2 : B = .ok (en b)) : Ev (A >>= fun x => B >>= fun y => mulD x y) (mulG a b) := fun v e => by
  unfold mulG at e
  split at e
  · rename_i hh
    cases e
    rcases hh with hh | hh
    · exact e_mull h h2 hh
    · exact e_mulr h h2 hh
  · cases e
theorem e_mod {a b : Int} (h : A = .ok (en a)) (h2 : B = .ok (en b)) (hb : 0 < b) : (A >>= fun x => B >>= fun y => modI x y) = .ok (en (a % b)) := by subst h h2; exact mod_i hb
theorem e_fdiv {a b : Int} (h : A = .ok (en a)) (h2 : B = .ok (en b)) (hb : 0 < b ∧ b < 1073741824) : (A >>= fun x => B >>= fun y => fdivI x y) = .ok (en (a / b)) := by subst h h2; exact fdiv_i hb
def modG (a b : Int) : R Int := if 0 < b then .ok (a % b) else stk
def fdivG (a b : Int) : R Int := if 0 < b ∧ b < 1073741824 then .ok (a / b) else stk
theorem v_mod {a b : Int} (h : A = .ok (en a)) (h2 : B = .ok (en b)) : Ev (A >>= fun x => B >>= fun y => modI x y) (modG a b) := fun v e => by
  unfold modG at e
  split at e
  · cases e; exact e_mod h h2 ‹_›
  · cases e
theorem v_fdiv {a b : Int} (h : A = .ok (en a)) (h2 : B = .ok (en b)) : Ev (A >>= fun x => B >>= fun y => fdivI x y) (fdivG a b) := fun v e => by
  unfold fdivG at e
  split at e
  · cases e; exact e_fdiv h h2 ‹_›
  · cases e
theorem e_neg {a : Int} (h : A = .ok (en a)) : (A >>= fun x => negD x) = .ok (en (-a)) := by subst h; rfl
theorem e_lt {a b : Int} (h : A = .ok (en a)) (h2 : B = .ok (en b)) : (A >>= fun x => B >>= fun y => ltD x y) = .ok (en (decide (a < b))) := by subst h h2; rfl
theorem e_le {a b : Int} (h : A = .ok (en a)) (h2 : B = .ok (en b)) : (A >>= fun x => B >>= fun y => leD x y) = .ok (en (decide (a ≤ b))) := by subst h h2; rfl
theorem e_gt {a b : Int} (h : A = .ok (en a)) (h2 : B = .ok (en b)) : (A >>= fun x => B >>= fun y => gtD x y) = .ok (en (decide (b < a))) := by subst h h2; rfl
theorem e_ge {a b : Int} (h : A = .ok (en a)) (h2 : B = .ok (en b)) : (A >>= fun x => B >>= fun y => geD x y) = .ok (en (decide (b ≤ a))) := by subst h h2; rfl
theorem e_ch {p q : Int → Int → Bool} {fa fb fc : Env' → R D} {ρ : Env'} {a b c : Int} (h : fa ρ = .ok (en a)) (h2 : fb ρ = .ok (en b)) (h3 : fc ρ = .ok (en c)) : chD p q fa fb fc ρ = .ok (en (p a b && q b c)) := by
  show (fa ρ >>= fun x => fb ρ >>= fun y => asI x >>= fun i => asI y >>= fun j => if p i j then fc ρ >>= fun z => asI z >>= fun k => .ok (.bool (q j k)) else .ok (.bool false) : R D) = _
  rw [h, h2, h3]
  show (if p a b = true then (.ok (.bool (q b c)) : R D) else .ok (.bool false)) = .ok (.bool (p a b && q b c))
  cases p a b <;> rfl
theorem ev_ch {p q : Int → Int → Bool} {fa fb fc : Env' → R D} {ρ : Env'} {a b : Int} {r : R Bool} (h : fa ρ = .ok (en a)) (h2 : fb ρ = .ok (en b)) {m : R Int} (hr : r = if p a b then m >>= fun c => .ok (q b c) else .ok false) (h3 : Ev (fc ρ) m) : Ev (chD p q fa fb fc ρ) r := fun v e => by
  subst hr
  show (fa ρ >>= fun x => fb ρ >>= fun y => asI x >>= fun i => asI y >>= fun j => if p i j then fc ρ >>= fun z => asI z >>= fun k => .ok (.bool (q j k)) else .ok (.bool false) : R D) = _
  rw [h, h2]
  show (if p a b = true then (fc ρ >>= fun z => asI z >>= fun k => .ok (.bool (q b k))) else .ok (.bool false) : R D) = _
  cases hp : p a b
  · rw [hp] at e
    cases e
    rfl
  · rw [hp] at e
    obtain ⟨c, h4, h5⟩ := bind_ok (show (m >>= fun c => .ok (q b c)) = .ok v from e)
    cases h5
    rw [if_pos rfl, h3 c h4]
    rfl
/-! ### =, is, in -/
theorem e_eqS {a b : Tx} (h : A = .ok (en a)) (h2 : B = .ok (en b)) : (A >>= fun x => B >>= fun y => eqD x y) = .ok (en (decide (a = b))) := by
  subst h h2
  show (.ok (.bool (decide (tx (a.map Fin.val) = tx (b.map Fin.val)))) : R D) = .ok (.bool _)
  rw [decide_eq_decide.mpr S_inj]
theorem e_neS {a b : Tx} (h : A = .ok (en a)) (h2 : B = .ok (en b)) : (A >>= fun x => B >>= fun y => neD x y) = .ok (en (!decide (a = b))) := by
  subst h h2
  show (.ok (.bool (!decide (tx (a.map Fin.val) = tx (b.map Fin.val)))) : R D) = .ok (.bool _)
  rw [decide_eq_decide.mpr S_inj]
theorem eqD_of {a b : D} (h : SeqAt.shaped a = true) (h2 : SeqAt.shaped b = true) (hs : ∀ x, a ≠ .str x) : eqD a b = .ok (.bool (PyData.eqv a b)) := by
  unfold eqD
  split
  · exact absurd rfl (hs _)
  · rw [if_pos ⟨h, h2⟩]
theorem neD_of {a b : D} (h : SeqAt.shaped a = true) (h2 : SeqAt.shaped b = true) (hs : ∀ x, a ≠ .str x) : neD a b = .ok (.bool (!PyData.eqv a b)) := by
  unfold neD
  split
  · exact absurd rfl (hs _)
  · rw [if_pos ⟨h, h2⟩]
theorem eqv_ss (x y : Str) : PyData.eqv (.str x) (.str y) = decide (x = y) := by
  show (x == y) = _
  by_cases h : x = y <;> simp [h]
theorem eqD_any {a b : D} (h : SeqAt.shaped a = true) (h2 : SeqAt.shaped b = true) : eqD a b = .ok (.bool (PyData.eqv a b)) := by
  unfold eqD
  split
  · rw [eqv_ss]
  · rw [if_pos ⟨h, h2⟩]
theorem neD_any {a b : D} (h : SeqAt.shaped a = true) (h2 : SeqAt.shaped b = true) : neD a b = .ok (.bool (!PyData.eqv a b)) := by
  unfold neD
  split
  · rw [eqv_ss]
  · rw [if_pos ⟨h, h2⟩]
theorem e_eq [DecidableEq α] [EqvO α] [s : Sh α] {a b : α} (h : A = .ok (en a)) (h2 : B = .ok (en b)) (hs : s.n ≤ 64 := by decide) : (A >>= fun x => B >>= fun y => eqD x y) = .ok (en (decide (a = b))) := by
  subst h h2
  show eqD (en a) (en b) = _
  rw [eqD_any (shp hs a) (shp hs b), EqvO.eqv]; rfl
theorem e_ne [DecidableEq α] [EqvO α] [s : Sh α] {a b : α} (h : A = .ok (en a)) (h2 : B = .ok (en b)) (hs : s.n ≤ 64 := by decide) : (A >>= fun x => B >>= fun y => neD x y) = .ok (en (!decide (a = b))) := by
  subst h h2
  show neD (en a) (en b) = _
  rw [neD_any (shp hs a) (shp hs b), EqvO.eqv]; rfl
class Nn (α : Type) [En α] : Prop where
  nn : ∀ a : α, en a ≠ .none
instance : Nn Int := ⟨fun _ h => nomatch h⟩
instance : Nn Bool := ⟨fun _ h => nomatch h⟩
instance : Nn Tx := ⟨fun _ h => nomatch h⟩
instance : Nn (List α) := ⟨fun _ h => nomatch h⟩
instance : Nn (Tu α) := ⟨fun _ h => nomatch h⟩
instance : Nn (α × β) := ⟨fun _ h => nomatch h⟩
instance : Nn (T3 α β γ) := ⟨fun _ h => nomatch h⟩
instance : Nn (Dc κ α) := ⟨fun _ h => nomatch h⟩
theorem isN_of {d : D} (h : d ≠ .none) : isN d .none = .ok (.bool false) ∧ notN d .none = .ok (.bool true) := by
  cases d with
  | none => exact absurd rfl h
  | _ => exact ⟨rfl, rfl⟩
theorem e_is [Nn α] {a : Option α} (h : A = .ok (en a)) : (A >>= fun x => .ok .none >>= fun y => isN x y) = .ok (en a.isNone) := by
  subst h
  cases a with
  | none => rfl
  | some a => exact (isN_of (Nn.nn a)).1
theorem e_isn [Nn α] {a : Option α} (h : A = .ok (en a)) : (A >>= fun x => .ok .none >>= fun y => notN x y) = .ok (en a.isSome) := by
  subst h
  cases a with
  | none => rfl
  | some a => exact (isN_of (Nn.nn a)).2
theorem e_isT {a b : Bool} (h : A = .ok (en a)) : (A >>= fun x => .ok (.bool b) >>= fun y => isBD x y) = .ok (en (decide (a = b))) := by subst h; rfl
theorem e_isnT {a b : Bool} (h : A = .ok (en a)) : (A >>= fun x => .ok (.bool b) >>= fun y => notBD x y) = .ok (en (!decide (a = b))) := by subst h; rfl
/-- a text in a text -/
def inS (x y : Tx) : Bool := strIn (tx (x.map Fin.val)) (tx (y.map Fin.val))
theorem inS_one (c : Ch) (y : Tx) : inS [c] y = decide (c ∈ y) := by
  show decide (c.val ∈ y.map Fin.val) = _
  refine decide_eq_decide.mpr ⟨fun h => ?_, fun h => List.mem_map.mpr ⟨c, h, rfl⟩⟩
  obtain ⟨d, h1, h2⟩ := List.mem_map.mp h
  rw [← Fin.ext h2]; exact h1
theorem e_inS {a b : Tx} (h : A = .ok (en a)) (h2 : B = .ok (en b)) : (A >>= fun x => B >>= fun y => inD x y) = .ok (en (inS a b)) := by subst h h2; rfl
theorem e_ninS {a b : Tx} (h : A = .ok (en a)) (h2 : B = .ok (en b)) : (A >>= fun x => B >>= fun y => ninD x y) = .ok (en (!inS a b)) := by subst h h2; rfl
/-- a in l -/
def hasT {α : Type} [DecidableEq α] (l : List α) (a : α) : Bool := l.any fun z => decide (z = a)
theorem hasT_iff {α : Type} [DecidableEq α] {l : List α} {a : α} : hasT l a = true ↔ a ∈ l := by
  unfold hasT
  rw [List.any_eq_true]
  exact ⟨fun ⟨x, h1, h2⟩ => of_decide_eq_true h2 ▸ h1, fun h => ⟨a, h, decide_eq_true rfl⟩⟩
theorem hasT_not {α : Type} [DecidableEq α] {l : List α} {a : α} : hasT l a = false ↔ a ∉ l := by
  rw [← hasT_iff]; cases hasT l a <;> simp
theorem any_en [DecidableEq α] [EqvO α] (a : α) : ∀ l : List α, (l.map en).any (fun z => PyData.eqv z (en a)) = hasT l a
  | [] => rfl
  | b :: l => by
    rw [List.map_cons, List.any_cons, any_en a l, EqvO.eqv]; rfl
theorem inB_l [DecidableEq α] [EqvO α] [s : Sh α] (hs : s.n + 1 ≤ 64) (a : α) (l : List α) : inB (en a) (.list (l.map en)) = .ok (hasT l a) := by
  show (if SeqAt.shaped (en a) = true ∧ SeqAt.shaped (.list (l.map en)) = true then _ else stk) = _
  rw [if_pos ⟨shp (by omega) a, shp (α := List α) hs l⟩, any_en]
theorem inB_t [DecidableEq α] [EqvO α] [s : Sh α] (hs : s.n + 1 ≤ 64) (a : α) (l : List α) : inB (en a) (.tuple (l.map en)) = .ok (hasT l a) := by
  show (if SeqAt.shaped (en a) = true ∧ SeqAt.shaped (.tuple (l.map en)) = true then _ else stk) = _
  rw [if_pos ⟨shp (by omega) a, shp (α := Tu α) hs ⟨l⟩⟩, any_en]
theorem e_inL [DecidableEq α] [EqvO α] [s : Sh α] {a : α} {l : List α} (h : A = .ok (en a)) (h2 : B = .ok (.list (l.map en))) (hs : s.n + 1 ≤ 64 := by decide) : (A >>= fun x => B >>= fun y => inD x y) = .ok (en (hasT l a)) := by
  subst h h2
  show (inB (en a) (.list (l.map en)) >>= fun b => .ok (.bool b) : R D) = _
  rw [inB_l hs]; rfl
theorem e_ninL [DecidableEq α] [EqvO α] [s : Sh α] {a : α} {l : List α} (h : A = .ok (en a)) (h2 : B = .ok (.list (l.map en))) (hs : s.n + 1 ≤ 64 := by decide) : (A >>= fun x => B >>= fun y => ninD x y) = .ok (en (!hasT l a)) := by
  subst h h2
  show (inB (en a) (.list (l.map en)) >>= fun b => .ok (.bool (!b)) : R D) = _
  rw [inB_l hs]; rfl
theorem e_inT [DecidableEq α] [EqvO α] [s : Sh α] {a : α} {l : List α} (h : A = .ok (en a)) (h2 : B = .ok (.tuple (l.map en))) (hs : s.n + 1 ≤ 64 := by decide) : (A >>= fun x => B >>= fun y => inD x y) = .ok (en (hasT l a)) := by
  subst h h2
  show (inB (en a) (.tuple (l.map en)) >>= fun b => .ok (.bool b) : R D) = _
  rw [inB_t hs]; rfl
theorem e_ninT [DecidableEq α] [EqvO α] [s : Sh α] {a : α} {l : List α} (h : A = .ok (en a)) (h2 : B = .ok (.tuple (l.map en))) (hs : s.n + 1 ≤ 64 := by decide) : (A >>= fun x => B >>= fun y => ninD x y) = .ok (en (!hasT l a)) := by
  subst h h2
  show (inB (en a) (.tuple (l.map en)) >>= fun b => .ok (.bool (!b)) : R D) = _
  rw [inB_t hs]; rfl
/-! ### dicts -/
def dcF [DecidableEq κ] (d : Dc κ α) (k : κ) : Option α := (d.l.find? fun p => decide (p.1 = k)).map (·.2)
theorem dfind_en [DecidableEq κ] (hk : Kyk κ) (k : κ) : ∀ l : List (κ × α), dfind (l.map eKv) (en k) = ((l.find? fun p => decide (p.1 = k)).map (·.2)).map en
  | [] => rfl
  | p :: l => by
    have ih := dfind_en hk k l
    unfold dfind at ih ⊢
    rw [List.map_cons, List.find?_cons, List.find?_cons]
    have e : PyData.eqv (eKv p).1 (en k) = decide (p.1 = k) := hk.eqv p.1 k
    rw [e]
    cases decide (p.1 = k)
    · exact ih
    · rfl
theorem allAt_en [DecidableEq κ] (h : ∀ a : κ, (atomK (en a)).isSome = true) (l : List (κ × α)) : allAt (l.map eKv) = true := by
  unfold allAt
  rw [List.all_eq_true]
  intro x hx
  obtain ⟨p, _, rfl⟩ := List.mem_map.mp hx
  exact h p.1
theorem allTk_en [DecidableEq κ] (h : ∀ a : κ, (tk (en a)).isSome = true) (l : List (κ × α)) : allTk (l.map eKv) = true := by
  unfold allTk
  rw [List.all_eq_true]
  intro x hx
  obtain ⟨p, _, rfl⟩ := List.mem_map.mp hx
  exact h p.1
theorem putOk_en [DecidableEq κ] (hk : Kyk κ) (l : List (κ × α)) (k : κ) : putOk (l.map eKv) (en k) = true := by
  unfold putOk
  rcases hk.kind with h | h
  · rw [allAt_en h, h k]; rfl
  · rw [allTk_en h, h k]; simp
theorem dkOk_en [DecidableEq κ] (hk : Kyk κ) (l : List (κ × α)) : dkOk (l.map eKv) = true := by
  unfold dkOk
  rcases hk.kind with h | h
  · rw [allAt_en h]; rfl
  · rw [allTk_en h]; simp
theorem dgD_en [DecidableEq κ] (hk : Kyk κ) (d : Dc κ α) (k : κ) : dgD (d.l.map eKv) (en k) = .ok ((dcF d k).map en) := by
  unfold dgD
  rw [if_pos (putOk_en hk _ _), dfind_en hk]; rfl
theorem tk_tup {d : D} (h : (tk d).isSome = true) : ∃ ds, d = .tuple ds := by
  cases d with
  | tuple ds => exact ⟨ds, rfl⟩
  | _ => cases h
theorem inE_en [DecidableEq κ] (hk : Kyk κ) (d : Dc κ α) (k : κ) : inE (en k) (en d) = .ok (.bool (dcF d k).isSome) ∧ ninE (en k) (en d) = .ok (.bool (!(dcF d k).isSome)) := by
  have hf := dfind_en hk k d.l
  have hs : (dfind (d.l.map eKv) (en k)).isSome = (dcF d k).isSome := by rw [hf, Option.isSome_map]; rfl
  rcases hk.kind with h | h
  · have ha := allAt_en h d.l
    have hk1 := h k
    have hb : inB (en k) (.dict (d.l.map eKv)) = .ok (dcF d k).isSome := by
      show (if allAt (d.l.map eKv) = true ∧ (atomK (en k)).isSome = true then .ok (dfind (d.l.map eKv) (en k)).isSome else stk : R Bool) = _
      rw [if_pos ⟨ha, hk1⟩, hs]
    have hn : ∀ ds, en k ≠ .tuple ds := fun ds e => by rw [e] at hk1; cases hk1
    constructor
    · show inE (en k) (.dict (d.l.map eKv)) = _
      unfold inE
      split
      · exact absurd ‹en k = _› (hn _)
      · show (inB (en k) (.dict (d.l.map eKv)) >>= fun b => .ok (.bool b) : R D) = _
        rw [hb]; rfl
    · show ninE (en k) (.dict (d.l.map eKv)) = _
      unfold ninE
      split
      · exact absurd ‹en k = _› (hn _)
      · show (inB (en k) (.dict (d.l.map eKv)) >>= fun b => .ok (.bool (!b)) : R D) = _
        rw [hb]; rfl
  · have ha := allTk_en h d.l
    have hk1 := h k
    obtain ⟨ds, e⟩ := tk_tup hk1
    rw [e] at hk1 hs
    constructor
    · show inE (en k) (.dict (d.l.map eKv)) = _
      rw [e]
      show (if allTk (d.l.map eKv) = true ∧ (tk (.tuple ds)).isSome = true then .ok (.bool (dfind (d.l.map eKv) (.tuple ds)).isSome) else stk : R D) = _
      rw [if_pos ⟨ha, hk1⟩, hs]
    · show ninE (en k) (.dict (d.l.map eKv)) = _
      rw [e]
      show (if allTk (d.l.map eKv) = true ∧ (tk (.tuple ds)).isSome = true then .ok (.bool (!(dfind (d.l.map eKv) (.tuple ds)).isSome)) else stk : R D) = _
      rw [if_pos ⟨ha, hk1⟩, hs]
theorem e_inD [DecidableEq κ] {a : κ} {d : Dc κ α} (hk : Kyk κ) (h : A = .ok (en a)) (h2 : B = .ok (en d)) : (A >>= fun x => B >>= fun y => inE x y) = .ok (en (dcF d a).isSome) := by
  subst h h2; exact (inE_en hk d a).1
theorem e_ninD [DecidableEq κ] {a : κ} {d : Dc κ α} (hk : Kyk κ) (h : A = .ok (en a)) (h2 : B = .ok (en d)) : (A >>= fun x => B >>= fun y => ninE x y) = .ok (en (!(dcF d a).isSome)) := by
  subst h h2; exact (inE_en hk d a).2
def dcG [DecidableEq κ] (d : Dc κ α) (k : κ) : R α := opt (dcF d k)
theorem opt_map (o : Option α) : Ev (opt (o.map en)) (opt o) := fun v e => by
  cases o with
  | none => cases e
  | some a => cases e; rfl
theorem ixE_en [DecidableEq κ] (hk : Kyk κ) (d : Dc κ α) (k : κ) : Ev (ixE (en d) (en k)) (dcG d k) := fun v e => by
  have hf := dfind_en hk k d.l
  have e2 := opt_map _ v (show opt (dcF d k) = .ok v from e)
  show ixE (.dict (d.l.map eKv)) (en k) = _
  have hm : ∀ ds, d.l.map eKv ≠ [(.none, .list ds), (.none, .none)] := fun ds z => by
    have := dkOk_en hk d.l
    rw [z] at this
    exact dkOk_scr this
  rcases hk.kind with h | h
  · have ha := allAt_en h d.l
    have hk1 := h k
    have hn : ∀ ds, en k ≠ .tuple ds := fun ds e => by rw [e] at hk1; cases hk1
    unfold ixE
    split
    · exact absurd ‹en k = _› (hn _)
    · show ixD (.dict (d.l.map eKv)) (en k) = _
      unfold ixD
      split
      · rename_i q; injection q with q; exact absurd q (hm _)
      · rename_i q; cases q
      · rename_i q; cases q
      · rename_i q; cases q
      · rename_i kvs _ q
        injection q with q
        subst q
        rw [if_pos ⟨ha, hk1⟩, hf]
        exact e2
      · rename_i q1 q2 q3 q4 q5
        exact absurd rfl (q5 _)
  · have ha := allTk_en h d.l
    have hk1 := h k
    obtain ⟨ds, e3⟩ := tk_tup hk1
    rw [e3] at hk1 hf
    rw [e3]
    show (if allTk (d.l.map eKv) = true ∧ (tk (.tuple ds)).isSome = true then opt (dfind (d.l.map eKv) (.tuple ds)) else stk : R D) = _
    rw [if_pos ⟨ha, hk1⟩, hf]
    exact e2
theorem v_ixd [DecidableEq κ] {d : Dc κ α} {k : κ} (hk : Kyk κ) (h : A = .ok (en d)) (h2 : B = .ok (en k)) : Ev (A >>= fun x => B >>= fun y => ixE x y) (dcG d k) := by
  subst h h2; exact ixE_en hk d k
theorem gk_en {d : Dc κ α} {ρ : Env'} {i : Nat} (h : gv ρ i = .ok (en d)) : gk ρ i = .ok (d.l.map eKv) := by
  unfold gk; rw [h]; rfl
theorem v_ixo [DecidableEq κ] {d : Dc κ α} {k : κ} {ρ : Env'} {i : Nat} (hk : Kyk κ) (h : gv ρ i = .ok (en d)) (h2 : B = .ok (en k)) : Ev (gk ρ i >>= fun kvs => B >>= fun y => dgD kvs y >>= opt) (dcG d k) := by
  subst h2
  rw [gk_en h]
  show Ev (dgD (d.l.map eKv) (en k) >>= opt) _
  rw [dgD_en hk]
  exact opt_map _
theorem asDk_en [DecidableEq κ] (hk : Kyk κ) (d : Dc κ α) : asDk (en d) = .ok (d.l.map eKv) := if_pos (dkOk_en hk d.l)
theorem e_get [DecidableEq κ] {d : Dc κ α} {k : κ} (hk : Kyk κ) (h : A = .ok (en d)) (h2 : B = .ok (en k)) : (A >>= asDk >>= fun kvs => B >>= fun k => dgD kvs k >>= fun r => .ok (r.getD .none)) = .ok (en (dcF d k)) := by
  subst h h2
  show (asDk (en d) >>= fun kvs => dgD kvs (en k) >>= fun r => .ok (r.getD .none) : R D) = _
  rw [asDk_en hk]
  show (dgD (d.l.map eKv) (en k) >>= fun r => .ok (r.getD .none) : R D) = _
  rw [dgD_en hk]
  cases dcF d k <;> rfl
theorem e_getO [DecidableEq κ] {d : Dc κ (Option α)} {k : κ} (hk : Kyk κ) (h : A = .ok (en d)) (h2 : B = .ok (en k)) : (A >>= asDk >>= fun kvs => B >>= fun k => dgD kvs k >>= fun r => .ok (r.getD .none)) = .ok (en ((dcF d k).getD none)) := by
  subst h h2
  show (asDk (en d) >>= fun kvs => dgD kvs (en k) >>= fun r => .ok (r.getD .none) : R D) = _
  rw [asDk_en hk]
  show (dgD (d.l.map eKv) (en k) >>= fun r => .ok (r.getD .none) : R D) = _
  rw [dgD_en hk]
  cases dcF d k <;> rfl
theorem e_get2 [DecidableEq κ] {d : Dc κ α} {k : κ} {z : α} (hk : Kyk κ) (h : A = .ok (en d)) (h2 : B = .ok (en k)) (h3 : C = .ok (en z)) : (A >>= asDk >>= fun kvs => B >>= fun k => C >>= fun z => dgD kvs k >>= fun r => .ok (r.getD z)) = .ok (en ((dcF d k).getD z)) := by
  subst h h2 h3
  show (asDk (en d) >>= fun kvs => dgD kvs (en k) >>= fun r => .ok (r.getD (en z)) : R D) = _
  rw [asDk_en hk]
  show (dgD (d.l.map eKv) (en k) >>= fun r => .ok (r.getD (en z)) : R D) = _
  rw [dgD_en hk]
  cases dcF d k <;> rfl
def lenDc (d : Dc κ α) : R Int := if d.l.length ≤ 16777216 then .ok d.l.length else stk
end
end Vt

set_option Elab.async false
set_option linter.all false
set_option maxRecDepth 100000
/-! The typed mirror: displays, calls, subscripts, built-ins, comprehensions. -/
namespace Vt
open PySem PySem.Spec PyProof.Rows L2 Vs
open En (en)
section
variable {α β γ δ κ : Type} [En α] [En β] [En γ] [En δ] [En κ] {A B C : R D} {L M : R (List D)} {ds es : List D}
/-! ### argument lists, displays -/
theorem a_no : (.ok [] : R (List D)) = .ok [] := rfl
theorem a_co {d : D} (h : A = .ok d) (h2 : L = .ok ds) : (A >>= fun x => L >>= fun xs => .ok (x :: xs)) = .ok (d :: ds) := by subst h h2; rfl
theorem a_st {xs : List α} (h : A = .ok (.list (xs.map en))) (h2 : L = .ok ds) : (A >>= fun x => seqOf x >>= fun zs => L >>= fun ys => .ok (zs ++ ys)) = .ok (xs.map en ++ ds) := by subst h h2; rfl
theorem a_stT {xs : List α} (h : A = .ok (.tuple (xs.map en))) (h2 : L = .ok ds) : (A >>= fun x => seqOf x >>= fun zs => L >>= fun ys => .ok (zs ++ ys)) = .ok (xs.map en ++ ds) := by subst h h2; rfl
theorem e_t2 {a : α} {b : β} (h : L = .ok [en a, en b]) : (L >>= fun xs => lenOk xs.length >>= fun _ => .ok (.tuple xs)) = .ok (en (a, b)) := by subst h; rfl
theorem e_t3 {a : α} {b : β} {c : γ} (h : L = .ok [en a, en b, en c]) : (L >>= fun xs => lenOk xs.length >>= fun _ => .ok (.tuple xs)) = .ok (en (T3.mk a b c)) := by subst h; rfl
theorem e_t4 {a : α} {b : β} {c : γ} {d : δ} (h : L = .ok [en a, en b, en c, en d]) : (L >>= fun xs => lenOk xs.length >>= fun _ => .ok (.tuple xs)) = .ok (en (T4.mk a b c d)) := by subst h; rfl
theorem e_tu {xs : List α} (h : L = .ok (xs.map en)) (hl : xs.length ≤ 16777216 := by first | decide | (simp only [List.length_cons, List.length_nil]; decide)) : (L >>= fun xs => lenOk xs.length >>= fun _ => .ok (.tuple xs)) = .ok (en (Tu.mk xs)) := by
  subst h
  show (lenOk (xs.map en).length >>= fun _ => .ok (.tuple (xs.map en)) : R D) = _
  rw [List.length_map, lenOk_i hl]; rfl
theorem e_li {xs : List α} (h : L = .ok (xs.map en)) (hl : xs.length ≤ 16777216 := by first | decide | (simp only [List.length_cons, List.length_nil]; decide)) : (L >>= fun xs => lenOk xs.length >>= fun _ => .ok (.list xs) : R D) = .ok (.list (xs.map en)) := by
  subst h
  show (lenOk (xs.map en).length >>= fun _ => .ok (.list (xs.map en)) : R D) = _
  rw [List.length_map, lenOk_i hl]; rfl
/-- a list as it is, if it is not too long -/
def lstG (xs : List α) : R (List α) := if xs.length ≤ 16777216 then .ok xs else stk
def tupG (xs : List α) : R (Tu α) := if xs.length ≤ 16777216 then .ok ⟨xs⟩ else stk
/-- .. as an answer -/
def EvL (r : R D) (p : R (List α)) : Prop := ∀ v, p = .ok v → r = .ok (.list (v.map en))
theorem atl {r : R D} {p : R (List α)} {v : List α} (h : p = .ok v) (e : EvL r p) : r = .ok (.list (v.map en)) := e v h
theorem v_li {xs : List α} {ys : List D} (h : L = .ok ys) (hy : ys = xs.map en) : EvL (L >>= fun xs => lenOk xs.length >>= fun _ => .ok (.list xs)) (lstG xs) := fun v e => by
  subst hy
  unfold lstG at e
  split at e
  · cases e; exact e_li h ‹_›
  · cases e
theorem v_tu {xs : List α} {ys : List D} (h : L = .ok ys) (hy : ys = xs.map en) : Ev (L >>= fun xs => lenOk xs.length >>= fun _ => .ok (.tuple xs)) (tupG xs) := fun v e => by
  subst hy
  unfold tupG at e
  split at e
  · cases e; exact e_tu h ‹_›
  · cases e
/-! lists that are told by their data; a text is not one of them -/
theorem ofL {xs : List α} (h : A = .ok (.list (xs.map en))) : A = .ok (en xs) := h
/-! ### calls of defs -/
theorem v_call {f : List D → R D} {n : Nat} {p : R α} (h : L = .ok ds) (hf : Ev (f ds) p) (hn : ds.length = n := by rfl) : Ev (L >>= fnD n f) p := fun v e => by
  subst h
  show (if ds.length = n then f ds else stk) = _
  rw [if_pos hn]
  exact hf v e
/-! ### subscripts -/
def atR (xs : List α) (i : Int) : R α := opt (atI xs i)
theorem atI_en (xs : List α) (i : Int) : atI (xs.map en) i = (atI xs i).map en := by
  unfold atI
  rw [List.length_map]
  cases ixN xs.length i with
  | none => rfl
  | some j => exact List.getElem?_map
theorem v_ixl {xs : List α} {i : Int} (h : A = .ok (.list (xs.map en))) (h2 : B = .ok (en i)) : Ev (A >>= fun x => B >>= fun y => ixD x y) (atR xs i) := by
  subst h h2
  show Ev (opt (atI (xs.map en) i)) _
  rw [atI_en]; exact opt_map _
theorem v_ixt {xs : List α} {i : Int} (h : A = .ok (.tuple (xs.map en))) (h2 : B = .ok (en i)) : Ev (A >>= fun x => B >>= fun y => ixD x y) (atR xs i) := by
  subst h h2
  show Ev (opt (atI (xs.map en) i)) _
  rw [atI_en]; exact opt_map _
theorem gl_en {xs : List α} {ρ : Env'} {i : Nat} (h : gv ρ i = .ok (.list (xs.map en))) : gl ρ i = .ok (xs.map en) := by
  unfold gl; rw [h]; rfl
theorem v_ixol {xs : List α} {i : Int} {ρ : Env'} {k : Nat} (h : gv ρ k = .ok (.list (xs.map en))) (h2 : B = .ok (en i)) : Ev (gl ρ k >>= fun ds => B >>= fun y => asI y >>= fun j => opt (atI ds j)) (atR xs i) := by
  subst h2
  rw [gl_en h]
  show Ev (opt (atI (xs.map en) i)) _
  rw [atI_en]; exact opt_map _
def atS (l : Tx) (i : Int) : R Tx := if l.length ≤ 16777216 then opt (atI l i) >>= fun c => .ok [c] else stk
theorem atI_val (l : Tx) (i : Int) : atI (l.map Fin.val) i = (atI l i).map Fin.val := by
  unfold atI
  rw [List.length_map]
  cases ixN l.length i with
  | none => rfl
  | some j => exact List.getElem?_map
theorem v_ixs {l : Tx} {i : Int} (h : A = .ok (en l)) (h2 : B = .ok (en i)) : Ev (A >>= fun x => B >>= fun y => ixD x y) (atS l i) := fun v e => by
  subst h h2
  unfold atS at e
  split at e
  · rename_i hl
    obtain ⟨c, h1, h2⟩ := bind_ok e
    cases h2
    cases hc : atI l i with
    | none => rw [hc] at h1; cases h1
    | some d =>
      rw [hc] at h1; cases h1
      exact ix_tx (by rw [List.length_map]; exact hl) (by rw [atI_val, hc]; rfl)
  · cases e
theorem e_p1 {p : α × β} (h : A = .ok (en p)) : (A >>= fun x => .ok (.int 0) >>= fun y => ixD x y) = .ok (en p.1) := by subst h; rfl
theorem e_p2 {p : α × β} (h : A = .ok (en p)) : (A >>= fun x => .ok (.int 1) >>= fun y => ixD x y) = .ok (en p.2) := by subst h; rfl
theorem e_pl {p : α × β} (h : A = .ok (en p)) : (A >>= fun x => .ok (.int (-1)) >>= fun y => ixD x y) = .ok (en p.2) := by subst h; rfl
theorem e_q1 {p : T3 α β γ} (h : A = .ok (en p)) : (A >>= fun x => .ok (.int 0) >>= fun y => ixD x y) = .ok (en p.a) := by subst h; rfl
theorem e_q2 {p : T3 α β γ} (h : A = .ok (en p)) : (A >>= fun x => .ok (.int 1) >>= fun y => ixD x y) = .ok (en p.b) := by subst h; rfl
theorem e_q3 {p : T3 α β γ} (h : A = .ok (en p)) : (A >>= fun x => .ok (.int 2) >>= fun y => ixD x y) = .ok (en p.c) := by subst h; rfl
/-! ### slices -/
theorem p_none : (.ok none : R (Option Int)) = .ok none := rfl
theorem p_some {i : Int} (h : A = .ok (en i)) : (A >>= fun d => asI d >>= fun i => .ok (some i)) = .ok (some i) := by subst h; rfl
theorem cutA_map {γ δ : Type} (f : γ → δ) (xs : List γ) (lo hi : Option Int) : cutA (xs.map f) lo hi = (cutA xs lo hi).map f := by
  unfold cutA
  rw [List.length_map, List.map_take, List.map_drop]
theorem e_sl {P Q : R (Option Int)} {xs : List α} {lo hi : Option Int} (h : A = .ok (.list (xs.map en))) (h2 : P = .ok lo) (h3 : Q = .ok hi) : (A >>= fun x => P >>= fun l => Q >>= fun h => slD x l h) = .ok (.list ((cutA xs lo hi).map en)) := by
  subst h h2 h3
  show (.ok (.list (cutA (xs.map en) lo hi)) : R D) = _
  rw [cutA_map]
def cutG (l : Tx) (lo hi : Option Int) : R Tx := if l.length ≤ 16777216 then .ok (cutA l lo hi) else stk
theorem cutS_val (l : Tx) (lo hi : Option Int) : cutS (tx (l.map Fin.val)) lo hi = tx ((cutA l lo hi).map Fin.val) := by
  rw [← cutA_map]
  unfold cutS cutA tx
  have hl : (⟨(l.map Fin.val).toArray⟩ : Str).length = (l.map Fin.val).length := by show (l.map Fin.val).toArray.size = _; rw [List.size_toArray]
  simp only [hl]
theorem v_sls {P Q : R (Option Int)} {l : Tx} {lo hi : Option Int} (h : A = .ok (en l)) (h2 : P = .ok lo) (h3 : Q = .ok hi) : Ev (A >>= fun x => P >>= fun l => Q >>= fun h => slD x l h) (cutG l lo hi) := fun v e => by
  subst h h2 h3
  unfold cutG at e
  split at e
  · rename_i hl
    cases e
    show (lenOk (tx (l.map Fin.val)).length >>= fun _ => .ok (.str (cutS (tx (l.map Fin.val)) lo hi)) : R D) = _
    rw [tx_len, List.length_map, lenOk_i hl, cutS_val]; rfl
  · cases e
theorem e_rev {xs : List α} (h : A = .ok (.list (xs.map en))) : (A >>= fun x => revD x) = .ok (.list (xs.reverse.map en)) := by
  subst h
  show (.ok (.list (xs.map en).reverse) : R D) = _
  rw [List.map_reverse]
/-! ### sums of texts and lists; so many times -/
def addS (a b : Tx) : R Tx := if a.length + b.length ≤ 16777216 then .ok (a ++ b) else stk
theorem v_addS {a b : Tx} (h : A = .ok (en a)) (h2 : B = .ok (en b)) : Ev (A >>= fun x => B >>= fun y => addD x y) (addS a b) := fun v e => by
  subst h h2
  unfold addS at e
  split at e
  · rename_i hl
    cases e
    show addD (.str (tx (a.map Fin.val))) (.str (tx (b.map Fin.val))) = .ok (.str (tx ((a ++ b).map Fin.val)))
    rw [add_tx (by rw [List.length_map, List.length_map]; exact hl), List.map_append]
  · cases e
def addL (a b : List α) : R (List α) := if a.length + b.length ≤ 16777216 then .ok (a ++ b) else stk
theorem v_addL {a b : List α} (h : A = .ok (.list (a.map en))) (h2 : B = .ok (.list (b.map en))) : EvL (A >>= fun x => B >>= fun y => addD x y) (addL a b) := fun v e => by
  subst h h2
  unfold addL at e
  split at e
  · rename_i hl
    cases e
    show (if (a.map en).length + (b.map en).length ≤ sizeLine then .ok (.list (a.map en ++ b.map en)) else stk : R D) = _
    rw [if_pos (by rw [List.length_map, List.length_map, sizeLine_eq]; exact hl), List.map_append]
  · cases e
def repG (xs : List α) (k : Int) : R (List α) := if -9223372036854775808 ≤ k ∧ k < 9223372036854775808 ∧ xs.length * k.toNat ≤ 16777216 then .ok (List.replicate k.toNat xs).flatten else stk
theorem v_rep {xs : List α} {k : Int} (h : A = .ok (.list (xs.map en))) (h2 : B = .ok (en k)) : EvL (A >>= fun x => B >>= fun y => mulE x y) (repG xs k) := fun v e => by
  subst h h2
  unfold repG at e
  split at e
  · rename_i hl
    cases e
    show (if -9223372036854775808 ≤ k ∧ k < 9223372036854775808 ∧ (xs.map en).length * k.toNat ≤ 16777216 then .ok (.list (repL (xs.map en) k)) else stk : R D) = _
    rw [if_pos (by rw [List.length_map]; exact hl)]
    unfold repL
    rw [List.map_flatten, List.map_replicate]
  · cases e
def repT (x : Tx) (k : Int) : R Tx := if 0 ≤ k ∧ k ≤ 1000 ∧ x.length ≤ 1000 then .ok (List.replicate k.toNat x).flatten else stk
theorem fold_rep (l : Array Nat) : ∀ (k : Nat) (acc : Array Nat), ((List.replicate k l).foldl (· ++ ·) acc).toList = acc.toList ++ (List.replicate k l.toList).flatten
  | 0, acc => by simp
  | k + 1, acc => by
    rw [List.replicate_succ, List.foldl_cons, fold_rep l k, List.replicate_succ, List.flatten_cons]
    simp
theorem repS_tx (l : List Nat) (k : Int) : repS (tx l) k = tx (List.replicate k.toNat l).flatten := by
  unfold repS Txt.mul
  split
  · have : k.toNat = 0 := by omega
    rw [this]; rfl
  · split
    · rename_i h
      rw [Bool.or_eq_true, beq_iff_eq, beq_iff_eq] at h
      rcases h with h | h
      · subst h; simp
      · rw [tx_len] at h
        have : l = [] := List.length_eq_zero_iff.mp h
        subst this
        have : ∀ m : Nat, (List.replicate m ([] : List Nat)).flatten = [] := fun m => by
          induction m with
          | zero => rfl
          | succ m ih => rw [List.replicate_succ, List.flatten_cons, ih]; rfl
        rw [this]
    · have := fold_rep (tx l).cps k.toNat #[]
      show (⟨_⟩ : Str) = ⟨_⟩
      congr 1
      apply Array.toList_inj.mp
      rw [this]
      rfl
theorem v_repT {x : Tx} {k : Int} (h : A = .ok (en x)) (h2 : B = .ok (en k)) : Ev (A >>= fun x => B >>= fun y => mulD x y) (repT x k) := fun v e => by
  subst h h2
  unfold repT at e
  split at e
  · rename_i hh
    cases e
    show (if mulOkB (tx (x.map Fin.val)) k then .ok (.str (repS (tx (x.map Fin.val)) k)) else stk : R D) = .ok (.str (tx (((List.replicate k.toNat x).flatten).map Fin.val)))
    have hm : mulOkB (tx (x.map Fin.val)) k = true := by
      unfold mulOkB
      rw [tx_len, List.length_map, decide_eq_true hh.1, decide_eq_true hh.2.1, decide_eq_true hh.2.2]; rfl
    rw [if_pos hm, repS_tx, List.map_flatten, List.map_replicate]
  · cases e
/-! ### built-ins -/
theorem e_lenL {xs : List α} (h : L = .ok [.list (xs.map en)]) : (L >>= lenD) = .ok (en (xs.length : Int)) := by
  subst h
  show (.ok (.int (xs.map en).length) : R D) = _
  rw [List.length_map]; rfl
theorem e_lenT {xs : List α} (h : L = .ok [.tuple (xs.map en)]) : (L >>= lenD) = .ok (en (xs.length : Int)) := by
  subst h
  show (.ok (.int (xs.map en).length) : R D) = _
  rw [List.length_map]; rfl
theorem e_lenP {p : α × β} (h : L = .ok [en p]) : (L >>= lenD) = .ok (en (2 : Int)) := by subst h; rfl
def lenS (l : Tx) : R Int := if l.length ≤ 16777216 then .ok l.length else stk
theorem v_lenS {l : Tx} (h : L = .ok [en l]) : Ev (L >>= lenD) (lenS l) := fun v e => by
  subst h
  unfold lenS at e
  split at e
  · rename_i hl
    cases e
    show lenD [.str (tx (l.map Fin.val))] = _
    rw [len_tx (by rw [List.length_map]; exact hl), List.length_map]; rfl
  · cases e
theorem v_lenD [DecidableEq κ] {d : Dc κ α} (hk : Kyk κ) (h : L = .ok [en d]) : Ev (L >>= lenE) (lenDc d) := fun v e => by
  subst h
  unfold lenDc at e
  split at e
  · rename_i hl
    cases e
    show (if dkOk (d.l.map eKv) = true then lenOk (d.l.map eKv).length >>= fun _ => .ok (.int (d.l.map eKv).length) else lenD [.dict (d.l.map eKv)] : R D) = _
    rw [if_pos (dkOk_en hk _), List.length_map, lenOk_i hl]; rfl
  · cases e
theorem e_abs {a : Int} (h : L = .ok [en a]) : (L >>= absD) = .ok (en (a.natAbs : Int)) := by subst h; exact abs_i a
theorem e_min2 {a b : Int} (h : L = .ok [en a, en b]) : (L >>= min2D) = .ok (en (min a b)) := by subst h; exact min2_ii a b
theorem e_max2 {a b : Int} (h : L = .ok [en a, en b]) : (L >>= max2D) = .ok (en (max a b)) := by subst h; exact max2_ii a b
theorem e_intI {a : Int} (h : L = .ok [en a]) : (L >>= intD) = .ok (en a) := by subst h; rfl
theorem e_intB {a : Bool} (h : L = .ok [en a]) : (L >>= intD) = .ok (en (if a then (1 : Int) else 0)) := by subst h; exact intD_b a
theorem e_all {bs : List Bool} (h : L = .ok [.list (bs.map en)]) : (L >>= allD) = .ok (en (bs.all id)) := by subst h; exact all_bl bs
theorem e_any {bs : List Bool} (h : L = .ok [.list (bs.map en)]) : (L >>= anyD) = .ok (en (bs.any id)) := by subst h; exact any_bl bs
theorem e_sum {ns : List Int} (h : L = .ok [.list (ns.map en)]) : (L >>= sumD) = .ok (en ns.sum) := by subst h; exact sum_in ns
theorem lists_en : ∀ ls : List (List α), lists? (ls.map fun l => .list (l.map en)) = some (ls.map fun l => l.map en)
  | [] => rfl
  | l :: ls => by
    show (lists? (ls.map fun l => .list (l.map en))).map (l.map en :: ·) = _
    rw [lists_en ls]; rfl
def sumL (ls : List (List α)) : R (List α) := if ls.flatten.length ≤ 16777216 then .ok ls.flatten else stk
theorem v_sumL {ls : List (List α)} (h : L = .ok [.list (ls.map fun l => .list (l.map en)), .list []]) : EvL (L >>= sum2D) (sumL ls) := fun v e => by
  subst h
  unfold sumL at e
  split at e
  · rename_i hl
    cases e
    show (opt (lists? (ls.map fun l => .list (l.map en))) >>= fun ls => if ls.flatten.length ≤ 16777216 then .ok (.list ls.flatten) else stk : R D) = _
    rw [lists_en]
    show (if (ls.map fun l => l.map en).flatten.length ≤ 16777216 then .ok (.list (ls.map fun l => l.map en).flatten) else stk : R D) = _
    have e : (ls.map fun l => l.map en).flatten = ls.flatten.map en := by rw [List.map_flatten]
    rw [e, List.length_map, if_pos hl]
  · cases e
/-- the least of whole numbers -/
def minI : List Int → R Int
  | [] => stk
  | a :: l => .ok (l.foldl min a)
def maxI : List Int → R Int
  | [] => stk
  | a :: l => .ok (l.foldl max a)
theorem v_minI {ns : List Int} (h : L = .ok [.list (ns.map en)]) : Ev (L >>= Vs.minD) (minI ns) := fun v e => by
  subst h
  cases ns with
  | nil => cases e
  | cons a l =>
    cases e
    show (opt (ints? ((a :: l).map .int)) >>= fun ns => if 0 < ns.length then .ok (.int (minL ns)) else stk : R D) = _
    rw [Vs.ints_map (a :: l)]
    rfl
theorem v_maxI {ns : List Int} (h : L = .ok [.list (ns.map en)]) : Ev (L >>= Vs.maxD) (maxI ns) := fun v e => by
  subst h
  cases ns with
  | nil => cases e
  | cons a l =>
    cases e
    show (opt (ints? ((a :: l).map .int)) >>= fun ns => if 0 < ns.length then .ok (.int (maxL ns)) else stk : R D) = _
    rw [Vs.ints_map (a :: l)]
    rfl
theorem e_list {xs : List α} (h : L = .ok [.list (xs.map en)]) : (L >>= listD) = .ok (.list (xs.map en)) := by subst h; rfl
theorem e_listT {xs : List α} (h : L = .ok [.tuple (xs.map en)]) : (L >>= listD) = .ok (.list (xs.map en)) := by subst h; rfl
theorem e_tuple {xs : List α} (h : L = .ok [.list (xs.map en)]) : (L >>= tupleD) = .ok (.tuple (xs.map en)) := by subst h; rfl
theorem e_tupleT {xs : List α} (h : L = .ok [.tuple (xs.map en)]) : (L >>= tupleD) = .ok (.tuple (xs.map en)) := by subst h; rfl
theorem e_tuple2 {p : α × β} (h : L = .ok [en p]) : (L >>= tupleD) = .ok (en p) := by subst h; rfl
/-! ### the order -/
def ltT (a b : α) : Bool := PySem.W.dataLt (en a) (en b)
theorem cmpOk_en [Alk α] [s : Sh α] (hs : s.n ≤ 60) (a : α) : cmpOk (en a) = true := by
  unfold cmpOk
  rw [Sh.lay a, Bool.true_and, decide_eq_true (Nat.le_trans (Sh.dep a) hs), Bool.true_and]
  have := Alk.nn a
  split
  · rename_i e; exact absurd e this
  · rfl
theorem e_ltT [Alk α] [s : Sh α] {a b : α} (h : A = .ok (en a)) (h2 : B = .ok (en b)) (hs : s.n ≤ 60 := by decide) : (A >>= fun x => B >>= fun y => ltE x y) = .ok (en (ltT a b)) := by
  subst h h2
  show ltE (en a) (en b) = _
  unfold ltE
  split
  · rename_i i j e1 e2
    unfold ltT
    rw [e1, e2, PySem.W.dataLt_int]; rfl
  · rw [if_pos (by rw [cmpOk_en hs a, cmpOk_en hs b, Alk.alk]; rfl)]; rfl
theorem ltT_int (a b : Int) : ltT a b = decide (a < b) := PySem.W.dataLt_int a b
def minT : List α → R α
  | [] => stk
  | a :: l => .ok (l.foldl (fun a y => if ltT y a then y else a) a)
def maxT : List α → R α
  | [] => stk
  | a :: l => .ok (l.foldl (fun a y => if ltT a y then y else a) a)
theorem mmOk_en [Alk α] [s : Sh α] (hs : s.n ≤ 60) (l : List α) : mmOk (l.map en) = true := by
  unfold mmOk
  rw [List.all_eq_true]
  intro x hx
  obtain ⟨a, _, rfl⟩ := List.mem_map.mp hx
  rw [cmpOk_en hs a, Bool.true_and, List.all_eq_true]
  intro y hy
  obtain ⟨b, _, rfl⟩ := List.mem_map.mp hy
  exact Alk.alk a b
theorem minD_en (a : α) : ∀ l : List α, PySem.W.minD (en a) (l.map en) = en (l.foldl (fun a y => if ltT y a then y else a) a) := by
  intro l
  unfold PySem.W.minD
  induction l generalizing a with
  | nil => rfl
  | cons b l ih =>
    rw [List.map_cons, List.foldl_cons, List.foldl_cons]
    have : (if PySem.W.dataLt (en b) (en a) = true then en b else en a) = en (if ltT b a then b else a) := by
      unfold ltT; split <;> rfl
    rw [this]
    exact ih _
theorem maxD_en (a : α) : ∀ l : List α, PySem.W.maxD (en a) (l.map en) = en (l.foldl (fun a y => if ltT a y then y else a) a) := by
  intro l
  unfold PySem.W.maxD
  induction l generalizing a with
  | nil => rfl
  | cons b l ih =>
    rw [List.map_cons, List.foldl_cons, List.foldl_cons]
    have : (if PySem.W.dataLt (en a) (en b) = true then en b else en a) = en (if ltT a b then b else a) := by
      unfold ltT; split <;> rfl
    rw [this]
    exact ih _
theorem v_minT [Alk α] [s : Sh α] {l : List α} (h : L = .ok [.list (l.map en)]) (hs : s.n ≤ 60 := by decide) : Ev (L >>= minE) (minT l) := fun v e => by
  subst h
  cases l with
  | nil => cases e
  | cons a l =>
    cases e
    show (if mmOk ((a :: l).map en) = true then .ok (PySem.W.minD (en a) (l.map en)) else stk : R D) = _
    rw [if_pos (mmOk_en hs _), minD_en]
theorem v_maxT [Alk α] [s : Sh α] {l : List α} (h : L = .ok [.list (l.map en)]) (hs : s.n ≤ 60 := by decide) : Ev (L >>= maxE) (maxT l) := fun v e => by
  subst h
  cases l with
  | nil => cases e
  | cons a l =>
    cases e
    show (if mmOk ((a :: l).map en) = true then .ok (PySem.W.maxD (en a) (l.map en)) else stk : R D) = _
    rw [if_pos (mmOk_en hs _), maxD_en]
theorem v_minTp {p : α × α} [Alk α] [s : Sh α] (h : L = .ok [en p]) (hs : s.n ≤ 60 := by decide) : Ev (L >>= minE) (minT [p.1, p.2]) := fun v e => by
  subst h
  cases e
  show (if mmOk ([p.1, p.2].map en) = true then .ok (PySem.W.minD (en p.1) ([p.2].map en)) else stk : R D) = _
  rw [if_pos (mmOk_en hs _), minD_en]
theorem v_maxTp {p : α × α} [Alk α] [s : Sh α] (h : L = .ok [en p]) (hs : s.n ≤ 60 := by decide) : Ev (L >>= maxE) (maxT [p.1, p.2]) := fun v e => by
  subst h
  cases e
  show (if mmOk ([p.1, p.2].map en) = true then .ok (PySem.W.maxD (en p.1) ([p.2].map en)) else stk : R D) = _
  rw [if_pos (mmOk_en hs _), maxD_en]
theorem v_un {o : Option α} (h : A = .ok (en o)) : Ev A (opt o) := fun v e => by
  cases o with
  | none => cases e
  | some a => cases e; exact h
/-! ### index -/
def idxG [DecidableEq α] (l : List α) (a : α) : R Int := opt (l.findIdx? fun z => decide (z = a)) >>= fun j => .ok (j : Nat)
theorem v_index [DecidableEq α] [EqvO α] [s : Sh α] {l : List α} {a : α} (h : A = .ok (.list (l.map en))) (h2 : B = .ok (en a)) (hs : s.n + 1 ≤ 64 := by decide) : Ev (A >>= fun x => itL x >>= fun _ => B >>= fun y => indexD x y) (idxG l a) := fun v e => by
  subst h h2
  show (if SeqAt.shaped (.list (l.map en)) = true ∧ SeqAt.shaped (en a) = true then opt ((l.map en).findIdx? fun z => PyData.eqv z (en a)) >>= fun j => .ok (.int (j : Nat)) else stk : R D) = _
  rw [if_pos ⟨shp (α := List α) hs l, shp (by omega) a⟩, List.findIdx?_map]
  have : ((fun z => PyData.eqv z (en a)) ∘ en : α → Bool) = fun z => decide (z = a) := funext fun z => EqvO.eqv z a
  rw [this]
  obtain ⟨j, h1, h2⟩ := bind_ok (show (opt (l.findIdx? fun z => decide (z = a)) >>= fun j => .ok (j : Nat) : R Int) = .ok v from e)
  cases h2
  rw [h1]; rfl
/-! ### what is walked -/
def rgI (lo : Int) (n : Nat) : List Int := (List.range n).map fun (i : Nat) => lo + i
theorem rgI_en (lo : Int) (n : Nat) : rgD lo n = (rgI lo n).map en := by
  unfold rgD rgI
  rw [List.map_map]; rfl
def rgR1 (n : Int) : R (List Int) := if n.natAbs < 4611686018427387904 then .ok (rgI 0 n.toNat) else stk
def rgR2 (m n : Int) : R (List Int) := if m.natAbs < 4611686018427387904 ∧ n.natAbs < 4611686018427387904 then .ok (rgI m (n - m).toNat) else stk
def rgR3 (m n : Int) : R (List Int) := if m.natAbs < 4611686018427387904 ∧ n.natAbs < 4611686018427387904 then .ok ((List.range (m - n).toNat).map fun (i : Nat) => m + i * (-1)) else stk
/-- what is walked, where the plain list is v -/
def Ei (r : R (List D)) (p : R (List α)) : Prop := ∀ v, p = .ok v → r = .ok (v.map en)
theorem ati {r : R (List D)} {p : R (List α)} {v : List α} (h : p = .ok v) (e : Ei r p) : r = .ok (v.map en) := e v h
theorem i_ok {xs : List α} {r : R (List D)} (h : r = .ok (xs.map en)) : Ei r (.ok xs) := fun v e => by cases e; exact h
theorem i_r1 {n : Int} (h : L = .ok [en n]) : Ei (L >>= rg1) (rgR1 n) := fun v e => by
  subst h
  unfold rgR1 at e
  split at e
  · cases e
    show rg1 [.int n] = _
    rw [rg1_i ‹_›, rgI_en]
  · cases e
theorem i_r2 {m n : Int} (h : L = .ok [en m, en n]) : Ei (L >>= rg2) (rgR2 m n) := fun v e => by
  subst h
  unfold rgR2 at e
  split at e
  · cases e
    show rg2 [.int m, .int n] = _
    rw [rg2_i ‹_›, rgI_en]
  · cases e
theorem i_r3 {m n : Int} (h : L = .ok [en m, en n, .int (-1)]) : Ei (L >>= rg3) (rgR3 m n) := fun v e => by
  subst h
  unfold rgR3 at e
  split at e
  · rename_i hh
    cases e
    show (if (-1 : Int) = -1 ∧ m.natAbs < 4611686018427387904 ∧ n.natAbs < 4611686018427387904 then .ok (rgC m (m - n).toNat) else stk : R (List D)) = _
    rw [if_pos ⟨rfl, hh⟩]
    unfold rgC
    rw [List.map_map]; rfl
  · cases e
def lrR (i j : Int) : R (List Int) := if i.natAbs < 4611686018427387904 ∧ j.natAbs < 4611686018427387904 ∧ (j - i).toNat ≤ 16777216 then .ok (rgI i (j - i).toNat) else stk
theorem lr_en (i j : Int) : EvL (lrD i j) (lrR i j) := fun v e => by
  unfold lrR at e
  split at e
  · cases e
    unfold lrD
    rw [if_pos ‹_›, rgI_en]
  · cases e
theorem v_lr1 {i : Int} (h : A = .ok (en i)) : EvL (A >>= fun d => asI d >>= fun i => lrD 0 i) (lrR 0 i) := by subst h; exact lr_en 0 i
theorem v_lr2 {i j : Int} (h : A = .ok (en i)) (h2 : B = .ok (en j)) : EvL (A >>= fun d => B >>= fun d2 => asI d >>= fun i => asI d2 >>= fun j => lrD i j) (lrR i j) := by subst h h2; exact lr_en i j
theorem i_l {xs : List α} (h : A = .ok (.list (xs.map en))) : (A >>= itL) = .ok (xs.map en) := by subst h; rfl
theorem i_t {xs : List α} (h : A = .ok (.tuple (xs.map en))) : (A >>= itT) = .ok (xs.map en) := by subst h; rfl
theorem i_p {a b : α} (h : A = .ok (en (a, b))) : (A >>= itT) = .ok ([a, b].map en) := by subst h; rfl
theorem i_pp {p : α × α} (h : A = .ok (en p)) : (A >>= itT) = .ok ([p.1, p.2].map en) := by subst h; rfl
def sgs (l : Tx) : List Tx := l.map fun c => [c]
theorem sgs_en (l : Tx) : ((tx (l.map Fin.val)).cps.toList.map fun c => PyData.str ⟨#[c]⟩) = (sgs l).map en := by
  rw [tx_cps]
  unfold sgs
  rw [List.map_map, List.map_map]; rfl
theorem i_s {l : Tx} (h : A = .ok (en l)) : (A >>= itS) = .ok ((sgs l).map en) := by
  subst h
  show (.ok ((tx (l.map Fin.val)).cps.toList.map fun c => PyData.str ⟨#[c]⟩) : R (List D)) = _
  rw [sgs_en]
def dkeys (d : Dc κ α) : List κ := d.l.map (·.1)
theorem i_d [DecidableEq κ] {d : Dc κ α} (hk : Kyk κ) (h : A = .ok (en d)) : (A >>= itK) = .ok ((dkeys d).map en) := by
  subst h
  show (if dkOk (d.l.map eKv) = true then .ok ((d.l.map eKv).map (·.1)) else stk : R (List D)) = _
  rw [if_pos (dkOk_en hk _)]
  unfold dkeys
  rw [List.map_map, List.map_map]; rfl
def enI (k : Nat) : List α → List (Int × α)
  | [] => []
  | a :: l => ((k : Int), a) :: enI (k + 1) l
theorem enI_en : ∀ (l : List α) (k : Nat), enD k (l.map en) = (enI k l).map en
  | [], _ => rfl
  | a :: l, k => by
    show PyData.tuple [.int (k : Nat), en a] :: enD (k + 1) (l.map en) = _
    rw [enI_en l]; rfl
theorem i_e {xs : List α} (h : L = .ok [.list (xs.map en)]) : (L >>= en1) = .ok ((enI 0 xs).map en) := by
  subst h
  show (.ok (enD 0 (xs.map en)) : R (List D)) = _
  rw [enI_en]
theorem i_et {xs : List α} (h : L = .ok [.tuple (xs.map en)]) : (L >>= en1t) = .ok ((enI 0 xs).map en) := by
  subst h
  show (.ok (enD 0 (xs.map en)) : R (List D)) = _
  rw [enI_en]
theorem i_ep {a b : α} (h : L = .ok [en (a, b)]) : (L >>= en1t) = .ok ((enI 0 [a, b]).map en) := by subst h; rfl
theorem i_es {l : Tx} (h : L = .ok [en l]) : (L >>= en1s) = .ok ((enI 0 (sgs l)).map en) := by
  subst h
  show (.ok (enD 0 ((tx (l.map Fin.val)).cps.toList.map fun c => PyData.str ⟨#[c]⟩)) : R (List D)) = _
  rw [sgs_en, enI_en]
/-! ### comprehensions -/
def mapR (f : α → R β) : List α → R (List β)
  | [] => .ok []
  | a :: l => f a >>= fun b => mapR f l >>= fun bs => .ok (b :: bs)
def filR (t : α → R Bool) (f : α → R β) : List α → R (List β)
  | [] => .ok []
  | a :: l => t a >>= fun c => if c then f a >>= fun b => filR t f l >>= fun bs => .ok (b :: bs) else filR t f l
def mapG (f : α → R β) (l : List α) : R (List β) := if l.length ≤ 16777216 then mapR f l else stk
def filG (t : α → R Bool) (f : α → R β) (l : List α) : R (List β) := if l.length ≤ 16777216 then filR t f l else stk
theorem lc_en {tg : D → Env' → R Env'} {ft : Env' → R Bool} {fe : Env' → R D} {ρ : Env'} {t : α → R Bool} {f : α → R β} (h : ∀ a, ∃ ρ1, tg (en a) ρ = .ok ρ1 ∧ Et (ft ρ1) (t a) ∧ Ev (fe ρ1) (f a)) :
    ∀ (l : List α) (v : List β), filR t f l = .ok v → lcD tg ft fe ρ (l.map en) = .ok (v.map en)
  | [], v, e => by cases e; rfl
  | a :: l, v, e => by
    obtain ⟨ρ1, h1, h2, h3⟩ := h a
    obtain ⟨c, e1, e2⟩ := bind_ok (show (t a >>= fun c => if c then f a >>= fun b => filR t f l >>= fun bs => .ok (b :: bs) else filR t f l) = .ok v from e)
    rw [List.map_cons, lc_is, h1, okb, h2 c e1, okb]
    cases c with
    | true =>
      obtain ⟨b, e3, e4⟩ := bind_ok (show (f a >>= fun b => filR t f l >>= fun bs => .ok (b :: bs)) = .ok v from e2)
      obtain ⟨bs, e5, e6⟩ := bind_ok e4
      cases e6
      rw [if_pos rfl, h3 b e3, okb, lc_en h l bs e5, okb]
      rfl
    | false => exact lc_en h l v e2
theorem lc_enM {tg : D → Env' → R Env'} {fe : Env' → R D} {ρ : Env'} {f : α → R β} (h : ∀ a, ∃ ρ1, tg (en a) ρ = .ok ρ1 ∧ Ev (fe ρ1) (f a)) :
    ∀ (l : List α) (v : List β), mapR f l = .ok v → lcD tg (fun _ => .ok true) fe ρ (l.map en) = .ok (v.map en)
  | [], v, e => by cases e; rfl
  | a :: l, v, e => by
    obtain ⟨ρ1, h1, h3⟩ := h a
    obtain ⟨b, e3, e4⟩ := bind_ok (show (f a >>= fun b => mapR f l >>= fun bs => .ok (b :: bs)) = .ok v from e)
    obtain ⟨bs, e5, e6⟩ := bind_ok e4
    cases e6
    rw [List.map_cons, lc_is, h1, okb, okb, if_pos rfl, h3 b e3, okb, lc_enM h l bs e5, okb]
    rfl
theorem v_fil {vs : List Nat} {fi : Env' → R (List D)} {tg : D → Env' → R Env'} {ft : Env' → R Bool} {fe : Env' → R D} {ρ : Env'} {t : α → R Bool} {f : α → R β} {xs : List α} (ρ1 : α → Env') (hi : fi ρ = .ok (xs.map en)) (ht : ∀ a, Et (ft (ρ1 a)) (t a)) (hf : ∀ a, Ev (fe (ρ1 a)) (f a)) (hg : ∀ a, tg (en a) (wipeD ρ vs) = .ok (ρ1 a) := by intro _; rfl) :
    EvL (compD vs fi tg ft fe ρ) (filG t f xs) := fun v e => by
  unfold filG at e
  split at e
  · rename_i hl
    rw [comp_is, hi, okb, List.length_map, lenOk_i hl, okb, lc_en (fun a => ⟨ρ1 a, hg a, ht a, hf a⟩) xs v e]
    rfl
  · cases e
theorem v_map {vs : List Nat} {fi : Env' → R (List D)} {tg : D → Env' → R Env'} {fe : Env' → R D} {ρ : Env'} {f : α → R β} {xs : List α} (ρ1 : α → Env') (hi : fi ρ = .ok (xs.map en)) (hf : ∀ a, Ev (fe (ρ1 a)) (f a)) (hg : ∀ a, tg (en a) (wipeD ρ vs) = .ok (ρ1 a) := by intro _; rfl) :
    EvL (compD vs fi tg (fun _ => .ok true) fe ρ) (mapG f xs) := fun v e => by
  unfold mapG at e
  split at e
  · rename_i hl
    rw [comp_is, hi, okb, List.length_map, lenOk_i hl, okb, lc_enM (fun a => ⟨ρ1 a, hg a, hf a⟩) xs v e]
    rfl
  · cases e

/-- two clauses -/
def mapR2 (g : α → R (List γ)) : List α → R (List γ)
  | [] => .ok []
  | a :: l => g a >>= fun b => mapR2 g l >>= fun bs => .ok (b ++ bs)
def mapG2 (g : α → R (List γ)) (l : List α) : R (List γ) := mapR2 g l >>= fun ys => if ys.length ≤ 16777216 then .ok ys else stk
theorem lc2_is (tg : D → Env' → R Env') (ft : Env' → R Bool) (fi1 : Env' → R (List D)) (vs1 : List Nat) (tg1 : D → Env' → R Env') (ft1 : Env' → R Bool) (fe : Env' → R D) (ρ : Env') (d : D) (ds : List D) : lcD2 tg ft fi1 vs1 tg1 ft1 fe ρ (d :: ds) = (tg d ρ >>= fun ρ1 => ft ρ1 >>= fun b => if b then fi1 ρ1 >>= fun ds1 => lcD tg1 ft1 fe (wipeD ρ1 vs1) ds1 >>= fun ys => lcD2 tg ft fi1 vs1 tg1 ft1 fe ρ ds >>= fun zs => .ok (ys ++ zs) else lcD2 tg ft fi1 vs1 tg1 ft1 fe ρ ds) := rfl
theorem lc2_en {tg tg1 : D → Env' → R Env'} {ft1 : Env' → R Bool} {fi1 : Env' → R (List D)} {fe : Env' → R D} {vs1 : List Nat} {ρ : Env'} {g : α → R (List γ)}
    (h : ∀ a, ∃ ρ1, tg (en a) ρ = .ok ρ1 ∧ ∀ v, g a = .ok v → ∃ ds1, fi1 ρ1 = .ok ds1 ∧ lcD tg1 ft1 fe (wipeD ρ1 vs1) ds1 = .ok (v.map en)) :
    ∀ (l : List α) (v : List γ), mapR2 g l = .ok v → lcD2 tg (fun _ => .ok true) fi1 vs1 tg1 ft1 fe ρ (l.map en) = .ok (v.map en)
  | [], v, e => by cases e; rfl
  | a :: l, v, e => by
    obtain ⟨ρ1, h1, h2⟩ := h a
    obtain ⟨b, e3, e4⟩ := bind_ok (show (g a >>= fun b => mapR2 g l >>= fun bs => .ok (b ++ bs)) = .ok v from e)
    obtain ⟨bs, e5, e6⟩ := bind_ok e4
    cases e6
    obtain ⟨ds1, h3, h4⟩ := h2 b e3
    rw [List.map_cons, lc2_is, h1, okb, okb, if_pos rfl, h3, okb, h4, okb, lc2_en h l bs e5, okb, List.map_append]
theorem v_map2 {vs vs1 : List Nat} {fi : Env' → R (List D)} {tg tg1 : D → Env' → R Env'} {fi1 : Env' → R (List D)} {fe : Env' → R D} {ρ : Env'} {xs : List α} {q : α → R (List β)} {f : α → β → R γ} (ρ1 : α → Env') (ρ2 : α → β → Env') (hi : fi ρ = .ok (xs.map en)) (hq : ∀ a, Ei (fi1 (ρ1 a)) (q a)) (hf : ∀ a b, Ev (fe (ρ2 a b)) (f a b))
    (hg : ∀ a, tg (en a) (wipeD ρ vs) = .ok (ρ1 a) := by intro _; rfl) (hg1 : ∀ a b, tg1 (en b) (wipeD (ρ1 a) vs1) = .ok (ρ2 a b) := by intro _ _; rfl) :
    EvL (compD2 vs vs1 fi tg (fun _ => .ok true) fi1 tg1 (fun _ => .ok true) fe ρ) (mapG2 (fun a => q a >>= fun ys => mapR (f a) ys) xs) := fun v e => by
  obtain ⟨ys, e1, e2⟩ := bind_ok (show (mapR2 (fun a => q a >>= fun ys => mapR (f a) ys) xs >>= fun ys => if ys.length ≤ 16777216 then .ok ys else stk) = .ok v from e)
  split at e2
  · rename_i hl
    cases e2
    show (fi ρ >>= fun ds => noX (lcD2 tg (fun _ => .ok true) fi1 vs1 tg1 (fun _ => .ok true) fe (wipeD ρ vs) ds) >>= fun ys => lenOk ys.length >>= fun _ => .ok (.list ys) : R D) = _
    rw [hi, okb, lc2_en (fun a => ⟨ρ1 a, hg a, fun v e => by
      obtain ⟨zs, e3, e4⟩ := bind_ok e
      exact ⟨_, hq a zs e3, lc_enM (fun b => ⟨ρ2 a b, hg1 a b, hf a b⟩) zs v e4⟩⟩) xs _ e1]
    show (lenOk (v.map en).length >>= fun _ => .ok (.list (v.map en)) : R D) = _
    rw [List.length_map, lenOk_i hl]; rfl
  · cases e2
theorem v_fil2 {vs vs1 : List Nat} {fi : Env' → R (List D)} {tg tg1 : D → Env' → R Env'} {ft1 : Env' → R Bool} {fi1 : Env' → R (List D)} {fe : Env' → R D} {ρ : Env'} {xs : List α} {q : α → R (List β)} {t : α → β → R Bool} {f : α → β → R γ} (ρ1 : α → Env') (ρ2 : α → β → Env') (hi : fi ρ = .ok (xs.map en)) (hq : ∀ a, Ei (fi1 (ρ1 a)) (q a)) (ht : ∀ a b, Et (ft1 (ρ2 a b)) (t a b)) (hf : ∀ a b, Ev (fe (ρ2 a b)) (f a b))
    (hg : ∀ a, tg (en a) (wipeD ρ vs) = .ok (ρ1 a) := by intro _; rfl) (hg1 : ∀ a b, tg1 (en b) (wipeD (ρ1 a) vs1) = .ok (ρ2 a b) := by intro _ _; rfl) :
    EvL (compD2 vs vs1 fi tg (fun _ => .ok true) fi1 tg1 ft1 fe ρ) (mapG2 (fun a => q a >>= fun ys => filR (t a) (f a) ys) xs) := fun v e => by
  obtain ⟨ys, e1, e2⟩ := bind_ok (show (mapR2 (fun a => q a >>= fun ys => filR (t a) (f a) ys) xs >>= fun ys => if ys.length ≤ 16777216 then .ok ys else stk) = .ok v from e)
  split at e2
  · rename_i hl
    cases e2
    show (fi ρ >>= fun ds => noX (lcD2 tg (fun _ => .ok true) fi1 vs1 tg1 ft1 fe (wipeD ρ vs) ds) >>= fun ys => lenOk ys.length >>= fun _ => .ok (.list ys) : R D) = _
    rw [hi, okb, lc2_en (fun a => ⟨ρ1 a, hg a, fun v e => by
      obtain ⟨zs, e3, e4⟩ := bind_ok e
      exact ⟨_, hq a zs e3, lc_en (fun b => ⟨ρ2 a b, hg1 a b, ht a b, hf a b⟩) zs v e4⟩⟩) xs _ e1]
    show (lenOk (v.map en).length >>= fun _ => .ok (.list (v.map en)) : R D) = _
    rw [List.length_map, lenOk_i hl]; rfl
  · cases e2
end
end Vt

set_option Elab.async false
set_option linter.all false
set_option maxRecDepth 100000
/-! The typed mirror: statements, loops, defs. -/
namespace Vt
open PySem PySem.Spec PyProof.Rows L2 Vs
open En (en)
/-- where the plain answer is g, the meaning ends with what W says of it -/
def Jm {γ : Type} (o : R Out) (p : R γ) (W : γ → Out → Prop) : Prop := ∀ g, p = .ok g → ∃ u, o = .ok u ∧ W g u
/-- at the end of a def -/
def WT {α : Type} [En α] (fr : Bool) : α → Out → Prop := fun v u => ret fr u = .ok (en v)
/-- behind a block that goes on -/
def WL {σ : Type} (L : σ → (Nat → Option D) → Env') : σ → Out → Prop := fun s u => ∃ j, u = .nx (L s j)
/-- .. that may return -/
def WR {σ β : Type} [En β] (L : σ → (Nat → Option D) → Env') : σ ⊕ β → Out → Prop := fun x u => match x with
  | .inl s => ∃ j, u = .nx (L s j)
  | .inr b => u = .rt (en b)
/-- a block at these slots -/
def ap (f : Env' → R Out) (ρ : Env') : R Out := f ρ
/-- the slots as they are -/
def jn (ρ : Env') (i : Nat) : Option D := (ρ[i]?).getD none
section
variable {α β γ δ κ σ τ : Type} [En α] [En β] [En κ] {o : R Out} {f g h : Env' → R Out} {ρ ρ' : Env'} {A B : R D} {T : R Bool} {fa fb : Env' → R D} {W : γ → Out → Prop} {p : R γ}
theorem jm_bind {m : R δ} {p : δ → R γ} (h : ∀ x, m = .ok x → Jm o (p x) W) : Jm o (m >>= p) W := fun v e => by
  obtain ⟨x, h1, h2⟩ := bind_ok e
  exact h x h1 v h2
theorem jm_stk : Jm o (stk : R γ) W := fun v e => nomatch e
theorem jm_ok {v : γ} (h : W v (.nx ρ)) : Jm (ap (fun ρ => .ok (.nx ρ)) ρ) (.ok v) W := fun g e => by cases e; exact ⟨.nx ρ, rfl, h⟩
theorem jm_o {o' : R Out} (h : o' = o) (j : Jm o p W) : Jm o' p W := h ▸ j
theorem seq_as (f g h : Env' → R Out) (ρ : Env') : seqD (seqD f g) h ρ = seqD f (seqD g h) ρ := by
  rw [seq_eq, seq_eq, seq_eq]
  cases f ρ with
  | error e => rfl
  | ok u => cases u <;> rfl
theorem jm_as (j : Jm (ap (seqD f (seqD g h)) ρ) p W) : Jm (ap (seqD (seqD f g) h) ρ) p W := jm_o (seq_as f g h ρ) j
theorem seq_last (f : Env' → R Out) (ρ : Env') : seqD f (fun ρ => .ok (.nx ρ)) ρ = f ρ := by
  rw [seq_eq]
  cases f ρ with
  | error e => rfl
  | ok u => cases u <;> rfl
theorem jm_last (j : Jm (ap (seqD f (fun ρ => .ok (.nx ρ))) ρ) p W) : Jm (ap f ρ) p W := jm_o (seq_last f ρ).symm j
theorem jm_first (j : Jm (ap g ρ) p W) : Jm (ap (seqD (fun ρ => .ok (.nx ρ)) g) ρ) p W := j
/-! ### plain statements, each with what follows -/
theorem jm_set {i : Nat} {x : α} (h : fa ρ = .ok (en x)) (ρ' : Env') (j : Jm (ap g ρ') p W) (e : ρ.set i (some (en x)) = ρ' := by rfl) : Jm (ap (seqD (fun ρ => fa ρ >>= fun d => setD i d ρ) g) ρ) p W := jm_o (by
  show seqD _ _ _ = _
  rw [seq_eq, h, okb]; show g (ρ.set i (some (en x))) = _; rw [e]; rfl) j
theorem jm_setL {i : Nat} {x : List α} (h : fa ρ = .ok (.list (x.map en))) (ρ' : Env') (j : Jm (ap g ρ') p W) (e : ρ.set i (some (.list (x.map en))) = ρ' := by rfl) : Jm (ap (seqD (fun ρ => fa ρ >>= fun d => setD i d ρ) g) ρ) p W := jm_o (by
  show seqD _ _ _ = _
  rw [seq_eq, h, okb]; show g (ρ.set i _) = _; rw [e]; rfl) j
theorem jm_ex {x : α} (h : fa ρ = .ok (en x)) (j : Jm (ap g ρ) p W) : Jm (ap (seqD (fun ρ => fa ρ >>= fun _ => .ok (.nx ρ)) g) ρ) p W := jm_o (by show seqD _ _ _ = _; rw [seq_eq, h]; rfl) j
theorem jm_tg {x : α} {tg : D → Env' → R Env'} (h : fa ρ = .ok (en x)) (ρ' : Env') (j : Jm (ap g ρ') p W) (e : tg (en x) ρ = .ok ρ' := by rfl) : Jm (ap (seqD (fun ρ => fa ρ >>= fun d => tg d ρ >>= fun ρ' => .ok (.nx ρ')) g) ρ) p W := jm_o (by
  show seqD _ _ _ = _
  rw [seq_eq, h, okb, e]; rfl) j
theorem jm_par {i k : Nat} {fs : Env' → R (List D)} {x : α} {y : β} (h : fs ρ = .ok [en x, en y]) (ρ' : Env') (j : Jm (ap g ρ') p W) (e : (ρ.set i (some (en x))).set k (some (en y)) = ρ' := by rfl) :
    Jm (ap (seqD (fun ρ => fs ρ >>= fun ds => match ds with | [d1, d2] => .ok (.nx ((ρ.set i (some d1)).set k (some d2))) | _ => stk) g) ρ) p W := jm_o (by
  show seqD _ _ _ = _
  rw [seq_eq, h, okb]; show g _ = _; rw [e]; rfl) j
def apG (xs : List α) (x : α) : R (List α) := if xs.length < 16777216 then .ok (xs ++ [x]) else stk
theorem jm_app {i : Nat} {xs : List α} {x : α} {v : List α} (h0 : gv ρ i = .ok (.list (xs.map en))) (h : fa ρ = .ok (en x)) (hv : apG xs x = .ok v) (ρ' : Env') (j : Jm (ap g ρ') p W) (e : ρ.set i (some (.list (v.map en))) = ρ' := by rfl) :
    Jm (ap (seqD (fun ρ => gl ρ i >>= fun xs => fa ρ >>= fun d => apD i xs d ρ) g) ρ) p W := jm_o (by
  unfold apG at hv
  split at hv
  · rename_i hl
    cases hv
    show seqD _ _ _ = _
    rw [seq_eq, gl_en h0, okb, h, okb]
    show ((if (xs.map en).length < 16777216 then setD i (.list (xs.map en ++ [en x])) ρ else stk) >>= _) = _
    rw [if_pos (by rw [List.length_map]; exact hl)]
    show g (ρ.set i (some (.list (xs.map en ++ [en x])))) = _
    rw [← e, List.map_append]; rfl
  · cases hv) j
def exG (xs ys : List α) : R (List α) := if xs.length + ys.length ≤ 16777216 then .ok (xs ++ ys) else stk
theorem jm_ext {i : Nat} {xs ys v : List α} (h0 : gv ρ i = .ok (.list (xs.map en))) (h : fa ρ = .ok (.list (ys.map en))) (hv : exG xs ys = .ok v) (ρ' : Env') (j : Jm (ap g ρ') p W) (e : ρ.set i (some (.list (v.map en))) = ρ' := by rfl) :
    Jm (ap (seqD (fun ρ => gl ρ i >>= fun xs => fa ρ >>= fun d => exD i xs d ρ) g) ρ) p W := jm_o (by
  unfold exG at hv
  split at hv
  · rename_i hl
    cases hv
    show seqD _ _ _ = _
    rw [seq_eq, gl_en h0, okb, h, okb]
    show ((if (xs.map en).length + (ys.map en).length ≤ 16777216 then setD i (.list (xs.map en ++ ys.map en)) ρ else stk) >>= _) = _
    rw [if_pos (by rw [List.length_map, List.length_map]; exact hl)]
    show g (ρ.set i (some (.list (xs.map en ++ ys.map en)))) = _
    rw [← e, List.map_append]; rfl
  · cases hv) j
def dcP [DecidableEq κ] (d : Dc κ α) (k : κ) (v : α) : Dc κ α := ⟨if d.l.any (fun p => decide (p.1 = k)) then d.l.map (fun p => if p.1 = k then (p.1, v) else p) else d.l ++ [(k, v)]⟩
def dpG [DecidableEq κ] (d : Dc κ α) (k : κ) (v : α) : R (Dc κ α) := if d.l.length < 16777216 then .ok (dcP d k v) else stk
theorem dput_en [DecidableEq κ] (hk : Kyk κ) (d : Dc κ α) (k : κ) (v : α) : dput (d.l.map eKv) (en k) (en v) = (dcP d k v).l.map eKv := by
  have e : ∀ q : κ × α, PyData.eqv (eKv q).1 (en k) = decide (q.1 = k) := fun q => hk.eqv q.1 k
  unfold dput dcP
  rw [List.any_map, show ((fun q : D × D => PyData.eqv q.1 (en k)) ∘ eKv : κ × α → Bool) = fun q => decide (q.1 = k) from funext e]
  split
  · rw [List.map_map, List.map_map]
    refine List.map_congr_left fun q _ => ?_
    show (if PyData.eqv (eKv q).1 (en k) = true then ((eKv q).1, en v) else eKv q) = eKv (if q.1 = k then (q.1, v) else q)
    rw [e q]
    by_cases h : q.1 = k
    · rw [decide_eq_true h, if_pos rfl, if_pos h]; rfl
    · rw [decide_eq_false h, if_neg Bool.false_ne_true, if_neg h]
  · rw [List.map_append]; rfl
theorem jm_put [DecidableEq κ] {i : Nat} {d d' : Dc κ α} {k : κ} {v : α} (hk : Kyk κ) (h0 : gv ρ i = .ok (en d)) (h1 : fb ρ = .ok (en k)) (h : fa ρ = .ok (en v)) (hv : dpG d k v = .ok d') (ρ' : Env') (j : Jm (ap g ρ') p W) (e : ρ.set i (some (en d')) = ρ' := by rfl) :
    Jm (ap (seqD (fun ρ => fa ρ >>= fun v => gk ρ i >>= fun kvs => fb ρ >>= fun k => dpD i kvs k v ρ) g) ρ) p W := jm_o (by
  unfold dpG at hv
  split at hv
  · rename_i hl
    cases hv
    show seqD _ _ _ = _
    rw [seq_eq, h, okb, gk_en h0, okb, h1, okb]
    show ((if putOk (d.l.map eKv) (en k) = true ∧ (d.l.map eKv).length < 16777216 then setD i (.dict (dput (d.l.map eKv) (en k) (en v))) ρ else stk) >>= _) = _
    rw [if_pos ⟨putOk_en hk _ _, by rw [List.length_map]; exact hl⟩, dput_en hk]
    show g (ρ.set i (some (.dict ((dcP d k v).l.map eKv)))) = _
    rw [← e]; rfl
  · cases hv) j
/-! ### dict displays -/
theorem e_d0 : (.ok (.dict []) : R D) = .ok (en (Dc.mk ([] : List (κ × α)))) := rfl
theorem e_d1 [DecidableEq κ] {k : κ} {v : α} (hk : Kyk κ) (h : A = .ok (en k)) (h2 : B = .ok (en v)) : ((A >>= fun x => B >>= fun y => .ok [] >>= fun ps => .ok ((x, y) :: ps)) >>= fun ps => lenOk ps.length >>= fun _ => noX (dputs [] ps) >>= fun kvs => .ok (.dict kvs)) = .ok (en (Dc.mk [(k, v)])) := by
  subst h h2
  show (noX (if putOk [] (en k) = true then .ok (dput [] (en k) (en v)) else stk : R (List (D × D))) >>= fun kvs => .ok (.dict kvs) : R D) = _
  have := putOk_en (α := α) hk [] k
  rw [List.map_nil] at this
  rw [if_pos this]
  rfl
/-! ### return, if -/
theorem jm_ret {v : γ} (d : D) (h : fa ρ = .ok d) (hw : W v (.rt d)) : Jm (ap (fun ρ => fa ρ >>= fun d => .ok (.rt d)) ρ) (.ok v) W := fun g e => by
  cases e
  exact ⟨.rt d, by show (fa ρ >>= fun d => _) = _; rw [h]; rfl, hw⟩
theorem jm_retS {v : γ} (d : D) (h : fa ρ = .ok d) (hw : W v (.rt d)) : Jm (ap (seqD (fun ρ => fa ρ >>= fun d => .ok (.rt d)) g) ρ) (.ok v) W := fun z e => by
  cases e
  exact ⟨.rt d, by show seqD _ _ _ = _; rw [seq_eq, h]; rfl, hw⟩
theorem jm_if {b : Bool} {ft : Env' → R Bool} {p q : R γ} (h : ft ρ = .ok b) (h1 : b = true → Jm (ap f ρ) p W) (h2 : b = false → Jm (ap g ρ) q W) : Jm (ap (fun ρ => ft ρ >>= fun k => if k then f ρ else g ρ) ρ) (if b then p else q) W := by
  show Jm (ft ρ >>= fun k => if k then f ρ else g ρ) _ W
  rw [h]
  cases b
  · exact h2 rfl
  · exact h1 rfl
theorem jm_ifs {b : Bool} {ft : Env' → R Bool} {p q : R γ} (h1' : ft ρ = .ok b) (h1 : b = true → Jm (ap (seqD f h) ρ) p W) (h2 : b = false → Jm (ap (seqD g h) ρ) q W) : Jm (ap (seqD (fun ρ => ft ρ >>= fun k => if k then f ρ else g ρ) h) ρ) (if b then p else q) W := by
  have e : seqD (fun ρ => ft ρ >>= fun k => if k then f ρ else g ρ) h ρ = if b then seqD f h ρ else seqD g h ρ := by
    show seqD _ _ _ = _
    rw [seq_eq, h1', okb]
    cases b <;> rfl
  show Jm (seqD (fun ρ => ft ρ >>= fun k => if k then f ρ else g ρ) h ρ) _ W
  rw [e]
  cases b
  · exact h2 rfl
  · exact h1 rfl
/-- a block that goes on, and what follows -/
theorem jm_seq {m : R σ} {q : σ → R γ} (L : σ → (Nat → Option D) → Env') (h1 : Jm (ap f ρ) m (WL L)) (h2 : ∀ s j, Jm (ap g (L s j)) (q s) W) : Jm (ap (seqD f g) ρ) (m >>= q) W := fun v e => by
  obtain ⟨s, e1, e2⟩ := bind_ok e
  obtain ⟨u, e3, j, rfl⟩ := h1 s e1
  have e3' : f ρ = _ := e3
  obtain ⟨u, e4, e5⟩ := h2 s j v e2
  exact ⟨u, by show seqD _ _ _ = _; rw [seq_eq, e3']; exact e4, e5⟩
def onR {σ β γ : Type} (m : R (σ ⊕ β)) (q : σ → R γ) (k : β → R γ) : R γ := m >>= fun x => match x with
  | .inl s => q s
  | .inr b => k b
theorem jm_seqR {m : R (σ ⊕ β)} {q : σ → R γ} {k : β → γ} (L : σ → (Nat → Option D) → Env') (h1 : Jm (ap f ρ) m (WR L)) (h2 : ∀ s j, Jm (ap g (L s j)) (q s) W) (h3 : ∀ b, W (k b) (.rt (en b))) :
    Jm (ap (seqD f g) ρ) (onR m q fun b => .ok (k b)) W := fun v e => by
  unfold onR at e
  obtain ⟨s, e1, e2⟩ := bind_ok e
  obtain ⟨u, e3, e4⟩ := h1 s e1
  have e3' : f ρ = _ := e3
  cases s with
  | inl s =>
    obtain ⟨j, rfl⟩ := e4
    obtain ⟨u, e4, e5⟩ := h2 s j v e2
    exact ⟨u, by show seqD _ _ _ = _; rw [seq_eq, e3']; exact e4, e5⟩
  | inr b =>
    cases e2
    have e4 : u = .rt (en b) := e4
    subst e4
    exact ⟨_, by show seqD _ _ _ = _; rw [seq_eq, e3']; rfl, h3 b⟩
/-! ### loops -/
def forS (pb : δ → σ → R σ) : List δ → σ → R σ
  | [], s => .ok s
  | x :: xs, s => pb x s >>= fun s => forS pb xs s
def forR (pb : δ → σ → R (σ ⊕ τ)) : List δ → σ → R (σ ⊕ τ)
  | [], s => .ok (.inl s)
  | x :: xs, s => pb x s >>= fun r => match r with
    | .inl s => forR pb xs s
    | .inr b => .ok (.inr b)
def whS (pt : σ → R Bool) (pb : σ → R σ) : Nat → σ → R σ
  | 0, _ => stk
  | n + 1, s => pt s >>= fun c => if c then pb s >>= fun s => whS pt pb n s else .ok s
def whR (pt : σ → R Bool) (pb : σ → R (σ ⊕ τ)) : Nat → σ → R (σ ⊕ τ)
  | 0, _ => stk
  | n + 1, s => pt s >>= fun c => if c then pb s >>= fun r => match r with
      | .inl s => whR pt pb n s
      | .inr b => .ok (.inr b)
    else .ok (.inl s)
theorem for_en {tg : D → Env' → R Env'} {pb : α → σ → R σ} (L : σ → (Nat → Option D) → Env') (hb : ∀ x s j, Jm (tg (en x) (L s j) >>= f) (pb x s) (WL L)) : ∀ (xs : List α) (s : σ) (j : Nat → Option D), Jm (forD tg f (xs.map en) (L s j)) (forS pb xs s) (WL L)
  | [], s, j => fun g e => by cases e; exact ⟨_, rfl, j, rfl⟩
  | x :: xs, s, j => fun g e => by
    obtain ⟨s', e1, e2⟩ := bind_ok (show (pb x s >>= fun s => forS pb xs s) = .ok g from e)
    obtain ⟨u, e3, j', rfl⟩ := hb x s j s' e1
    obtain ⟨u, e4, e5⟩ := for_en L hb xs s' j' g e2
    refine ⟨u, ?_, e5⟩
    rw [List.map_cons, for_is, e3, okb]
    exact e4
theorem for_enR {tg : D → Env' → R Env'} {pb : α → σ → R (σ ⊕ β)} (L : σ → (Nat → Option D) → Env') (hb : ∀ x s j, Jm (tg (en x) (L s j) >>= f) (pb x s) (WR L)) : ∀ (xs : List α) (s : σ) (j : Nat → Option D), Jm (forD tg f (xs.map en) (L s j)) (forR pb xs s) (WR L)
  | [], s, j => fun g e => by cases e; exact ⟨_, rfl, j, rfl⟩
  | x :: xs, s, j => fun g e => by
    unfold forR at e
    obtain ⟨r, e1, e2⟩ := bind_ok e
    obtain ⟨u, e3, e4⟩ := hb x s j r e1
    cases r with
    | inl s' =>
      obtain ⟨j', rfl⟩ := e4
      obtain ⟨u, e4, e5⟩ := for_enR L hb xs s' j' g e2
      refine ⟨u, ?_, e5⟩
      rw [List.map_cons, for_is, e3, okb]
      exact e4
    | inr b =>
      have e4 : u = .rt (en b) := e4
      subst e4
      cases e2
      exact ⟨_, by rw [List.map_cons, for_is, e3]; rfl, rfl⟩
theorem jm_for {fi : Env' → R (List D)} {tg : D → Env' → R Env'} {pb : α → σ → R σ} {xs : List α} {s0 : σ} (L : σ → (Nat → Option D) → Env') (hi : fi ρ = .ok (xs.map en)) (hb : ∀ x s j, Jm (tg (en x) (L s j) >>= f) (pb x s) (WL L)) (h0 : L s0 (jn ρ) = ρ := by rfl) :
    Jm (ap (fun ρ => fi ρ >>= fun ds => forD tg f ds ρ) ρ) (forS pb xs s0) (WL L) := by
  have := for_en L hb xs s0 (jn ρ)
  rw [h0] at this
  exact jm_o (by show (fi ρ >>= fun ds => _) = _; rw [hi]; rfl) this
theorem jm_forR {fi : Env' → R (List D)} {tg : D → Env' → R Env'} {pb : α → σ → R (σ ⊕ β)} {xs : List α} {s0 : σ} (L : σ → (Nat → Option D) → Env') (hi : fi ρ = .ok (xs.map en)) (hb : ∀ x s j, Jm (tg (en x) (L s j) >>= f) (pb x s) (WR L)) (h0 : L s0 (jn ρ) = ρ := by rfl) :
    Jm (ap (fun ρ => fi ρ >>= fun ds => forD tg f ds ρ) ρ) (forR pb xs s0) (WR L) := by
  have := for_enR L hb xs s0 (jn ρ)
  rw [h0] at this
  exact jm_o (by show (fi ρ >>= fun ds => _) = _; rw [hi]; rfl) this
theorem jm_go {x : α} {tg : D → Env' → R Env'} (ρ' : Env') (j : Jm (ap f ρ') p W) (e : tg (en x) ρ = .ok ρ' := by rfl) : Jm (tg (en x) ρ >>= f) p W := jm_o (by rw [e]; rfl) j
theorem wh_en {fw : Env' → R Bool} {pt : σ → R Bool} {pb : σ → R σ} (L : σ → (Nat → Option D) → Env') (ht : ∀ s j, Et (fw (L s j)) (pt s)) (hb : ∀ s j, Jm (f (L s j)) (pb s) (WL L)) : ∀ (n : Nat) (s : σ) (j : Nat → Option D), Jm (whileD fw f n (L s j)) (whS pt pb n s) (WL L)
  | 0, s, j => jm_stk
  | n + 1, s, j => fun g e => by
    obtain ⟨c, e1, e2⟩ := bind_ok (show (pt s >>= fun c => if c then pb s >>= fun s => whS pt pb n s else .ok s) = .ok g from e)
    rw [wh_is, ht s j c e1, okb]
    cases c with
    | false =>
      cases e2
      exact ⟨_, rfl, j, rfl⟩
    | true =>
      obtain ⟨s', e3, e4⟩ := bind_ok (show (pb s >>= fun s => whS pt pb n s) = .ok g from e2)
      obtain ⟨u, e5, j', rfl⟩ := hb s j s' e3
      obtain ⟨u, e6, e7⟩ := wh_en L ht hb n s' j' g e4
      refine ⟨u, ?_, e7⟩
      rw [if_pos rfl, e5, okb]
      exact e6
theorem wh_enR {fw : Env' → R Bool} {pt : σ → R Bool} {pb : σ → R (σ ⊕ β)} (L : σ → (Nat → Option D) → Env') (ht : ∀ s j, Et (fw (L s j)) (pt s)) (hb : ∀ s j, Jm (f (L s j)) (pb s) (WR L)) : ∀ (n : Nat) (s : σ) (j : Nat → Option D), Jm (whileD fw f n (L s j)) (whR pt pb n s) (WR L)
  | 0, s, j => jm_stk
  | n + 1, s, j => fun g e => by
    unfold whR at e
    obtain ⟨c, e1, e2⟩ := bind_ok e
    rw [wh_is, ht s j c e1, okb]
    cases c with
    | false =>
      cases e2
      exact ⟨_, rfl, j, rfl⟩
    | true =>
      rw [if_pos rfl] at e2
      obtain ⟨r, e3, e4⟩ := bind_ok e2
      obtain ⟨u, e5, e6⟩ := hb s j r e3
      cases r with
      | inl s' =>
        obtain ⟨j', rfl⟩ := e6
        obtain ⟨u, e6, e7⟩ := wh_enR L ht hb n s' j' g e4
        refine ⟨u, ?_, e7⟩
        rw [if_pos rfl, e5, okb]
        exact e6
      | inr b =>
        have e6 : u = .rt (en b) := e6
        subst e6
        cases e4
        exact ⟨_, by rw [if_pos rfl, e5]; rfl, rfl⟩
theorem jm_wh {fw : Env' → R Bool} {pt : σ → R Bool} {pb : σ → R σ} {n : Nat} {s0 : σ} (L : σ → (Nat → Option D) → Env') (ht : ∀ s j, Et (fw (L s j)) (pt s)) (hb : ∀ s j, Jm (ap f (L s j)) (pb s) (WL L)) (h0 : L s0 (jn ρ) = ρ := by rfl) : Jm (ap (whileD fw f n) ρ) (whS pt pb n s0) (WL L) := by
  have := wh_en L ht hb n s0 (jn ρ)
  rw [h0] at this
  exact this
theorem jm_whR {fw : Env' → R Bool} {pt : σ → R Bool} {pb : σ → R (σ ⊕ β)} {n : Nat} {s0 : σ} (L : σ → (Nat → Option D) → Env') (ht : ∀ s j, Et (fw (L s j)) (pt s)) (hb : ∀ s j, Jm (ap f (L s j)) (pb s) (WR L)) (h0 : L s0 (jn ρ) = ρ := by rfl) : Jm (ap (whileD fw f n) ρ) (whR pt pb n s0) (WR L) := by
  have := wh_enR L ht hb n s0 (jn ρ)
  rw [h0] at this
  exact this
/-- a def -/
theorem v_def {m : Env' → R Out} {n : Nat} {ds : List D} {fr : Bool} {p : R α} (ρ : Env') (j : Jm (ap m ρ) p (WT fr)) (e : arg0 n ds = ρ := by rfl) : Ev (noX (m (arg0 n ds)) >>= ret fr) p := fun v h => by
  obtain ⟨u, e1, e2⟩ := j v h
  have e1' : m ρ = _ := e1
  rw [e, e1']
  exact e2
end
end Vt

set_option Elab.async false
set_option linter.all false
set_option maxRecDepth 100000
namespace Vt
open PySem PySem.Spec PyProof.Rows L2 Vs
open En (en)
theorem i_bind {α γ : Type} [En α] {r : R (List D)} {m : R γ} {p : γ → R (List α)} (h : ∀ x, m = .ok x → Ei r (p x)) : Ei r (m >>= p) := fun v e => by
  obtain ⟨x, h1, h2⟩ := bind_ok e
  exact h x h1 v h2
theorem atR_ok {α : Type} {l : List α} {i : Int} (h0 : 0 ≤ i) (h1 : i < l.length) : ∃ a, a ∈ l ∧ atR l i = .ok a := by
  have h5 : i = (i.toNat : Int) := (Int.toNat_of_nonneg h0).symm
  have h6 : i.toNat < l.length := by omega
  refine ⟨l[i.toNat], List.getElem_mem h6, ?_⟩
  have h7 := L2.atI_nat (List.getElem?_eq_getElem h6)
  rw [← h5] at h7
  unfold atR
  rw [h7]
  rfl
/-! ### the shared defs of the laws -/
def pm_mix (draws_ : (List Int)) (k_ : Int) (many_ : Int) : R Int := .ok ((0 : Int) : Int) >>= fun cell_there__1 => (if decide ((0 : Int) < (draws_.length : Int)) then modG k_ (draws_.length : Int) >>= fun i_3 => atR draws_ i_3 >>= fun v_4 => .ok v_4 else .ok cell_there__1 : R Int) >>= fun s_5 => (if decide (k_ < (draws_.length : Int)) then modG s_5 many_ >>= fun i_8 => .ok i_8 else modG (((s_5 * (7919 : Int)) + (k_ * (104729 : Int))) / (3 : Int)) many_ >>= fun i_9 => .ok i_9)
theorem mixT {zs : List Int} {k many : Int} (hk : 0 ≤ k) (hm : 0 < many) : ∃ r : Int, 0 ≤ r ∧ r < many ∧ pm_mix zs k many = .ok r := by
  have key : ∀ v : Int, ∃ r : Int, 0 ≤ r ∧ r < many ∧ (if decide (k < (zs.length : Int)) then modG v many >>= fun i_8 => .ok i_8 else modG (((v * (7919 : Int)) + (k * (104729 : Int))) / (3 : Int)) many >>= fun i_9 => .ok i_9 : R Int) = .ok r := by
    intro v
    have hmod : ∀ v : Int, 0 ≤ v % many ∧ v % many < many := fun v => ⟨Int.emod_nonneg _ (by omega), Int.emod_lt_of_pos _ hm⟩
    by_cases h : k < (zs.length : Int)
    · exact ⟨v % many, (hmod _).1, (hmod _).2, by rw [decide_eq_true h, if_pos rfl]; unfold modG; rw [if_pos hm]; rfl⟩
    · exact ⟨((v * (7919 : Int)) + (k * (104729 : Int))) / (3 : Int) % many, (hmod _).1, (hmod _).2, by rw [decide_eq_false h, if_neg Bool.false_ne_true]; unfold modG; rw [if_pos hm]; rfl⟩
  unfold pm_mix
  rw [okb]
  by_cases hz : (0 : Int) < (zs.length : Int)
  · rw [decide_eq_true hz, if_pos rfl]
    have h1 : modG k (zs.length : Int) = .ok (k % zs.length) := by unfold modG; rw [if_pos hz]
    obtain ⟨v, _, hv⟩ := atR_ok (l := zs) (Int.emod_nonneg k (show (zs.length : Int) ≠ 0 by omega)) (Int.emod_lt_of_pos k hz)
    rw [h1, okb, hv, okb, okb]
    exact key v
  · rw [decide_eq_false hz, if_neg Bool.false_ne_true, okb]
    exact key 0

/-- a loop that goes on each time -/
theorem forR_inl {δ τ : Type} {pb : δ → Unit → R (Unit ⊕ τ)} : ∀ (xs : List δ), (∀ x ∈ xs, pb x () = .ok (.inl ())) → forR pb xs () = .ok (.inl ())
  | [], _ => rfl
  | x :: xs, h => by
    rw [forR, h x List.mem_cons_self]
    exact forR_inl xs fun x hx => h x (List.mem_cons_of_mem _ hx)
theorem mem_rgI {lo : Int} {n : Nat} {x : Int} (h : x ∈ rgI lo n) : lo ≤ x ∧ x < lo + n := by
  unfold rgI at h
  obtain ⟨i, hi, rfl⟩ := List.mem_map.mp h
  have := List.mem_range.mp hi
  omega
end Vt

set_option Elab.async false
set_option linter.all false
set_option maxRecDepth 100000
/-! Plain lemmas on the typed mirror's functions. -/
namespace Vt
open PySem PySem.Spec PyProof.Rows L2 Vs
open En (en)
section
variable {α β γ δ σ τ κ : Type}
theorem forS_app (f : δ → σ → R σ) : ∀ (l m : List δ) (s : σ), forS f (l ++ m) s = (forS f l s >>= fun s => forS f m s)
  | [], m, s => rfl
  | x :: l, m, s => by
    show (f x s >>= fun s => forS f (l ++ m) s) = ((f x s >>= fun s => forS f l s) >>= fun s => forS f m s)
    rw [bind_assoc]
    exact congrArg (f x s >>= ·) (funext fun s => forS_app f l m s)
theorem forS_no {f : δ → σ → R σ} {s : σ} : ∀ l : List δ, (∀ x ∈ l, f x s = .ok s) → forS f l s = .ok s
  | [], _ => rfl
  | x :: l, h => by
    rw [forS, h x List.mem_cons_self]
    exact forS_no l fun x hx => h x (List.mem_cons_of_mem _ hx)
/-- a loop with an invariant, by what is left -/
theorem forS_inv {f : δ → σ → R σ} (I : List δ → σ → Prop) : ∀ (l : List δ) (s : σ), I l s → (∀ x l s, I (x :: l) s → ∃ s', f x s = .ok s' ∧ I l s') → ∃ s', forS f l s = .ok s' ∧ I [] s'
  | [], s, h, _ => ⟨s, rfl, h⟩
  | x :: l, s, h, hs => by
    obtain ⟨s', h1, h2⟩ := hs x l s h
    obtain ⟨s2, h3, h4⟩ := forS_inv I l s' h2 hs
    exact ⟨s2, by rw [forS, h1]; exact h3, h4⟩
theorem forS_fold {f : δ → σ → R σ} {g : σ → δ → σ} : ∀ (l : List δ) (s : σ), (∀ x ∈ l, ∀ s, f x s = .ok (g s x)) → forS f l s = .ok (l.foldl g s)
  | [], s, _ => rfl
  | x :: l, s, h => by
    rw [forS, h x List.mem_cons_self]
    exact forS_fold l (g s x) fun x hx => h x (List.mem_cons_of_mem _ hx)
theorem mapR_ok {f : α → R β} {g : α → β} : ∀ l : List α, (∀ x ∈ l, f x = .ok (g x)) → mapR f l = .ok (l.map g)
  | [], _ => rfl
  | x :: l, h => by
    rw [mapR, h x List.mem_cons_self, okb, mapR_ok l fun x hx => h x (List.mem_cons_of_mem _ hx)]; rfl
theorem mapG_ok {f : α → R β} {g : α → β} {l : List α} (h : ∀ x ∈ l, f x = .ok (g x)) (hl : l.length ≤ 16777216) : mapG f l = .ok (l.map g) := by
  unfold mapG
  rw [if_pos hl, mapR_ok l h]
theorem filR_ok {t : α → R Bool} {b : α → Bool} {f : α → R β} {g : α → β} : ∀ l : List α, (∀ x ∈ l, t x = .ok (b x)) → (∀ x ∈ l, b x = true → f x = .ok (g x)) → filR t f l = .ok ((l.filter b).map g)
  | [], _, _ => rfl
  | x :: l, h, h2 => by
    have ih := filR_ok l (fun x hx => h x (List.mem_cons_of_mem _ hx)) (fun x hx => h2 x (List.mem_cons_of_mem _ hx))
    rw [filR, h x List.mem_cons_self, okb]
    cases e : b x with
    | true => rw [if_pos rfl, h2 x List.mem_cons_self e, okb, ih, List.filter_cons_of_pos e]; rfl
    | false => rw [if_neg Bool.false_ne_true, ih, List.filter_cons_of_neg (by rw [e]; exact Bool.false_ne_true)]
theorem filG_ok {t : α → R Bool} {b : α → Bool} {f : α → R β} {g : α → β} {l : List α} (h : ∀ x ∈ l, t x = .ok (b x)) (h2 : ∀ x ∈ l, b x = true → f x = .ok (g x)) (hl : l.length ≤ 16777216) : filG t f l = .ok ((l.filter b).map g) := by
  unfold filG
  rw [if_pos hl, filR_ok l h h2]
theorem atR_n {l : List α} {i : Int} (h0 : 0 ≤ i) (h1 : i < l.length) (d : α) : atR l i = .ok (l.getD i.toNat d) := by
  have h5 : i = (i.toNat : Int) := (Int.toNat_of_nonneg h0).symm
  have h6 : i.toNat < l.length := by omega
  have h7 := L2.atI_nat (List.getElem?_eq_getElem h6)
  rw [← h5] at h7
  unfold atR
  rw [h7]
  show (.ok _ : R α) = .ok (l[i.toNat]?.getD d)
  rw [List.getElem?_eq_getElem h6]; rfl
theorem atR_last (l : List α) (x : α) : atR (l ++ [x]) (-1) = .ok x := by
  unfold atR
  rw [L2.atI_last]; rfl
theorem atS_n {l : Tx} {i : Int} (h0 : 0 ≤ i) (h1 : i < l.length) (hl : l.length ≤ 16777216) (d : Ch) : atS l i = .ok [l.getD i.toNat d] := by
  unfold atS
  rw [if_pos hl]
  have := atR_n h0 h1 d
  unfold atR at this
  rw [this]; rfl
theorem lenS_ok {l : Tx} (hl : l.length ≤ 16777216) : lenS l = .ok (l.length : Int) := by
  unfold lenS
  rw [if_pos hl]
theorem apG_ok {l : List α} {x : α} (hl : l.length < 16777216) : apG l x = .ok (l ++ [x]) := by
  unfold apG
  rw [if_pos hl]
theorem addL_ok {l m : List α} (hl : l.length + m.length ≤ 16777216) : addL l m = .ok (l ++ m) := by
  unfold addL
  rw [if_pos hl]
theorem lstG_ok {l : List α} (hl : l.length ≤ 16777216) : lstG l = .ok l := by
  unfold lstG
  rw [if_pos hl]
/-! ranges -/
theorem rgI_len (lo : Int) (n : Nat) : (rgI lo n).length = n := by unfold rgI; rw [List.length_map, List.length_range]
theorem rgI_0 (lo : Int) : rgI lo 0 = [] := rfl
theorem rgI_succ (lo : Int) (n : Nat) : rgI lo (n + 1) = lo :: rgI (lo + 1) n := by
  unfold rgI
  rw [List.range_succ_eq_map, List.map_cons, List.map_map]
  congr 1
  · simp
  · refine List.map_congr_left fun i _ => ?_
    show lo + ((i + 1 : Nat) : Int) = lo + 1 + i
    omega
theorem rgI_app (lo : Int) (n m : Nat) : rgI lo (n + m) = rgI lo n ++ rgI (lo + n) m := by
  induction n generalizing lo with
  | zero => rw [Nat.zero_add, rgI_0]; show _ = rgI (lo + 0) m; rw [Int.add_zero]
  | succ n ih =>
    rw [show n + 1 + m = (n + m) + 1 by omega, rgI_succ, ih, rgI_succ]
    rw [show lo + 1 + (n : Int) = lo + ((n + 1 : Nat) : Int) by omega]; rfl
theorem rgI_snoc (lo : Int) (n : Nat) : rgI lo (n + 1) = rgI lo n ++ [lo + n] := by
  rw [rgI_app, rgI_succ, rgI_0]
theorem mem_rgI_iff {lo : Int} {n : Nat} {x : Int} : x ∈ rgI lo n ↔ lo ≤ x ∧ x < lo + n := by
  refine ⟨mem_rgI, fun ⟨h1, h2⟩ => ?_⟩
  unfold rgI
  exact List.mem_map.mpr ⟨(x - lo).toNat, List.mem_range.mpr (by omega), by omega⟩
theorem rgR1_ok {n : Int} (h : n.natAbs < 4611686018427387904) : rgR1 n = .ok (rgI 0 n.toNat) := by
  unfold rgR1
  rw [if_pos h]
theorem rgR2_ok {m n : Int} (h : m.natAbs < 4611686018427387904) (h2 : n.natAbs < 4611686018427387904) : rgR2 m n = .ok (rgI m (n - m).toNat) := by
  unfold rgR2
  rw [if_pos ⟨h, h2⟩]
theorem lrR_ok {n : Int} (h : n.natAbs < 16777216) : lrR 0 n = .ok (rgI 0 n.toNat) := by
  unfold lrR
  rw [if_pos ⟨by decide, by omega, by omega⟩, Int.sub_zero]
theorem rgI_get (lo : Int) (n i : Nat) (h : i < n) : (rgI lo n)[i]? = some (lo + i) := by
  unfold rgI
  rw [List.getElem?_map, List.getElem?_range h]; rfl
/-- a list by its places -/
theorem map_rg_get (l : List α) (d : α) : (rgI 0 l.length).map (fun i => l.getD i.toNat d) = l := by
  apply List.ext_getElem?
  intro i
  rw [List.getElem?_map]
  by_cases h : i < l.length
  · rw [rgI_get 0 _ _ h]
    show some (l.getD ((0 : Int) + (i : Int)).toNat d) = _
    rw [show ((0 : Int) + (i : Int)).toNat = i by omega, List.getElem?_eq_getElem h]
    show some (l[i]?.getD d) = _
    rw [List.getElem?_eq_getElem h]; rfl
  · rw [List.getElem?_eq_none (by rw [rgI_len]; omega : (rgI 0 l.length).length ≤ i), List.getElem?_eq_none (by omega : l.length ≤ i)]; rfl
/-! dicts -/
theorem dcF_nil [DecidableEq κ] (k : κ) : dcF (⟨[]⟩ : Dc κ α) k = none := rfl
theorem dcG_of [DecidableEq κ] {d : Dc κ α} {k : κ} {v : α} (h : dcF d k = some v) : dcG d k = .ok v := by
  unfold dcG
  rw [h]; rfl
theorem dcF_cons [DecidableEq κ] (p : κ × α) (l : List (κ × α)) (k : κ) : dcF (⟨p :: l⟩ : Dc κ α) k = if p.1 = k then some p.2 else dcF ⟨l⟩ k := by
  unfold dcF
  show ((p :: l).find? _).map _ = _
  rw [List.find?_cons]
  by_cases h : p.1 = k
  · rw [decide_eq_true h, if_pos h]; rfl
  · rw [decide_eq_false h, if_neg h]
theorem any_dcF [DecidableEq κ] (l : List (κ × α)) (k : κ) : (l.any fun p => decide (p.1 = k)) = (dcF (⟨l⟩ : Dc κ α) k).isSome := by
  induction l with
  | nil => rfl
  | cons p l ih =>
    rw [dcF_cons, List.any_cons, ih]
    by_cases h : p.1 = k
    · rw [decide_eq_true h, if_pos h]; rfl
    · rw [decide_eq_false h, if_neg h]; rfl
theorem dcP_new [DecidableEq κ] {d : Dc κ α} {k : κ} {v : α} (h : dcF d k = none) : dcP d k v = ⟨d.l ++ [(k, v)]⟩ := by
  unfold dcP
  rw [any_dcF, show (⟨d.l⟩ : Dc κ α) = d from rfl, h]; rfl
theorem dcF_app [DecidableEq κ] (l m : List (κ × α)) (k : κ) : dcF (⟨l ++ m⟩ : Dc κ α) k = (dcF ⟨l⟩ k).or (dcF ⟨m⟩ k) := by
  induction l with
  | nil => rfl
  | cons p l ih =>
    rw [List.cons_append, dcF_cons, dcF_cons, ih]
    by_cases h : p.1 = k
    · rw [if_pos h, if_pos h]; rfl
    · rw [if_neg h, if_neg h]
theorem dcF_none [DecidableEq κ] {l : List (κ × α)} {k : κ} : dcF (⟨l⟩ : Dc κ α) k = none ↔ ∀ p ∈ l, p.1 ≠ k := by
  induction l with
  | nil => exact ⟨fun _ _ h => (nomatch h), fun _ => rfl⟩
  | cons p l ih =>
    rw [dcF_cons]
    by_cases h : p.1 = k
    · rw [if_pos h]
      exact ⟨fun e => (nomatch e), fun e => absurd h (e p List.mem_cons_self)⟩
    · rw [if_neg h, ih]
      exact ⟨fun e q hq => (List.mem_cons.mp hq).elim (fun e => e ▸ h) (e q), fun e q hq => e q (List.mem_cons_of_mem _ hq)⟩
theorem dpG_ok [DecidableEq κ] {d : Dc κ α} {k : κ} {v : α} (h : d.l.length < 16777216) : dpG d k v = .ok (dcP d k v) := by
  unfold dpG
  rw [if_pos h]
theorem lenDc_ok {d : Dc κ α} (h : d.l.length ≤ 16777216) : lenDc d = .ok (d.l.length : Int) := by
  unfold lenDc
  rw [if_pos h]
/-! how many there can be -/
theorem nodup_lt : ∀ (n : Nat) (l : List Nat), l.Nodup → (∀ x ∈ l, x < n) → l.length ≤ n
  | 0, l, _, h => by
    cases l with
    | nil => exact Nat.le_refl _
    | cons x l => exact absurd (h x List.mem_cons_self) (by omega)
  | n + 1, l, hn, h => by
    have h1 : (l.filter (· ≠ n)).length ≤ n := nodup_lt n _ (hn.filter _) fun x hx => by
      obtain ⟨h2, h3⟩ := List.mem_filter.mp hx
      have := h x h2
      have h4 : x ≠ n := of_decide_eq_true h3
      omega
    have h2 : l.length ≤ (l.filter (· ≠ n)).length + 1 := by
      clear h1 h
      induction l with
      | nil => exact Nat.zero_le _
      | cons x l ih =>
        obtain ⟨h3, h4⟩ := List.nodup_cons.mp hn
        by_cases e : x = n
        · subst e
          have h5 : l.filter (· ≠ x) = l := List.filter_eq_self.mpr fun y hy => decide_eq_true fun e => h3 (e ▸ hy)
          rw [List.filter_cons_of_neg (by simp), h5]
          exact Nat.le_refl _
        · rw [List.filter_cons_of_pos (by simpa using e), List.length_cons, List.length_cons]
          have := ih h4
          omega
    omega
end
end Vt

set_option Elab.async false
set_option linter.all false
set_option maxRecDepth 100000
/-! The typed mirror: repr; or by truth; defs whose typed answer is read off their meaning. -/
namespace Vt
open PySem PySem.Spec PyProof.Rows L2 Vs
open En (en)
/-- what repr tells -/
structure Rs where
  s : Str
deriving DecidableEq
instance : En Rs := ⟨fun r => .str r.s⟩
def rprG (d : D) : R Rs := match reprD [d] with
  | .ok (.str s) => .ok ⟨s⟩
  | _ => stk
variable {α β γ : Type} [En α] [En β] [En γ] {A B : R D} {L : R (List D)} {p : R α}
theorem v_repr {d : D} (h : L = .ok [d]) : Ev (L >>= reprD) (rprG d) := fun v e => by
  subst h
  unfold rprG at e
  show reprD [d] = _
  split at e
  · rename_i s hs
    cases e
    rw [hs]; rfl
  · cases e
theorem e_neZ {a b : Rs} (h : A = .ok (en a)) (h2 : B = .ok (en b)) : (A >>= fun x => B >>= fun y => neD x y) = .ok (en (!decide (a = b))) := by
  subst h h2
  have : decide (a = b) = decide (a.s = b.s) := by
    obtain ⟨x⟩ := a
    obtain ⟨y⟩ := b
    exact decide_eq_decide.mpr ⟨fun h => by injection h, fun h => by rw [show x = y from h]⟩
  rw [this]
  rfl
theorem ev_orO {x : Option (α × β)} {p : R (Option (α × β))} (h : A = .ok (en x)) (h2 : Ev B p) : Ev (A >>= fun d => truD d >>= fun k => if k then .ok d else B) (if x.isSome then .ok x else p) := by
  subst h
  cases x with
  | none => exact h2
  | some a => exact ev_ok rfl
def cntT (l x : Tx) : Int := Txt.count (tx (l.map Fin.val)) (tx (x.map Fin.val))
theorem e_cnt {l x : Tx} (h : A = .ok (en l)) (h2 : B = .ok (en x)) : (A >>= fun x => asStr x >>= fun _ => B >>= fun y => countD x y) = .ok (en (cntT l x)) := by
  subst h h2
  rfl
def un2L {α : Type} : List α → R (α × α)
  | [a, b] => .ok (a, b)
  | _ => stk
theorem e_un2L {y : List α} {z : α × α} (h : A = .ok (en y)) (hz : un2L y = .ok z) : A = .ok (en [z.1, z.2]) := by
  rw [h]
  unfold un2L at hz
  split at hz
  · cases hz; rfl
  · cases hz
/-- a typed answer read off -/
def asTx (s : Str) : Option Tx :=
  let l := s.cps.toList.map fun c => if h : c < 128 then (⟨c, h⟩ : Ch) else 0
  if tx (l.map Fin.val) = s then some l else none
def decO : R D → R (Option (Tx × Int))
  | .ok .none => .ok none
  | .ok (.tuple [.str s, .int i]) => match asTx s with
    | some l => .ok (some (l, i))
    | none => stk
  | _ => stk
theorem ev_dec (r : R D) : Ev r (decO r) := fun v e => by
  unfold decO at e
  split at e
  · cases e; rfl
  · rename_i s i
    unfold asTx at e
    simp only at e
    split at e
    · rename_i l hl
      split at hl
      · rename_i hs
        cases hl
        cases e
        show (.ok (.tuple [.str s, .int i]) : R D) = .ok (.tuple [.str (tx _), .int i])
        rw [hs]
      · cases hl
    · cases e
  · cases e
theorem asTx_tx (l : Tx) : asTx (tx (l.map Fin.val)) = some l := by
  have e : (tx (l.map Fin.val)).cps.toList = l.map Fin.val := by unfold tx; simp
  have e2 : ((l.map Fin.val).map fun c => if h : c < 128 then (⟨c, h⟩ : Ch) else 0) = l := by
    rw [List.map_map]
    conv => rhs; rw [← List.map_id l]
    exact List.map_congr_left fun c _ => by
      show (if h : c.val < 128 then (⟨c.val, h⟩ : Ch) else 0) = c
      rw [dif_pos c.isLt]
  unfold asTx
  simp only
  rw [e, e2, if_pos rfl]
theorem dec_en (o : Option (Tx × Int)) : decO (.ok (en o)) = .ok o := by
  cases o with
  | none => rfl
  | some p =>
    obtain ⟨l, i⟩ := p
    show (match asTx (tx (l.map Fin.val)) with
      | some l => (.ok (some (l, i)) : R (Option (Tx × Int)))
      | none => (stk : R (Option (Tx × Int)))) = _
    rw [asTx_tx]
end Vt

set_option Elab.async false
set_option linter.all false
set_option maxRecDepth 100000
namespace Gk51
open PySem PySem.Spec PyProof.Rows L2 Vs

def kv_FREE : D := (.str (tx [46]))
def kv_MOST_CHASERS : D := (.int 2)
def kv_MOST_FREE : D := (.int 16)
def kv_MOST_MOVES : D := (.int 100)
def kv_MOST_SIDE : D := (.int 8)
def kv_MOVES_grids : D := (.dict [((.str (tx [117])), (.tuple [(.int (-1)), (.int 0)])), ((.str (tx [100])), (.tuple [(.int 1), (.int 0)])), ((.str (tx [108])), (.tuple [(.int 0), (.int (-1))])), ((.str (tx [114])), (.tuple [(.int 0), (.int 1)]))])
def kv_MOVES_ticks : D := (.str (tx [100, 108, 114, 115, 117]))
def kv_RULES : D := (.tuple [(.str (tx [110, 101, 97, 114])), (.str (tx [114, 111, 119])), (.str (tx [119, 97, 105, 116]))])
def kv_SIGNS : D := (.str (tx [35, 46]))
def kv_STAY : D := (.str (tx [115]))
def m_check_grid_c0 : Env' → R D := compD [4] (fun ρ => (gv ρ 3 >>= itS)) (tgN 4) (fun ρ => .ok true) (fun ρ => (gv ρ 4 >>= fun x => gv ρ 1 >>= fun y => inD x y))
def m_check_grid_b0 : Env' → R Out := fun ρ => (((chD (fun i j => decide (i ≤ j)) (fun i j => decide (i ≤ j)) (fun ρ => .ok (.int 1)) (fun ρ => ((gv ρ 3 >>= fun x => .ok [] >>= fun xs => .ok (x :: xs)) >>= lenD)) (fun ρ => .ok kv_MOST_SIDE) ρ >>= asB) >>= fun c => .ok (!c)) >>= fun c => if c then .ok true else (((((gv ρ 3 >>= fun x => .ok [] >>= fun xs => .ok (x :: xs)) >>= lenD) >>= fun x => (((gv ρ 0 >>= fun x => .ok (.int 0) >>= fun y => ixD x y) >>= fun x => .ok [] >>= fun xs => .ok (x :: xs)) >>= lenD) >>= fun y => neD x y) >>= asB) >>= fun c => if c then .ok true else ((((m_check_grid_c0 ρ >>= fun x => .ok [] >>= fun xs => .ok (x :: xs)) >>= allD) >>= asB) >>= fun c => .ok (!c)))) >>= fun k => if k then (fun ρ => gv ρ 2 >>= fun d => excD 2 d) ρ else (fun ρ => .ok (.nx ρ)) ρ
def m_check_grid : Env' → R Out := seqD (fun ρ => ((chD (fun i j => decide (i ≤ j)) (fun i j => decide (i ≤ j)) (fun ρ => .ok (.int 1)) (fun ρ => ((gv ρ 0 >>= fun x => .ok [] >>= fun xs => .ok (x :: xs)) >>= lenD)) (fun ρ => .ok kv_MOST_SIDE) ρ >>= asB) >>= fun c => .ok (!c)) >>= fun k => if k then (fun ρ => ((gv ρ 0 >>= fun x => .ok [] >>= fun xs => .ok (x :: xs)) >>= lenD) >>= fun d => excD 1 d) ρ else (fun ρ => .ok (.nx ρ)) ρ) (fun ρ => ((gv ρ 0 >>= fun x => .ok [] >>= fun xs => .ok (x :: xs)) >>= en1) >>= fun ds => forD (unT 2 (tsC (tgN 2) (tsC (tgN 3) tsN))) m_check_grid_b0 ds ρ)
def f_check_grid : List D → R D := fun ds => m_check_grid (arg0 5 ds) >>= ret false
def m_cells_of_c0 : Env' → R D := compD2 [1, 2] [2] (fun ρ => ((((gv ρ 0 >>= fun x => .ok [] >>= fun xs => .ok (x :: xs)) >>= lenD) >>= fun x => .ok [] >>= fun xs => .ok (x :: xs)) >>= rg1)) (tgN 1) (fun ρ => .ok true) (fun ρ => (((((gv ρ 0 >>= fun x => .ok (.int 0) >>= fun y => ixD x y) >>= fun x => .ok [] >>= fun xs => .ok (x :: xs)) >>= lenD) >>= fun x => .ok [] >>= fun xs => .ok (x :: xs)) >>= rg1)) (tgN 2) (fun ρ => .ok true) (fun ρ => ((gv ρ 1 >>= fun x => (gv ρ 2 >>= fun x => .ok [] >>= fun xs => .ok (x :: xs)) >>= fun xs => .ok (x :: xs)) >>= fun xs => lenOk xs.length >>= fun _ => .ok (.tuple xs)))
def m_cells_of : Env' → R Out := fun ρ => m_cells_of_c0 ρ >>= fun d => .ok (.rt d)
def f_cells_of : List D → R D := fun ds => noX (m_cells_of (arg0 3 ds)) >>= ret true
def m_is_cell : Env' → R Out := fun ρ => ((chD (fun i j => decide (i ≤ j)) (fun i j => decide (i < j)) (fun ρ => .ok (.int 0)) (fun ρ => (gv ρ 1 >>= fun x => .ok (.int 0) >>= fun y => ixD x y)) (fun ρ => ((gv ρ 0 >>= fun x => .ok [] >>= fun xs => .ok (x :: xs)) >>= lenD)) ρ >>= asB) >>= fun c => if c then chD (fun i j => decide (i ≤ j)) (fun i j => decide (i < j)) (fun ρ => .ok (.int 0)) (fun ρ => (gv ρ 1 >>= fun x => .ok (.int 1) >>= fun y => ixD x y)) (fun ρ => (((gv ρ 0 >>= fun x => .ok (.int 0) >>= fun y => ixD x y) >>= fun x => .ok [] >>= fun xs => .ok (x :: xs)) >>= lenD)) ρ else .ok (.bool false)) >>= fun d => .ok (.rt d)
def f_is_cell : List D → R D := fun ds => noX (m_is_cell (arg0 2 ds)) >>= ret false
def m_sign_at : Env' → R Out := fun ρ => ((gv ρ 0 >>= fun x => (gv ρ 1 >>= fun x => .ok (.int 0) >>= fun y => ixD x y) >>= fun y => ixD x y) >>= fun x => (gv ρ 1 >>= fun x => .ok (.int 1) >>= fun y => ixD x y) >>= fun y => ixD x y) >>= fun d => .ok (.rt d)
def f_sign_at : List D → R D := fun ds => noX (m_sign_at (arg0 2 ds)) >>= ret false
def m_moved : Env' → R Out := seqD (fun ρ => (.ok kv_MOVES_grids >>= fun x => gv ρ 1 >>= fun y => ixE x y) >>= fun d => (unT 2 (tsC (tgN 2) (tsC (tgN 3) tsN))) d ρ >>= fun ρ' => .ok (.nx ρ')) (fun ρ => ((((gv ρ 0 >>= fun x => .ok (.int 0) >>= fun y => ixD x y) >>= fun x => gv ρ 2 >>= fun y => addD x y) >>= fun x => (((gv ρ 0 >>= fun x => .ok (.int 1) >>= fun y => ixD x y) >>= fun x => gv ρ 3 >>= fun y => addD x y) >>= fun x => .ok [] >>= fun xs => .ok (x :: xs)) >>= fun xs => .ok (x :: xs)) >>= fun xs => lenOk xs.length >>= fun _ => .ok (.tuple xs)) >>= fun d => .ok (.rt d))
def f_moved : List D → R D := fun ds => noX (m_moved (arg0 4 ds)) >>= ret false
def m_gap : Env' → R Out := fun ρ => (((((gv ρ 0 >>= fun x => .ok (.int 0) >>= fun y => ixD x y) >>= fun x => (gv ρ 1 >>= fun x => .ok (.int 0) >>= fun y => ixD x y) >>= fun y => subI x y) >>= fun x => .ok [] >>= fun xs => .ok (x :: xs)) >>= absD) >>= fun x => ((((gv ρ 0 >>= fun x => .ok (.int 1) >>= fun y => ixD x y) >>= fun x => (gv ρ 1 >>= fun x => .ok (.int 1) >>= fun y => ixD x y) >>= fun y => subI x y) >>= fun x => .ok [] >>= fun xs => .ok (x :: xs)) >>= absD) >>= fun y => addD x y) >>= fun d => .ok (.rt d)
def f_gap : List D → R D := fun ds => noX (m_gap (arg0 2 ds)) >>= ret false
def m_key_of_c0 : Env' → R D := compD [1] (fun ρ => ((gv ρ 0 >>= fun x => .ok (.int 1) >>= fun y => ixD x y) >>= itL)) (tgN 1) (fun ρ => .ok true) (fun ρ => ((gv ρ 1 >>= fun x => .ok [] >>= fun xs => .ok (x :: xs)) >>= tupleD))
def m_key_of : Env' → R Out := fun ρ => (((((gv ρ 0 >>= fun x => .ok (.int 0) >>= fun y => ixD x y) >>= fun x => .ok [] >>= fun xs => .ok (x :: xs)) >>= tupleD) >>= fun x => (((m_key_of_c0 ρ >>= fun x => .ok [] >>= fun xs => .ok (x :: xs)) >>= tupleD) >>= fun x => .ok [] >>= fun xs => .ok (x :: xs)) >>= fun xs => .ok (x :: xs)) >>= fun xs => lenOk xs.length >>= fun _ => .ok (.tuple xs)) >>= fun d => .ok (.rt d)
def f_key_of : List D → R D := fun ds => noX (m_key_of (arg0 2 ds)) >>= ret false
def m_lengths_of_c0 : Env' → R D := compD [6, 7] (fun ρ => ((gv ρ 0 >>= fun x => gv ρ 5 >>= fun y => ixE x y) >>= itL)) (unT 2 (tsC (tgN 6) (tsC (tgN 7) tsN))) (fun ρ => .ok true) (fun ρ => (gv ρ 7 >>= fun x => gv ρ 1 >>= fun y => inE x y))
def m_lengths_of_c1 : Env' → R D := compD [5] (fun ρ => (gv ρ 0 >>= itK)) (tgN 5) (fun ρ => (((gv ρ 5 >>= fun x => gv ρ 1 >>= fun y => ninE x y) >>= asB) >>= fun c => if c then (((m_lengths_of_c0 ρ >>= fun x => .ok [] >>= fun xs => .ok (x :: xs)) >>= allD) >>= asB) else .ok false)) (fun ρ => gv ρ 5)
def m_lengths_of_b0 : Env' → R Out := fun ρ => gv ρ 2 >>= fun v => gk ρ 1 >>= fun kvs => gv ρ 5 >>= fun k => dpD 1 kvs k v ρ
def m_lengths_of_t0 : Env' → R Bool := fun ρ => (gv ρ 3 >>= asB)
def m_lengths_of_b1 : Env' → R Out := seqD (fun ρ => m_lengths_of_c1 ρ >>= fun d => setD 4 d ρ) (seqD (fun ρ => (gv ρ 4 >>= itL) >>= fun ds => forD (tgN 5) m_lengths_of_b0 ds ρ) (seqD (fun ρ => (gv ρ 2 >>= fun x => .ok (.int 1) >>= fun y => addD x y) >>= fun d => setD 2 d ρ) (fun ρ => (((gv ρ 4 >>= fun x => .ok [] >>= fun xs => .ok (x :: xs)) >>= lenD) >>= fun x => .ok (.int 0) >>= fun y => gtD x y) >>= fun d => setD 3 d ρ)))
def m_lengths_of : Env' → R Out := seqD (fun ρ => (.ok (.dict [])) >>= fun d => setD 1 d ρ) (seqD (fun ρ => .ok (.int 0) >>= fun d => setD 2 d ρ) (seqD (fun ρ => .ok (.bool true) >>= fun d => setD 3 d ρ) (seqD (whileD m_lengths_of_t0 m_lengths_of_b1 FU) (fun ρ => gv ρ 1 >>= fun d => .ok (.rt d)))))
def f_lengths_of : List D → R D := fun ds => noX (m_lengths_of (arg0 8 ds)) >>= ret true
def m__law_draws_b0 : Env' → R Out := fun ρ => ((gv ρ 3 >>= fun x => .ok (.int 0) >>= fun y => gtD x y) >>= asB) >>= fun k => if k then (seqD (fun ρ => gl ρ 1 >>= fun xs => (((gv ρ 3 >>= fun x => .ok [] >>= fun xs => .ok (x :: xs)) >>= intD) >>= fun x => .ok (.int 65536) >>= fun y => modI x y) >>= fun d => apD 1 xs d ρ) (fun ρ => (gv ρ 3 >>= fun x => .ok (.int 65536) >>= fun y => fdivI x y) >>= fun d => setD 3 d ρ)) ρ else (fun ρ => .ok (.nx ρ)) ρ
def m__law_draws_b1 : Env' → R Out := seqD (fun ρ => (((gv ρ 0 >>= fun x => gv ρ 2 >>= fun y => ixD x y) >>= fun x => .ok [] >>= fun xs => .ok (x :: xs)) >>= absD) >>= fun d => setD 3 d ρ) (fun ρ => ((gv ρ 3 >>= fun x => (.ok (.int 10) >>= fun x => .ok (.int 18) >>= fun y => powI x y) >>= fun y => geD x y) >>= asB) >>= fun k => if k then (fun ρ => ((.ok (.int 60) >>= fun x => .ok [] >>= fun xs => .ok (x :: xs)) >>= rg1) >>= fun ds => forD (tgN 4) m__law_draws_b0 ds ρ) ρ else (seqD (fun ρ => (((((gv ρ 3 >>= fun x => .ok (.int 48271) >>= fun y => mulD x y) >>= fun x => ((gv ρ 2 >>= fun x => .ok (.int 1) >>= fun y => addD x y) >>= fun x => .ok (.int 69621) >>= fun y => mulD x y) >>= fun y => addD x y) >>= fun x => .ok [] >>= fun xs => .ok (x :: xs)) >>= intD) >>= fun x => .ok (.int 2147483647) >>= fun y => modI x y) >>= fun d => setD 5 d ρ) (seqD (fun ρ => ((((((gv ρ 5 >>= fun x => .ok (.int 16807) >>= fun y => mulD x y) >>= fun x => (.ok (.int 11) >>= fun x => gv ρ 2 >>= fun y => mulD x y) >>= fun y => addD x y) >>= fun x => .ok (.int 5) >>= fun y => addD x y) >>= fun x => .ok [] >>= fun xs => .ok (x :: xs)) >>= intD) >>= fun x => .ok (.int 2147483629) >>= fun y => modI x y) >>= fun d => setD 5 d ρ) (seqD (fun ρ => gl ρ 1 >>= fun xs => (((gv ρ 5 >>= fun x => .ok [] >>= fun xs => .ok (x :: xs)) >>= intD) >>= fun x => .ok (.int 65536) >>= fun y => modI x y) >>= fun d => apD 1 xs d ρ) (fun ρ => gl ρ 1 >>= fun xs => ((((gv ρ 5 >>= fun x => .ok (.int 65536) >>= fun y => fdivI x y) >>= fun x => .ok [] >>= fun xs => .ok (x :: xs)) >>= intD) >>= fun x => .ok (.int 32768) >>= fun y => modI x y) >>= fun d => apD 1 xs d ρ)))) ρ)
def m__law_draws : Env' → R Out := seqD (fun ρ => (.ok [] >>= fun xs => lenOk xs.length >>= fun _ => .ok (.list xs)) >>= fun d => setD 1 d ρ) (seqD (fun ρ => ((((.ok (.int 63) >>= fun x => (((gv ρ 0 >>= fun x => .ok [] >>= fun xs => .ok (x :: xs)) >>= lenD) >>= fun x => .ok [] >>= fun xs => .ok (x :: xs)) >>= fun xs => .ok (x :: xs)) >>= min2D) >>= fun x => .ok [] >>= fun xs => .ok (x :: xs)) >>= rg1) >>= fun ds => forD (tgN 2) m__law_draws_b1 ds ρ) (fun ρ => gv ρ 1 >>= fun d => .ok (.rt d)))
def f__law_draws : List D → R D := fun ds => noX (m__law_draws (arg0 6 ds)) >>= ret true
def m__law_mix : Env' → R Out := seqD (fun ρ => .ok (.int 0) >>= fun d => setD 3 d ρ) (seqD (fun ρ => ((((gv ρ 0 >>= fun x => .ok [] >>= fun xs => .ok (x :: xs)) >>= lenD) >>= fun x => .ok (.int 0) >>= fun y => gtD x y) >>= asB) >>= fun k => if k then (fun ρ => (gv ρ 0 >>= fun x => (((gv ρ 1 >>= fun x => .ok [] >>= fun xs => .ok (x :: xs)) >>= intD) >>= fun x => ((gv ρ 0 >>= fun x => .ok [] >>= fun xs => .ok (x :: xs)) >>= lenD) >>= fun y => modI x y) >>= fun y => ixD x y) >>= fun d => setD 3 d ρ) ρ else (fun ρ => .ok (.nx ρ)) ρ) (seqD (fun ρ => ((gv ρ 1 >>= fun x => ((gv ρ 0 >>= fun x => .ok [] >>= fun xs => .ok (x :: xs)) >>= lenD) >>= fun y => ltD x y) >>= asB) >>= fun k => if k then (fun ρ => (((gv ρ 3 >>= fun x => .ok [] >>= fun xs => .ok (x :: xs)) >>= intD) >>= fun x => gv ρ 2 >>= fun y => modI x y) >>= fun d => .ok (.rt d)) ρ else (fun ρ => .ok (.nx ρ)) ρ) (fun ρ => ((((((((gv ρ 3 >>= fun x => .ok (.int 7919) >>= fun y => mulD x y) >>= fun x => (gv ρ 1 >>= fun x => .ok (.int 104729) >>= fun y => mulD x y) >>= fun y => addD x y) >>= fun x => .ok [] >>= fun xs => .ok (x :: xs)) >>= intD) >>= fun x => .ok (.int 3) >>= fun y => fdivI x y) >>= fun x => .ok [] >>= fun xs => .ok (x :: xs)) >>= intD) >>= fun x => gv ρ 2 >>= fun y => modI x y) >>= fun d => .ok (.rt d))))
def f__law_mix : List D → R D := fun ds => noX (m__law_mix (arg0 4 ds)) >>= ret false
def m__law_name_c0 : Env' → R D := compD [2, 3] (fun ρ => (gv ρ 1 >>= itL)) (unT 2 (tsC (tgN 2) (tsC (tgN 3) tsN))) (fun ρ => (gv ρ 3 >>= asB)) (fun ρ => gv ρ 2)
def m__law_name (c : Nat) (a dd : Addr) : Env' → R Out := fun ρ => onlyP (decide (c < 6)) ((seqD (fun ρ => ((((.ok (.str (tx [109, 111, 118, 101])) >>= fun x => ((gv ρ 0 >>= isE a dd (decide (c = 3))) >>= fun x => .ok [] >>= fun xs => .ok (x :: xs)) >>= fun xs => .ok (x :: xs)) >>= fun xs => lenOk xs.length >>= fun _ => .ok (.tuple xs)) >>= fun x => (((.ok (.str (tx [114, 111, 119])) >>= fun x => ((gv ρ 0 >>= isE a dd (decide (c = 2))) >>= fun x => .ok [] >>= fun xs => .ok (x :: xs)) >>= fun xs => .ok (x :: xs)) >>= fun xs => lenOk xs.length >>= fun _ => .ok (.tuple xs)) >>= fun x => (((.ok (.str (tx [114, 117, 108, 101])) >>= fun x => ((gv ρ 0 >>= isE a dd (decide (c = 4))) >>= fun x => .ok [] >>= fun xs => .ok (x :: xs)) >>= fun xs => .ok (x :: xs)) >>= fun xs => lenOk xs.length >>= fun _ => .ok (.tuple xs)) >>= fun x => (((.ok (.str (tx [115, 116, 97, 116, 101])) >>= fun x => ((gv ρ 0 >>= isE a dd (decide (c = 5))) >>= fun x => .ok [] >>= fun xs => .ok (x :: xs)) >>= fun xs => .ok (x :: xs)) >>= fun xs => lenOk xs.length >>= fun _ => .ok (.tuple xs)) >>= fun x => .ok [] >>= fun xs => .ok (x :: xs)) >>= fun xs => .ok (x :: xs)) >>= fun xs => .ok (x :: xs)) >>= fun xs => .ok (x :: xs)) >>= fun xs => lenOk xs.length >>= fun _ => .ok (.list xs)) >>= fun d => setD 1 d ρ) (seqD (fun ρ => (gv ρ 1 >>= fun x => ((((.ok (.str (tx [109, 97, 110, 121])) >>= fun x => ((gv ρ 0 >>= isE a dd (decide (c = 0))) >>= fun x => .ok [] >>= fun xs => .ok (x :: xs)) >>= fun xs => .ok (x :: xs)) >>= fun xs => lenOk xs.length >>= fun _ => .ok (.tuple xs)) >>= fun x => (((.ok (.str (tx [115, 105, 122, 101])) >>= fun x => ((gv ρ 0 >>= isE a dd (decide (c = 1))) >>= fun x => .ok [] >>= fun xs => .ok (x :: xs)) >>= fun xs => .ok (x :: xs)) >>= fun xs => lenOk xs.length >>= fun _ => .ok (.tuple xs)) >>= fun x => .ok [] >>= fun xs => .ok (x :: xs)) >>= fun xs => .ok (x :: xs)) >>= fun xs => lenOk xs.length >>= fun _ => .ok (.list xs)) >>= fun y => addD x y) >>= fun d => setD 1 d ρ) (fun ρ => (((.ok (.str (tx [32])) >>= fun x => asStr x >>= fun _ => m__law_name_c0 ρ >>= fun y => joinD x y) >>= fun x => ((gv ρ 0 >>= atE a dd) >>= fun x => .ok [] >>= fun xs => .ok (x :: xs)) >>= fun xs => .ok (x :: xs)) >>= fun xs => lenOk xs.length >>= fun _ => .ok (.tuple xs)) >>= fun d => .ok (.rt d)))) ρ)
def f__law_name (c : Nat) (a dd : Addr) : List D → R D := fun ds => noX (m__law_name c a dd (arg0 4 ds)) >>= ret false
def h__law_name : Nat → D → R D
  | 0, d => .ok (.tuple [.str (tx [109, 97, 110, 121]), d])
  | 1, d => .ok (.tuple [.str (tx [115, 105, 122, 101]), d])
  | 2, d => .ok (.tuple [.str (tx [114, 111, 119]), d])
  | 3, d => .ok (.tuple [.str (tx [109, 111, 118, 101]), d])
  | 4, d => .ok (.tuple [.str (tx [114, 117, 108, 101]), d])
  | 5, d => .ok (.tuple [.str (tx [115, 116, 97, 116, 101]), d])
  | _, _ => stk
set_option maxHeartbeats 0 in
theorem n__law_name (c : Nat) (a dd : Addr) (d : D) (lt : c < 6) : f__law_name c a dd [excDt a dd d] = h__law_name c d := by
  have h1 : ∀ b, isE a dd b (excDt a dd d) = .ok (.bool b) := fun b => isE_self
  have h2 : atE a dd (excDt a dd d) = .ok d := atE_self
  generalize excDt a dd d = x at *
  have e : arg0 4 [x] = [some x, none, none, none] := rfl
  have k0 : ∀ (x : D) (l : Env'), gv (some x :: l) 0 = .ok x := fun _ _ => rfl
  have k1 : ∀ (x : D) (y : Option D) (l : Env'), gv (y :: some x :: l) 1 = .ok x := fun _ _ _ => rfl
  have kb : ∀ {α β : Type} (x : α) (f : α → R β), ((.ok x : R α) >>= f) = f x := fun _ _ => rfl
  have ks : ∀ (d : D) (y z : Option D) (l : Env'), setD 1 d (y :: z :: l) = .ok (.nx (y :: some d :: l)) := fun _ _ _ _ => rfl
  have l2 : ∀ a b : D, lenOk [a, b].length = .ok () := fun _ _ => rfl
  have l4 : ∀ a b c d : D, lenOk [a, b, c, d].length = .ok () := fun _ _ _ _ => rfl
  have l1 : ∀ a : D, lenOk [a].length = .ok () := fun _ => rfl
  have ka : ∀ a b c d e f : D, addD (.list [a, b, c, d]) (.list [e, f]) = .ok (.list [a, b, c, d, e, f]) := fun _ _ _ _ _ _ => rfl
  have ka1 : ∀ a b c d e : D, addD (.list [a, b, c, d]) (.list [e]) = .ok (.list [a, b, c, d, e]) := fun _ _ _ _ _ => rfl
  unfold f__law_name m__law_name seqD
  rw [e]
  rcases c with _ | _ | _ | _ | _ | _ | c
  · simp only [k0, kb, h1, h2, ks, k1, l2, l4, l1, ka, ka1]
    rfl
  · simp only [k0, kb, h1, h2, ks, k1, l2, l4, l1, ka, ka1]
    rfl
  · simp only [k0, kb, h1, h2, ks, k1, l2, l4, l1, ka, ka1]
    rfl
  · simp only [k0, kb, h1, h2, ks, k1, l2, l4, l1, ka, ka1]
    rfl
  · simp only [k0, kb, h1, h2, ks, k1, l2, l4, l1, ka, ka1]
    rfl
  · simp only [k0, kb, h1, h2, ks, k1, l2, l4, l1, ka, ka1]
    rfl
  · exact absurd lt (by omega)
def m_beside_c0 : Env' → R D := compD [3] (fun ρ => (.ok (.str (tx [117, 100, 108, 114])) >>= itS)) (tgN 3) (fun ρ => .ok true) (fun ρ => ((gv ρ 1 >>= fun x => (gv ρ 3 >>= fun x => .ok [] >>= fun xs => .ok (x :: xs)) >>= fun xs => .ok (x :: xs)) >>= fnD 2 f_moved))
def m_beside_c1 : Env' → R D := compD [4] (fun ρ => (gv ρ 2 >>= itL)) (tgN 4) (fun ρ => (((gv ρ 0 >>= fun x => (gv ρ 4 >>= fun x => .ok [] >>= fun xs => .ok (x :: xs)) >>= fun xs => .ok (x :: xs)) >>= fnD 2 f_is_cell) >>= asB)) (fun ρ => gv ρ 4)
def m_beside : Env' → R Out := seqD (fun ρ => m_beside_c0 ρ >>= fun d => setD 2 d ρ) (fun ρ => m_beside_c1 ρ >>= fun d => .ok (.rt d))
def f_beside : List D → R D := fun ds => noX (m_beside (arg0 5 ds)) >>= ret true
def m_free_of_c0 : Env' → R D := compD [1] (fun ρ => (((gv ρ 0 >>= fun x => .ok [] >>= fun xs => .ok (x :: xs)) >>= fnD 1 f_cells_of) >>= itL)) (tgN 1) (fun ρ => ((((gv ρ 0 >>= fun x => (gv ρ 1 >>= fun x => .ok [] >>= fun xs => .ok (x :: xs)) >>= fun xs => .ok (x :: xs)) >>= fnD 2 f_sign_at) >>= fun x => .ok kv_FREE >>= fun y => eqD x y) >>= asB)) (fun ρ => gv ρ 1)
def m_free_of : Env' → R Out := fun ρ => m_free_of_c0 ρ >>= fun d => .ok (.rt d)
def f_free_of : List D → R D := fun ds => noX (m_free_of (arg0 2 ds)) >>= ret true
def m_is_free : Env' → R Out := fun ρ => ((((gv ρ 0 >>= fun x => (gv ρ 1 >>= fun x => .ok [] >>= fun xs => .ok (x :: xs)) >>= fun xs => .ok (x :: xs)) >>= fnD 2 f_is_cell) >>= asB) >>= fun c => if c then (((gv ρ 0 >>= fun x => (gv ρ 1 >>= fun x => .ok [] >>= fun xs => .ok (x :: xs)) >>= fun xs => .ok (x :: xs)) >>= fnD 2 f_sign_at) >>= fun x => .ok kv_FREE >>= fun y => eqD x y) else .ok (.bool false)) >>= fun d => .ok (.rt d)
def f_is_free : List D → R D := fun ds => noX (m_is_free (arg0 2 ds)) >>= ret false
def m_check_maze : Env' → R Out := seqD (fun ρ => ((gv ρ 0 >>= fun x => (.ok kv_SIGNS >>= fun x => .ok [] >>= fun xs => .ok (x :: xs)) >>= fun xs => .ok (x :: xs)) >>= fnD 2 f_check_grid) >>= fun _ => .ok (.nx ρ)) (fun ρ => ((((((gv ρ 0 >>= fun x => .ok [] >>= fun xs => .ok (x :: xs)) >>= fnD 1 f_free_of) >>= fun x => .ok [] >>= fun xs => .ok (x :: xs)) >>= lenD) >>= fun x => .ok kv_MOST_FREE >>= fun y => gtD x y) >>= asB) >>= fun k => if k then (fun ρ => ((((gv ρ 0 >>= fun x => .ok [] >>= fun xs => .ok (x :: xs)) >>= fnD 1 f_free_of) >>= fun x => .ok [] >>= fun xs => .ok (x :: xs)) >>= lenD) >>= fun d => excD 0 d) ρ else (fun ρ => .ok (.nx ρ)) ρ)
def f_check_maze : List D → R D := fun ds => m_check_maze (arg0 1 ds) >>= ret false
def m_far_from_b0 : Env' → R Out := fun ρ => ((((gv ρ 0 >>= fun x => (gv ρ 6 >>= fun x => .ok [] >>= fun xs => .ok (x :: xs)) >>= fun xs => .ok (x :: xs)) >>= fnD 2 f_is_free) >>= asB) >>= fun c => if c then ((gv ρ 6 >>= fun x => gv ρ 2 >>= fun y => ninE x y) >>= asB) else .ok false) >>= fun k => if k then (seqD (fun ρ => ((gk ρ 2 >>= fun kvs => gv ρ 5 >>= fun y => dgD kvs y >>= opt) >>= fun x => .ok (.int 1) >>= fun y => addD x y) >>= fun v => gk ρ 2 >>= fun kvs => gv ρ 6 >>= fun k => dpD 2 kvs k v ρ) (fun ρ => gl ρ 4 >>= fun xs => gv ρ 6 >>= fun d => apD 4 xs d ρ)) ρ else (fun ρ => .ok (.nx ρ)) ρ
def m_far_from_b1 : Env' → R Out := fun ρ => (((gv ρ 0 >>= fun x => (gv ρ 5 >>= fun x => .ok [] >>= fun xs => .ok (x :: xs)) >>= fun xs => .ok (x :: xs)) >>= fnD 2 f_beside) >>= itL) >>= fun ds => forD (tgN 6) m_far_from_b0 ds ρ
def m_far_from_t0 : Env' → R Bool := fun ρ => ((((gv ρ 3 >>= fun x => .ok [] >>= fun xs => .ok (x :: xs)) >>= lenD) >>= fun x => .ok (.int 0) >>= fun y => gtD x y) >>= asB)
def m_far_from_b2 : Env' → R Out := seqD (fun ρ => (.ok [] >>= fun xs => lenOk xs.length >>= fun _ => .ok (.list xs)) >>= fun d => setD 4 d ρ) (seqD (fun ρ => (gv ρ 3 >>= itL) >>= fun ds => forD (tgN 5) m_far_from_b1 ds ρ) (fun ρ => gv ρ 4 >>= fun d => setD 3 d ρ))
def m_far_from : Env' → R Out := seqD (fun ρ => ((gv ρ 1 >>= fun x => .ok (.int 0) >>= fun y => .ok [] >>= fun ps => .ok ((x, y) :: ps)) >>= fun ps => lenOk ps.length >>= fun _ => noX (dputs [] ps) >>= fun kvs => .ok (.dict kvs)) >>= fun d => setD 2 d ρ) (seqD (fun ρ => ((gv ρ 1 >>= fun x => .ok [] >>= fun xs => .ok (x :: xs)) >>= fun xs => lenOk xs.length >>= fun _ => .ok (.list xs)) >>= fun d => setD 3 d ρ) (seqD (whileD m_far_from_t0 m_far_from_b2 FU) (fun ρ => gv ρ 2 >>= fun d => .ok (.rt d))))
def f_far_from : List D → R D := fun ds => noX (m_far_from (arg0 7 ds)) >>= ret true
def m_ran : Env' → R Out := seqD (fun ρ => ((gv ρ 2 >>= fun x => .ok kv_STAY >>= fun y => eqD x y) >>= asB) >>= fun k => if k then (fun ρ => gv ρ 1 >>= fun d => .ok (.rt d)) ρ else (fun ρ => .ok (.nx ρ)) ρ) (seqD (fun ρ => ((gv ρ 1 >>= fun x => (gv ρ 2 >>= fun x => .ok [] >>= fun xs => .ok (x :: xs)) >>= fun xs => .ok (x :: xs)) >>= fnD 2 f_moved) >>= fun d => setD 3 d ρ) (fun ρ => ((((gv ρ 0 >>= fun x => (gv ρ 3 >>= fun x => .ok [] >>= fun xs => .ok (x :: xs)) >>= fun xs => .ok (x :: xs)) >>= fnD 2 f_is_free) >>= asB) >>= fun k => if k then gv ρ 3 else gv ρ 1) >>= fun d => .ok (.rt d)))
def f_ran : List D → R D := fun ds => noX (m_ran (arg0 4 ds)) >>= ret false
def m_check_rules_b0 : Env' → R Out := fun ρ => ((gv ρ 3 >>= fun x => .ok kv_RULES >>= fun y => ninD x y) >>= asB) >>= fun k => if k then (fun ρ => gv ρ 2 >>= fun d => excD 4 d) ρ else (fun ρ => .ok (.nx ρ)) ρ
def m_check_rules : Env' → R Out := seqD (fun ρ => ((gv ρ 0 >>= fun x => .ok [] >>= fun xs => .ok (x :: xs)) >>= fnD 1 f_check_maze) >>= fun _ => .ok (.nx ρ)) (seqD (fun ρ => ((chD (fun i j => decide (i ≤ j)) (fun i j => decide (i ≤ j)) (fun ρ => .ok (.int 1)) (fun ρ => ((gv ρ 1 >>= fun x => .ok [] >>= fun xs => .ok (x :: xs)) >>= lenD)) (fun ρ => .ok kv_MOST_CHASERS) ρ >>= asB) >>= fun c => .ok (!c)) >>= fun k => if k then (fun ρ => ((gv ρ 1 >>= fun x => .ok [] >>= fun xs => .ok (x :: xs)) >>= lenD) >>= fun d => excD 1 d) ρ else (fun ρ => .ok (.nx ρ)) ρ) (fun ρ => ((gv ρ 1 >>= fun x => .ok [] >>= fun xs => .ok (x :: xs)) >>= en1) >>= fun ds => forD (unT 2 (tsC (tgN 2) (tsC (tgN 3) tsN))) m_check_rules_b0 ds ρ))
def f_check_rules : List D → R D := fun ds => m_check_rules (arg0 4 ds) >>= ret false
def m_steps_to_b0 : Env' → R Out := fun ρ => ((((gv ρ 0 >>= fun x => (gv ρ 4 >>= fun x => .ok [] >>= fun xs => .ok (x :: xs)) >>= fun xs => .ok (x :: xs)) >>= fnD 2 f_is_free) >>= asB) >>= fun c => .ok (!c)) >>= fun k => if k then (fun ρ => gv ρ 3 >>= fun d => excD 5 d) ρ else (fun ρ => .ok (.nx ρ)) ρ
def m_steps_to : Env' → R Out := seqD (fun ρ => ((gv ρ 0 >>= fun x => .ok [] >>= fun xs => .ok (x :: xs)) >>= fnD 1 f_check_maze) >>= fun _ => .ok (.nx ρ)) (seqD (fun ρ => ((((gv ρ 1 >>= fun x => (gv ρ 2 >>= fun x => .ok [] >>= fun xs => .ok (x :: xs)) >>= fun xs => .ok (x :: xs)) >>= fun xs => lenOk xs.length >>= fun _ => .ok (.tuple xs)) >>= fun x => .ok [] >>= fun xs => .ok (x :: xs)) >>= en1t) >>= fun ds => forD (unT 2 (tsC (tgN 3) (tsC (tgN 4) tsN))) m_steps_to_b0 ds ρ) (fun ρ => (((gv ρ 0 >>= fun x => (gv ρ 1 >>= fun x => .ok [] >>= fun xs => .ok (x :: xs)) >>= fun xs => .ok (x :: xs)) >>= fnD 2 f_far_from) >>= asDk >>= fun kvs => gv ρ 2 >>= fun k => dgD kvs k >>= fun r => .ok (r.getD .none)) >>= fun d => .ok (.rt d)))
def f_steps_to : List D → R D := fun ds => m_steps_to (arg0 5 ds) >>= ret false
def m_chased_c0 : Env' → R D := compD [7] (fun ρ => (((gv ρ 0 >>= fun x => (gv ρ 2 >>= fun x => .ok [] >>= fun xs => .ok (x :: xs)) >>= fun xs => .ok (x :: xs)) >>= fnD 2 f_beside) >>= itL)) (tgN 7) (fun ρ => (((gv ρ 0 >>= fun x => (gv ρ 7 >>= fun x => .ok [] >>= fun xs => .ok (x :: xs)) >>= fun xs => .ok (x :: xs)) >>= fnD 2 f_is_free) >>= asB)) (fun ρ => gv ρ 7)
def m_chased_c1 : Env' → R D := compD [7] (fun ρ => (gv ρ 4 >>= itL)) (tgN 7) (fun ρ => .ok true) (fun ρ => ((gv ρ 7 >>= fun x => (gv ρ 3 >>= fun x => .ok [] >>= fun xs => .ok (x :: xs)) >>= fun xs => .ok (x :: xs)) >>= fnD 2 f_gap))
def m_chased_c2 : Env' → R D := compD [7] (fun ρ => (gv ρ 4 >>= itL)) (tgN 7) (fun ρ => ((gv ρ 7 >>= fun x => gv ρ 5 >>= fun y => inE x y) >>= asB)) (fun ρ => gv ρ 7)
def m_chased_c3 : Env' → R D := compD [7] (fun ρ => (gv ρ 6 >>= itL)) (tgN 7) (fun ρ => .ok true) (fun ρ => (gv ρ 5 >>= fun x => gv ρ 7 >>= fun y => ixE x y))
def m_chased : Env' → R Out := seqD (fun ρ => m_chased_c0 ρ >>= fun d => setD 4 d ρ) (seqD (fun ρ => (((gv ρ 1 >>= fun x => .ok (.str (tx [119, 97, 105, 116])) >>= fun y => eqD x y) >>= asB) >>= fun c => if c then .ok true else ((((gv ρ 4 >>= fun x => .ok [] >>= fun xs => .ok (x :: xs)) >>= lenD) >>= fun x => .ok (.int 0) >>= fun y => eqD x y) >>= asB)) >>= fun k => if k then (fun ρ => gv ρ 2 >>= fun d => .ok (.rt d)) ρ else (fun ρ => .ok (.nx ρ)) ρ) (seqD (fun ρ => ((gv ρ 1 >>= fun x => .ok (.str (tx [114, 111, 119])) >>= fun y => eqD x y) >>= asB) >>= fun k => if k then (fun ρ => (gv ρ 4 >>= fun x => (m_chased_c1 ρ >>= fun x => itL x >>= fun _ => ((m_chased_c1 ρ >>= fun x => .ok [] >>= fun xs => .ok (x :: xs)) >>= minD) >>= fun y => indexD x y) >>= fun y => ixD x y) >>= fun d => .ok (.rt d)) ρ else (fun ρ => .ok (.nx ρ)) ρ) (seqD (fun ρ => ((gv ρ 0 >>= fun x => (gv ρ 3 >>= fun x => .ok [] >>= fun xs => .ok (x :: xs)) >>= fun xs => .ok (x :: xs)) >>= fnD 2 f_far_from) >>= fun d => setD 5 d ρ) (seqD (fun ρ => m_chased_c2 ρ >>= fun d => setD 6 d ρ) (seqD (fun ρ => ((((gv ρ 6 >>= fun x => .ok [] >>= fun xs => .ok (x :: xs)) >>= lenD) >>= fun x => .ok (.int 0) >>= fun y => eqD x y) >>= asB) >>= fun k => if k then (fun ρ => gv ρ 2 >>= fun d => .ok (.rt d)) ρ else (fun ρ => .ok (.nx ρ)) ρ) (fun ρ => (gv ρ 6 >>= fun x => (m_chased_c3 ρ >>= fun x => itL x >>= fun _ => ((m_chased_c3 ρ >>= fun x => .ok [] >>= fun xs => .ok (x :: xs)) >>= minD) >>= fun y => indexD x y) >>= fun y => ixD x y) >>= fun d => .ok (.rt d)))))))
def f_chased : List D → R D := fun ds => noX (m_chased (arg0 8 ds)) >>= ret false
def m_check_state_b0 : Env' → R Out := fun ρ => ((((gv ρ 0 >>= fun x => (gv ρ 4 >>= fun x => .ok [] >>= fun xs => .ok (x :: xs)) >>= fun xs => .ok (x :: xs)) >>= fnD 2 f_is_free) >>= asB) >>= fun c => .ok (!c)) >>= fun k => if k then (fun ρ => gv ρ 3 >>= fun d => excD 5 d) ρ else (fun ρ => .ok (.nx ρ)) ρ
def m_check_state : Env' → R Out := seqD (fun ρ => ((gv ρ 0 >>= fun x => (gv ρ 1 >>= fun x => .ok [] >>= fun xs => .ok (x :: xs)) >>= fun xs => .ok (x :: xs)) >>= fnD 2 f_check_rules) >>= fun _ => .ok (.nx ρ)) (seqD (fun ρ => (((((gv ρ 2 >>= fun x => .ok (.int 0) >>= fun y => ixD x y) >>= fun x => ((gv ρ 2 >>= fun x => .ok (.int 1) >>= fun y => ixD x y) >>= fun x => seqOf x >>= fun zs => .ok [] >>= fun xs => .ok (zs ++ xs)) >>= fun xs => .ok (x :: xs)) >>= fun xs => lenOk xs.length >>= fun _ => .ok (.list xs)) >>= fun x => .ok [] >>= fun xs => .ok (x :: xs)) >>= en1) >>= fun ds => forD (unT 2 (tsC (tgN 3) (tsC (tgN 4) tsN))) m_check_state_b0 ds ρ) (fun ρ => (((((gv ρ 2 >>= fun x => .ok (.int 1) >>= fun y => ixD x y) >>= fun x => .ok [] >>= fun xs => .ok (x :: xs)) >>= lenD) >>= fun x => ((gv ρ 1 >>= fun x => .ok [] >>= fun xs => .ok (x :: xs)) >>= lenD) >>= fun y => neD x y) >>= asB) >>= fun k => if k then (fun ρ => (((gv ρ 2 >>= fun x => .ok (.int 1) >>= fun y => ixD x y) >>= fun x => .ok [] >>= fun xs => .ok (x :: xs)) >>= lenD) >>= fun d => excD 5 d) ρ else (fun ρ => .ok (.nx ρ)) ρ))
def f_check_state : List D → R D := fun ds => m_check_state (arg0 5 ds) >>= ret false
def m_tick_of_c0 : Env' → R D := compD [9] (fun ρ => ((gv ρ 2 >>= fun x => .ok (.int 1) >>= fun y => ixD x y) >>= itL)) (tgN 9) (fun ρ => .ok true) (fun ρ => ((gv ρ 9 >>= fun x => .ok [] >>= fun xs => .ok (x :: xs)) >>= tupleD))
def m_tick_of_b0 : Env' → R Out := seqD (fun ρ => ((gv ρ 0 >>= fun x => (gv ρ 7 >>= fun x => ((gv ρ 5 >>= fun x => gv ρ 6 >>= fun y => ixD x y) >>= fun x => (gv ρ 4 >>= fun x => .ok [] >>= fun xs => .ok (x :: xs)) >>= fun xs => .ok (x :: xs)) >>= fun xs => .ok (x :: xs)) >>= fun xs => .ok (x :: xs)) >>= fnD 4 f_chased) >>= fun d => setD 8 d ρ) (seqD (fun ρ => (((gv ρ 5 >>= fun x => .ok none >>= fun l => (gv ρ 6 >>= fun d => asI d >>= fun i => .ok (some i)) >>= fun h => slD x l h) >>= fun x => ((gv ρ 8 >>= fun x => .ok [] >>= fun xs => .ok (x :: xs)) >>= fun xs => lenOk xs.length >>= fun _ => .ok (.list xs)) >>= fun y => addD x y) >>= fun x => (gv ρ 5 >>= fun x => ((gv ρ 6 >>= fun x => .ok (.int 1) >>= fun y => addD x y) >>= fun d => asI d >>= fun i => .ok (some i)) >>= fun l => .ok none >>= fun h => slD x l h) >>= fun y => addD x y) >>= fun d => setD 5 d ρ) (fun ρ => ((gv ρ 8 >>= fun x => gv ρ 4 >>= fun y => eqD x y) >>= asB) >>= fun k => if k then (fun ρ => ((((gv ρ 4 >>= fun x => (gv ρ 5 >>= fun x => .ok [] >>= fun xs => .ok (x :: xs)) >>= fun xs => .ok (x :: xs)) >>= fun xs => lenOk xs.length >>= fun _ => .ok (.tuple xs)) >>= fun x => (.ok (.bool true) >>= fun x => .ok [] >>= fun xs => .ok (x :: xs)) >>= fun xs => .ok (x :: xs)) >>= fun xs => lenOk xs.length >>= fun _ => .ok (.tuple xs)) >>= fun d => .ok (.rt d)) ρ else (fun ρ => .ok (.nx ρ)) ρ))
def m_tick_of : Env' → R Out := seqD (fun ρ => ((gv ρ 0 >>= fun x => ((gv ρ 2 >>= fun x => .ok (.int 0) >>= fun y => ixD x y) >>= fun x => (gv ρ 3 >>= fun x => .ok [] >>= fun xs => .ok (x :: xs)) >>= fun xs => .ok (x :: xs)) >>= fun xs => .ok (x :: xs)) >>= fnD 3 f_ran) >>= fun d => setD 4 d ρ) (seqD (fun ρ => m_tick_of_c0 ρ >>= fun d => setD 5 d ρ) (seqD (fun ρ => ((gv ρ 4 >>= fun x => gv ρ 5 >>= fun y => inD x y) >>= asB) >>= fun k => if k then (fun ρ => ((((gv ρ 4 >>= fun x => (gv ρ 5 >>= fun x => .ok [] >>= fun xs => .ok (x :: xs)) >>= fun xs => .ok (x :: xs)) >>= fun xs => lenOk xs.length >>= fun _ => .ok (.tuple xs)) >>= fun x => (.ok (.bool true) >>= fun x => .ok [] >>= fun xs => .ok (x :: xs)) >>= fun xs => .ok (x :: xs)) >>= fun xs => lenOk xs.length >>= fun _ => .ok (.tuple xs)) >>= fun d => .ok (.rt d)) ρ else (fun ρ => .ok (.nx ρ)) ρ) (seqD (fun ρ => ((gv ρ 1 >>= fun x => .ok [] >>= fun xs => .ok (x :: xs)) >>= en1) >>= fun ds => forD (unT 2 (tsC (tgN 6) (tsC (tgN 7) tsN))) m_tick_of_b0 ds ρ) (fun ρ => ((((gv ρ 4 >>= fun x => (gv ρ 5 >>= fun x => .ok [] >>= fun xs => .ok (x :: xs)) >>= fun xs => .ok (x :: xs)) >>= fun xs => lenOk xs.length >>= fun _ => .ok (.tuple xs)) >>= fun x => (.ok (.bool false) >>= fun x => .ok [] >>= fun xs => .ok (x :: xs)) >>= fun xs => .ok (x :: xs)) >>= fun xs => lenOk xs.length >>= fun _ => .ok (.tuple xs)) >>= fun d => .ok (.rt d)))))
def f_tick_of : List D → R D := fun ds => noX (m_tick_of (arg0 10 ds)) >>= ret false
def m_tick : Env' → R Out := seqD (fun ρ => ((gv ρ 0 >>= fun x => (gv ρ 1 >>= fun x => (gv ρ 2 >>= fun x => .ok [] >>= fun xs => .ok (x :: xs)) >>= fun xs => .ok (x :: xs)) >>= fun xs => .ok (x :: xs)) >>= fnD 3 f_check_state) >>= fun _ => .ok (.nx ρ)) (seqD (fun ρ => (((((gv ρ 3 >>= fun x => .ok [] >>= fun xs => .ok (x :: xs)) >>= lenD) >>= fun x => .ok (.int 1) >>= fun y => neD x y) >>= asB) >>= fun c => if c then .ok true else ((gv ρ 3 >>= fun x => .ok kv_MOVES_ticks >>= fun y => ninD x y) >>= asB)) >>= fun k => if k then (fun ρ => .ok (.int 0) >>= fun d => excD 3 d) ρ else (fun ρ => .ok (.nx ρ)) ρ) (fun ρ => ((gv ρ 0 >>= fun x => (gv ρ 1 >>= fun x => (gv ρ 2 >>= fun x => (gv ρ 3 >>= fun x => .ok [] >>= fun xs => .ok (x :: xs)) >>= fun xs => .ok (x :: xs)) >>= fun xs => .ok (x :: xs)) >>= fun xs => .ok (x :: xs)) >>= fnD 4 f_tick_of) >>= fun d => .ok (.rt d)))
def f_tick : List D → R D := fun ds => m_tick (arg0 4 ds) >>= ret false
def m_run_b0 : Env' → R Out := fun ρ => ((gv ρ 5 >>= fun x => .ok kv_MOVES_ticks >>= fun y => ninD x y) >>= asB) >>= fun k => if k then (fun ρ => gv ρ 4 >>= fun d => excD 3 d) ρ else (fun ρ => .ok (.nx ρ)) ρ
def m_run_b1 : Env' → R Out := seqD (fun ρ => ((gv ρ 0 >>= fun x => (gv ρ 1 >>= fun x => (gv ρ 7 >>= fun x => (gv ρ 5 >>= fun x => .ok [] >>= fun xs => .ok (x :: xs)) >>= fun xs => .ok (x :: xs)) >>= fun xs => .ok (x :: xs)) >>= fun xs => .ok (x :: xs)) >>= fnD 4 f_tick_of) >>= fun d => (unT 2 (tsC (tgN 7) (tsC (tgN 8) tsN))) d ρ >>= fun ρ' => .ok (.nx ρ')) (seqD (fun ρ => gl ρ 6 >>= fun xs => (((gv ρ 7 >>= fun x => .ok (.int 0) >>= fun y => ixD x y) >>= fun x => ((((gv ρ 7 >>= fun x => .ok (.int 1) >>= fun y => ixD x y) >>= fun x => .ok [] >>= fun xs => .ok (x :: xs)) >>= listD) >>= fun x => .ok [] >>= fun xs => .ok (x :: xs)) >>= fun xs => .ok (x :: xs)) >>= fun xs => lenOk xs.length >>= fun _ => .ok (.tuple xs)) >>= fun d => apD 6 xs d ρ) (fun ρ => (gv ρ 8 >>= asB) >>= fun k => if k then (fun ρ => ((gv ρ 6 >>= fun x => (.ok (.bool true) >>= fun x => .ok [] >>= fun xs => .ok (x :: xs)) >>= fun xs => .ok (x :: xs)) >>= fun xs => lenOk xs.length >>= fun _ => .ok (.tuple xs)) >>= fun d => .ok (.rt d)) ρ else (fun ρ => .ok (.nx ρ)) ρ))
def m_run : Env' → R Out := seqD (fun ρ => ((gv ρ 0 >>= fun x => (gv ρ 1 >>= fun x => (gv ρ 2 >>= fun x => .ok [] >>= fun xs => .ok (x :: xs)) >>= fun xs => .ok (x :: xs)) >>= fun xs => .ok (x :: xs)) >>= fnD 3 f_check_state) >>= fun _ => .ok (.nx ρ)) (seqD (fun ρ => ((((gv ρ 3 >>= fun x => .ok [] >>= fun xs => .ok (x :: xs)) >>= lenD) >>= fun x => .ok kv_MOST_MOVES >>= fun y => gtD x y) >>= asB) >>= fun k => if k then (fun ρ => ((gv ρ 3 >>= fun x => .ok [] >>= fun xs => .ok (x :: xs)) >>= lenD) >>= fun d => excD 0 d) ρ else (fun ρ => .ok (.nx ρ)) ρ) (seqD (fun ρ => ((gv ρ 3 >>= fun x => .ok [] >>= fun xs => .ok (x :: xs)) >>= en1s) >>= fun ds => forD (unT 2 (tsC (tgN 4) (tsC (tgN 5) tsN))) m_run_b0 ds ρ) (seqD (fun ρ => (.ok [] >>= fun xs => lenOk xs.length >>= fun _ => .ok (.list xs)) >>= fun d => setD 6 d ρ) (seqD (fun ρ => gv ρ 2 >>= fun d => setD 7 d ρ) (seqD (fun ρ => (gv ρ 3 >>= itS) >>= fun ds => forD (tgN 5) m_run_b1 ds ρ) (fun ρ => ((gv ρ 6 >>= fun x => (.ok (.bool false) >>= fun x => .ok [] >>= fun xs => .ok (x :: xs)) >>= fun xs => .ok (x :: xs)) >>= fun xs => lenOk xs.length >>= fun _ => .ok (.tuple xs)) >>= fun d => .ok (.rt d)))))))
def f_run : List D → R D := fun ds => m_run (arg0 9 ds) >>= ret false
def m_nexts_of_b0 : Env' → R Out := seqD (fun ρ => ((gv ρ 0 >>= fun x => (gv ρ 1 >>= fun x => ((((gv ρ 2 >>= fun x => .ok (.int 0) >>= fun y => ixD x y) >>= fun x => ((((gv ρ 2 >>= fun x => .ok (.int 1) >>= fun y => ixD x y) >>= fun x => .ok [] >>= fun xs => .ok (x :: xs)) >>= listD) >>= fun x => .ok [] >>= fun xs => .ok (x :: xs)) >>= fun xs => .ok (x :: xs)) >>= fun xs => lenOk xs.length >>= fun _ => .ok (.tuple xs)) >>= fun x => (gv ρ 4 >>= fun x => .ok [] >>= fun xs => .ok (x :: xs)) >>= fun xs => .ok (x :: xs)) >>= fun xs => .ok (x :: xs)) >>= fun xs => .ok (x :: xs)) >>= fnD 4 f_tick_of) >>= fun d => (unT 2 (tsC (tgN 5) (tsC (tgN 6) tsN))) d ρ >>= fun ρ' => .ok (.nx ρ')) (fun ρ => ((gv ρ 6 >>= asB) >>= fun c => .ok (!c)) >>= fun k => if k then (fun ρ => gl ρ 3 >>= fun xs => ((gv ρ 4 >>= fun x => (((gv ρ 5 >>= fun x => .ok [] >>= fun xs => .ok (x :: xs)) >>= fnD 1 f_key_of) >>= fun x => .ok [] >>= fun xs => .ok (x :: xs)) >>= fun xs => .ok (x :: xs)) >>= fun xs => lenOk xs.length >>= fun _ => .ok (.tuple xs)) >>= fun d => apD 3 xs d ρ) ρ else (fun ρ => .ok (.nx ρ)) ρ)
def m_nexts_of : Env' → R Out := seqD (fun ρ => (.ok [] >>= fun xs => lenOk xs.length >>= fun _ => .ok (.list xs)) >>= fun d => setD 3 d ρ) (seqD (fun ρ => (.ok kv_MOVES_ticks >>= itS) >>= fun ds => forD (tgN 4) m_nexts_of_b0 ds ρ) (fun ρ => gv ρ 3 >>= fun d => .ok (.rt d)))
def f_nexts_of : List D → R D := fun ds => noX (m_nexts_of (arg0 7 ds)) >>= ret true
def m_map_of_c0 : Env' → R D := compD [6] (fun ρ => (gv ρ 2 >>= itL)) (tgN 6) (fun ρ => (((gv ρ 6 >>= fun x => .ok (.int 0) >>= fun y => ixD x y) >>= fun x => (gv ρ 6 >>= fun x => .ok (.int 1) >>= fun y => ixD x y) >>= fun y => ninD x y) >>= asB)) (fun ρ => gv ρ 6)
def m_map_of_c1 : Env' → R D := compD [7, 8] (fun ρ => ((gk ρ 3 >>= fun kvs => gv ρ 6 >>= fun y => dgD kvs y >>= opt) >>= itL)) (unT 2 (tsC (tgN 7) (tsC (tgN 8) tsN))) (fun ρ => ((gv ρ 8 >>= fun x => gv ρ 3 >>= fun y => ninE x y) >>= asB)) (fun ρ => gv ρ 8)
def m_map_of_b0 : Env' → R Out := fun ρ => ((gv ρ 6 >>= fun x => gv ρ 3 >>= fun y => ninE x y) >>= asB) >>= fun k => if k then (seqD (fun ρ => ((gv ρ 0 >>= fun x => (gv ρ 1 >>= fun x => (gv ρ 6 >>= fun x => .ok [] >>= fun xs => .ok (x :: xs)) >>= fun xs => .ok (x :: xs)) >>= fun xs => .ok (x :: xs)) >>= fnD 3 f_nexts_of) >>= fun v => gk ρ 3 >>= fun kvs => gv ρ 6 >>= fun k => dpD 3 kvs k v ρ) (fun ρ => gl ρ 5 >>= fun xs => m_map_of_c1 ρ >>= fun d => exD 5 xs d ρ)) ρ else (fun ρ => .ok (.nx ρ)) ρ
def m_map_of_t0 : Env' → R Bool := fun ρ => ((((gv ρ 4 >>= fun x => .ok [] >>= fun xs => .ok (x :: xs)) >>= lenD) >>= fun x => .ok (.int 0) >>= fun y => gtD x y) >>= asB)
def m_map_of_b1 : Env' → R Out := seqD (fun ρ => (.ok [] >>= fun xs => lenOk xs.length >>= fun _ => .ok (.list xs)) >>= fun d => setD 5 d ρ) (seqD (fun ρ => (gv ρ 4 >>= itL) >>= fun ds => forD (tgN 6) m_map_of_b0 ds ρ) (fun ρ => gv ρ 5 >>= fun d => setD 4 d ρ))
def m_map_of : Env' → R Out := seqD (fun ρ => (.ok (.dict [])) >>= fun d => setD 3 d ρ) (seqD (fun ρ => m_map_of_c0 ρ >>= fun d => setD 4 d ρ) (seqD (whileD m_map_of_t0 m_map_of_b1 FU) (fun ρ => gv ρ 3 >>= fun d => .ok (.rt d))))
def f_map_of : List D → R D := fun ds => noX (m_map_of (arg0 9 ds)) >>= ret true
def m_told_of : Env' → R Out := seqD (fun ρ => ((gv ρ 0 >>= fun x => (gv ρ 1 >>= fun x => (((((gv ρ 2 >>= fun x => .ok [] >>= fun xs => .ok (x :: xs)) >>= fnD 1 f_key_of) >>= fun x => .ok [] >>= fun xs => .ok (x :: xs)) >>= fun xs => lenOk xs.length >>= fun _ => .ok (.list xs)) >>= fun x => .ok [] >>= fun xs => .ok (x :: xs)) >>= fun xs => .ok (x :: xs)) >>= fun xs => .ok (x :: xs)) >>= fnD 3 f_map_of) >>= fun d => setD 3 d ρ) (fun ρ => ((gv ρ 3 >>= fun x => (((gv ρ 3 >>= fun x => .ok [] >>= fun xs => .ok (x :: xs)) >>= fnD 1 f_lengths_of) >>= fun x => .ok [] >>= fun xs => .ok (x :: xs)) >>= fun xs => .ok (x :: xs)) >>= fun xs => lenOk xs.length >>= fun _ => .ok (.tuple xs)) >>= fun d => .ok (.rt d))
def f_told_of : List D → R D := fun ds => noX (m_told_of (arg0 4 ds)) >>= ret false
def m_safe_cells_b0 : Env' → R Out := fun ρ => ((((gv ρ 0 >>= fun x => (gv ρ 4 >>= fun x => .ok [] >>= fun xs => .ok (x :: xs)) >>= fun xs => .ok (x :: xs)) >>= fnD 2 f_is_free) >>= asB) >>= fun c => .ok (!c)) >>= fun k => if k then (fun ρ => (gv ρ 3 >>= fun x => .ok (.int 1) >>= fun y => addD x y) >>= fun d => excD 5 d) ρ else (fun ρ => .ok (.nx ρ)) ρ
def m_safe_cells_c0 : Env' → R D := compD [4] (fun ρ => (((gv ρ 0 >>= fun x => .ok [] >>= fun xs => .ok (x :: xs)) >>= fnD 1 f_free_of) >>= itL)) (tgN 4) (fun ρ => .ok true) (fun ρ => ((((gv ρ 4 >>= fun x => (gv ρ 2 >>= fun x => .ok [] >>= fun xs => .ok (x :: xs)) >>= fun xs => .ok (x :: xs)) >>= fun xs => lenOk xs.length >>= fun _ => .ok (.tuple xs)) >>= fun x => .ok [] >>= fun xs => .ok (x :: xs)) >>= fnD 1 f_key_of))
def m_safe_cells_c1 : Env' → R D := compD [8] (fun ρ => (gv ρ 5 >>= itL)) (tgN 8) (fun ρ => (((gv ρ 8 >>= fun x => gv ρ 6 >>= fun y => inE x y) >>= asB) >>= fun c => if c then ((gv ρ 8 >>= fun x => gv ρ 7 >>= fun y => ninE x y) >>= asB) else .ok false)) (fun ρ => (gv ρ 8 >>= fun x => .ok (.int 0) >>= fun y => ixD x y))
def m_safe_cells : Env' → R Out := seqD (fun ρ => ((gv ρ 0 >>= fun x => (gv ρ 1 >>= fun x => .ok [] >>= fun xs => .ok (x :: xs)) >>= fun xs => .ok (x :: xs)) >>= fnD 2 f_check_rules) >>= fun _ => .ok (.nx ρ)) (seqD (fun ρ => ((gv ρ 2 >>= fun x => .ok [] >>= fun xs => .ok (x :: xs)) >>= en1) >>= fun ds => forD (unT 2 (tsC (tgN 3) (tsC (tgN 4) tsN))) m_safe_cells_b0 ds ρ) (seqD (fun ρ => ((((gv ρ 2 >>= fun x => .ok [] >>= fun xs => .ok (x :: xs)) >>= lenD) >>= fun x => ((gv ρ 1 >>= fun x => .ok [] >>= fun xs => .ok (x :: xs)) >>= lenD) >>= fun y => neD x y) >>= asB) >>= fun k => if k then (fun ρ => ((gv ρ 2 >>= fun x => .ok [] >>= fun xs => .ok (x :: xs)) >>= lenD) >>= fun d => excD 5 d) ρ else (fun ρ => .ok (.nx ρ)) ρ) (seqD (fun ρ => m_safe_cells_c0 ρ >>= fun d => setD 5 d ρ) (seqD (fun ρ => ((gv ρ 0 >>= fun x => (gv ρ 1 >>= fun x => (gv ρ 5 >>= fun x => .ok [] >>= fun xs => .ok (x :: xs)) >>= fun xs => .ok (x :: xs)) >>= fun xs => .ok (x :: xs)) >>= fnD 3 f_map_of) >>= fun d => setD 6 d ρ) (seqD (fun ρ => ((gv ρ 6 >>= fun x => .ok [] >>= fun xs => .ok (x :: xs)) >>= fnD 1 f_lengths_of) >>= fun d => setD 7 d ρ) (fun ρ => m_safe_cells_c1 ρ >>= fun d => .ok (.rt d)))))))
def f_safe_cells : List D → R D := fun ds => m_safe_cells (arg0 9 ds) >>= ret true
def m_is_safe : Env' → R Out := seqD (fun ρ => ((gv ρ 0 >>= fun x => (gv ρ 1 >>= fun x => (gv ρ 2 >>= fun x => .ok [] >>= fun xs => .ok (x :: xs)) >>= fun xs => .ok (x :: xs)) >>= fun xs => .ok (x :: xs)) >>= fnD 3 f_check_state) >>= fun _ => .ok (.nx ρ)) (seqD (fun ρ => ((gv ρ 0 >>= fun x => (gv ρ 1 >>= fun x => (gv ρ 2 >>= fun x => .ok [] >>= fun xs => .ok (x :: xs)) >>= fun xs => .ok (x :: xs)) >>= fun xs => .ok (x :: xs)) >>= fnD 3 f_told_of) >>= fun d => (unT 2 (tsC (tgN 3) (tsC (tgN 4) tsN))) d ρ >>= fun ρ' => .ok (.nx ρ')) (fun ρ => (((((gv ρ 2 >>= fun x => .ok [] >>= fun xs => .ok (x :: xs)) >>= fnD 1 f_key_of) >>= fun x => gv ρ 3 >>= fun y => inE x y) >>= asB) >>= fun c => if c then (((gv ρ 2 >>= fun x => .ok [] >>= fun xs => .ok (x :: xs)) >>= fnD 1 f_key_of) >>= fun x => gv ρ 4 >>= fun y => ninE x y) else .ok (.bool false)) >>= fun d => .ok (.rt d)))
def f_is_safe : List D → R D := fun ds => m_is_safe (arg0 5 ds) >>= ret false
def m_safe_move_c0 : Env' → R D := compD [6, 7] (fun ρ => ((gv ρ 3 >>= asDk >>= fun kvs => ((gv ρ 2 >>= fun x => .ok [] >>= fun xs => .ok (x :: xs)) >>= fnD 1 f_key_of) >>= fun k => (.ok [] >>= fun xs => lenOk xs.length >>= fun _ => .ok (.list xs)) >>= fun z => dgD kvs k >>= fun r => .ok (r.getD z)) >>= itL)) (unT 2 (tsC (tgN 6) (tsC (tgN 7) tsN))) (fun ρ => ((gv ρ 7 >>= fun x => gv ρ 4 >>= fun y => ninE x y) >>= asB)) (fun ρ => gv ρ 6)
def m_safe_move : Env' → R Out := seqD (fun ρ => ((gv ρ 0 >>= fun x => (gv ρ 1 >>= fun x => (gv ρ 2 >>= fun x => .ok [] >>= fun xs => .ok (x :: xs)) >>= fun xs => .ok (x :: xs)) >>= fun xs => .ok (x :: xs)) >>= fnD 3 f_check_state) >>= fun _ => .ok (.nx ρ)) (seqD (fun ρ => ((gv ρ 0 >>= fun x => (gv ρ 1 >>= fun x => (gv ρ 2 >>= fun x => .ok [] >>= fun xs => .ok (x :: xs)) >>= fun xs => .ok (x :: xs)) >>= fun xs => .ok (x :: xs)) >>= fnD 3 f_told_of) >>= fun d => (unT 2 (tsC (tgN 3) (tsC (tgN 4) tsN))) d ρ >>= fun ρ' => .ok (.nx ρ')) (seqD (fun ρ => m_safe_move_c0 ρ >>= fun d => setD 5 d ρ) (fun ρ => (((((gv ρ 5 >>= fun x => .ok [] >>= fun xs => .ok (x :: xs)) >>= lenD) >>= fun x => .ok (.int 0) >>= fun y => gtD x y) >>= asB) >>= fun k => if k then (gv ρ 5 >>= fun x => .ok (.int 0) >>= fun y => ixD x y) else .ok .none) >>= fun d => .ok (.rt d))))
def f_safe_move : List D → R D := fun ds => m_safe_move (arg0 8 ds) >>= ret false
def m_longest : Env' → R Out := seqD (fun ρ => ((gv ρ 0 >>= fun x => (gv ρ 1 >>= fun x => (gv ρ 2 >>= fun x => .ok [] >>= fun xs => .ok (x :: xs)) >>= fun xs => .ok (x :: xs)) >>= fun xs => .ok (x :: xs)) >>= fnD 3 f_check_state) >>= fun _ => .ok (.nx ρ)) (seqD (fun ρ => ((gv ρ 0 >>= fun x => (gv ρ 1 >>= fun x => (gv ρ 2 >>= fun x => .ok [] >>= fun xs => .ok (x :: xs)) >>= fun xs => .ok (x :: xs)) >>= fun xs => .ok (x :: xs)) >>= fnD 3 f_told_of) >>= fun d => (unT 2 (tsC (tgN 3) (tsC (tgN 4) tsN))) d ρ >>= fun ρ' => .ok (.nx ρ')) (seqD (fun ρ => ((((gv ρ 2 >>= fun x => .ok [] >>= fun xs => .ok (x :: xs)) >>= fnD 1 f_key_of) >>= fun x => gv ρ 3 >>= fun y => ninE x y) >>= asB) >>= fun k => if k then (fun ρ => .ok (.int 0) >>= fun d => .ok (.rt d)) ρ else (fun ρ => .ok (.nx ρ)) ρ) (fun ρ => (gv ρ 4 >>= asDk >>= fun kvs => ((gv ρ 2 >>= fun x => .ok [] >>= fun xs => .ok (x :: xs)) >>= fnD 1 f_key_of) >>= fun k => dgD kvs k >>= fun r => .ok (r.getD .none)) >>= fun d => .ok (.rt d))))
def f_longest : List D → R D := fun ds => m_longest (arg0 5 ds) >>= ret false
def m__law_of_t0 : Env' → R Out := fun ρ => ((gv ρ 0 >>= fun x => .ok (.int 0) >>= fun y => eqD x y) >>= asB) >>= fun k => if k then (fun ρ => ((gv ρ 1 >>= fun x => ((gv ρ 3 >>= fun x => .ok (.int 0) >>= fun y => ixD x y) >>= fun x => (((.ok (.int 0) >>= fun x => (.ok (.int 0) >>= fun x => .ok [] >>= fun xs => .ok (x :: xs)) >>= fun xs => .ok (x :: xs)) >>= fun xs => lenOk xs.length >>= fun _ => .ok (.tuple xs)) >>= fun x => .ok [] >>= fun xs => .ok (x :: xs)) >>= fun xs => .ok (x :: xs)) >>= fun xs => .ok (x :: xs)) >>= fnD 3 f_steps_to) >>= fun _ => .ok (.nx ρ)) ρ else (fun ρ => ((gv ρ 0 >>= fun x => .ok (.int 3) >>= fun y => ltD x y) >>= asB) >>= fun k => if k then (fun ρ => ((gv ρ 0 >>= fun x => .ok (.int 1) >>= fun y => subI x y) >>= fun d => asI d >>= fun i => opt (atI [f_tick, f_run] i) >>= fun f => (gv ρ 1 >>= fun x => (gv ρ 2 >>= fun x => (gv ρ 3 >>= fun x => (gv ρ 4 >>= fun x => .ok [] >>= fun xs => .ok (x :: xs)) >>= fun xs => .ok (x :: xs)) >>= fun xs => .ok (x :: xs)) >>= fun xs => .ok (x :: xs)) >>= fnD 4 f) >>= fun _ => .ok (.nx ρ)) ρ else (fun ρ => ((gv ρ 0 >>= fun x => .ok (.int 6) >>= fun y => ltD x y) >>= asB) >>= fun k => if k then (fun ρ => ((gv ρ 0 >>= fun x => .ok (.int 3) >>= fun y => subI x y) >>= fun d => asI d >>= fun i => opt (atI [f_is_safe, f_safe_move, f_longest] i) >>= fun f => (gv ρ 1 >>= fun x => (gv ρ 2 >>= fun x => (gv ρ 3 >>= fun x => .ok [] >>= fun xs => .ok (x :: xs)) >>= fun xs => .ok (x :: xs)) >>= fun xs => .ok (x :: xs)) >>= fnD 3 f) >>= fun _ => .ok (.nx ρ)) ρ else (fun ρ => ((gv ρ 1 >>= fun x => (gv ρ 2 >>= fun x => ((gv ρ 3 >>= fun x => .ok (.int 1) >>= fun y => ixD x y) >>= fun x => .ok [] >>= fun xs => .ok (x :: xs)) >>= fun xs => .ok (x :: xs)) >>= fun xs => .ok (x :: xs)) >>= fnD 3 f_safe_cells) >>= fun _ => .ok (.nx ρ)) ρ) ρ) ρ
def m__law_of : Env' → R Out := seqD (fun ρ => tryD 6 h__law_name (m__law_of_t0 ρ)) (fun ρ => .ok .none >>= fun d => .ok (.rt d))
def f__law_of : List D → R D := fun ds => noX (m__law_of (arg0 6 ds)) >>= ret false
def m_law_c0 : Env' → R D := compD [25] (fun ρ => (((((gv ρ 5 >>= fun x => gv ρ 13 >>= fun y => ixD x y) >>= fun x => .ok [] >>= fun xs => .ok (x :: xs)) >>= lenD) >>= fun x => .ok [] >>= fun xs => .ok (x :: xs)) >>= rg1)) (tgN 25) (fun ρ => ((((gv ρ 5 >>= fun x => gv ρ 13 >>= fun y => ixD x y) >>= fun x => gv ρ 25 >>= fun y => ixD x y) >>= fun x => .ok (.str (tx [46])) >>= fun y => eqD x y) >>= asB)) (fun ρ => ((gv ρ 13 >>= fun x => (gv ρ 25 >>= fun x => .ok [] >>= fun xs => .ok (x :: xs)) >>= fun xs => .ok (x :: xs)) >>= fun xs => lenOk xs.length >>= fun _ => .ok (.tuple xs)))
def m_law_b0 : Env' → R Out := fun ρ => (gv ρ 12 >>= fun x => m_law_c0 ρ >>= fun y => addD x y) >>= fun d => setD 12 d ρ
def m_law_c1 : Env' → R D := compD [24] (fun ρ => ((((gv ρ 11 >>= fun x => .ok [] >>= fun xs => .ok (x :: xs)) >>= lenD) >>= fun x => .ok [] >>= fun xs => .ok (x :: xs)) >>= rg1)) (tgN 24) (fun ρ => (((gv ρ 11 >>= fun x => gv ρ 24 >>= fun y => ixD x y) >>= fun x => gv ρ 12 >>= fun y => ninD x y) >>= asB)) (fun ρ => gv ρ 24)
def m_law_c2 : Env' → R D := compD [24] (fun ρ => ((((gv ρ 7 >>= fun x => .ok [] >>= fun xs => .ok (x :: xs)) >>= lenD) >>= fun x => .ok [] >>= fun xs => .ok (x :: xs)) >>= rg1)) (tgN 24) (fun ρ => (((gv ρ 7 >>= fun x => gv ρ 24 >>= fun y => ixD x y) >>= fun x => ((.ok (.str (tx [110, 101, 97, 114])) >>= fun x => (.ok (.str (tx [114, 111, 119])) >>= fun x => (.ok (.str (tx [119, 97, 105, 116])) >>= fun x => .ok [] >>= fun xs => .ok (x :: xs)) >>= fun xs => .ok (x :: xs)) >>= fun xs => .ok (x :: xs)) >>= fun xs => lenOk xs.length >>= fun _ => .ok (.list xs)) >>= fun y => ninD x y) >>= asB)) (fun ρ => gv ρ 24)
def m_law_c3 : Env' → R D := compD [24] (fun ρ => (gv ρ 14 >>= itL)) (tgN 24) (fun ρ => ((gv ρ 24 >>= fun x => .ok (.int 0) >>= fun y => gtD x y) >>= asB)) (fun ρ => gv ρ 24)
def m_law_c4 : Env' → R D := compD [24] (fun ρ => ((((gv ρ 9 >>= fun x => .ok [] >>= fun xs => .ok (x :: xs)) >>= lenD) >>= fun x => .ok [] >>= fun xs => .ok (x :: xs)) >>= rg1)) (tgN 24) (fun ρ => (((gv ρ 9 >>= fun x => gv ρ 24 >>= fun y => ixD x y) >>= fun x => .ok (.str (tx [100, 108, 114, 115, 117])) >>= fun y => ninD x y) >>= asB)) (fun ρ => gv ρ 24)
def m_law_c5 : Env' → R D := compD [26] (fun ρ => ((.ok (.int 7) >>= fun x => .ok [] >>= fun xs => .ok (x :: xs)) >>= rg1)) (tgN 26) (fun ρ => .ok true) (fun ρ => ((gv ρ 26 >>= fun x => (gv ρ 5 >>= fun x => (gv ρ 7 >>= fun x => (gv ρ 8 >>= fun x => (gv ρ 9 >>= fun x => .ok [] >>= fun xs => .ok (x :: xs)) >>= fun xs => .ok (x :: xs)) >>= fun xs => .ok (x :: xs)) >>= fun xs => .ok (x :: xs)) >>= fun xs => .ok (x :: xs)) >>= fnD 5 f__law_of))
def m_law_b1 : Env' → R Out := seqD (fun ρ => (.ok (.int 10) >>= fun x => (.ok (.int 8) >>= fun x => gv ρ 3 >>= fun y => mulD x y) >>= fun y => addD x y) >>= fun d => setD 4 d ρ) (seqD (fun ρ => (gv ρ 2 >>= fun x => ((gv ρ 1 >>= fun x => (gv ρ 4 >>= fun x => ((((.ok (.int 3) >>= fun x => (.ok (.int 7) >>= fun x => .ok [] >>= fun xs => .ok (x :: xs)) >>= fun xs => .ok (x :: xs)) >>= fun xs => lenOk xs.length >>= fun _ => .ok (.list xs)) >>= fun x => ((gv ρ 1 >>= fun x => ((gv ρ 4 >>= fun x => .ok (.int 1) >>= fun y => addD x y) >>= fun x => (.ok (.int 2) >>= fun x => .ok [] >>= fun xs => .ok (x :: xs)) >>= fun xs => .ok (x :: xs)) >>= fun xs => .ok (x :: xs)) >>= fnD 3 f__law_mix) >>= fun y => ixD x y) >>= fun x => .ok [] >>= fun xs => .ok (x :: xs)) >>= fun xs => .ok (x :: xs)) >>= fun xs => .ok (x :: xs)) >>= fnD 3 f__law_mix) >>= fun y => ixD x y) >>= fun d => (unT 2 (tsC (tgN 5) (tsC (tgN 6) tsN))) d ρ >>= fun ρ' => .ok (.nx ρ')) (seqD (fun ρ => (((((.ok (.str (tx [110, 101, 97, 114])) >>= fun x => .ok [] >>= fun xs => .ok (x :: xs)) >>= fun xs => lenOk xs.length >>= fun _ => .ok (.list xs)) >>= fun x => (((.ok (.str (tx [114, 111, 119])) >>= fun x => (.ok (.str (tx [119, 97, 105, 116])) >>= fun x => .ok [] >>= fun xs => .ok (x :: xs)) >>= fun xs => .ok (x :: xs)) >>= fun xs => lenOk xs.length >>= fun _ => .ok (.list xs)) >>= fun x => ((.ok [] >>= fun xs => lenOk xs.length >>= fun _ => .ok (.list xs)) >>= fun x => ((((.ok (.str (tx [110, 101, 97, 114])) >>= fun x => .ok [] >>= fun xs => .ok (x :: xs)) >>= fun xs => lenOk xs.length >>= fun _ => .ok (.list xs)) >>= fun x => .ok (.int 3) >>= fun y => mulE x y) >>= fun x => (((.ok (.str (tx [119, 97, 105, 116])) >>= fun x => (.ok (.str (tx [78, 101, 97, 114])) >>= fun x => .ok [] >>= fun xs => .ok (x :: xs)) >>= fun xs => .ok (x :: xs)) >>= fun xs => lenOk xs.length >>= fun _ => .ok (.list xs)) >>= fun x => (((.ok (.str (tx [])) >>= fun x => .ok [] >>= fun xs => .ok (x :: xs)) >>= fun xs => lenOk xs.length >>= fun _ => .ok (.list xs)) >>= fun x => .ok [] >>= fun xs => .ok (x :: xs)) >>= fun xs => .ok (x :: xs)) >>= fun xs => .ok (x :: xs)) >>= fun xs => .ok (x :: xs)) >>= fun xs => .ok (x :: xs)) >>= fun xs => .ok (x :: xs)) >>= fun xs => lenOk xs.length >>= fun _ => .ok (.list xs)) >>= fun x => ((gv ρ 1 >>= fun x => ((gv ρ 4 >>= fun x => .ok (.int 2) >>= fun y => addD x y) >>= fun x => ((((.ok (.int 2) >>= fun x => (.ok (.int 6) >>= fun x => .ok [] >>= fun xs => .ok (x :: xs)) >>= fun xs => .ok (x :: xs)) >>= fun xs => lenOk xs.length >>= fun _ => .ok (.list xs)) >>= fun x => ((gv ρ 1 >>= fun x => ((gv ρ 4 >>= fun x => .ok (.int 3) >>= fun y => addD x y) >>= fun x => (.ok (.int 2) >>= fun x => .ok [] >>= fun xs => .ok (x :: xs)) >>= fun xs => .ok (x :: xs)) >>= fun xs => .ok (x :: xs)) >>= fnD 3 f__law_mix) >>= fun y => ixD x y) >>= fun x => .ok [] >>= fun xs => .ok (x :: xs)) >>= fun xs => .ok (x :: xs)) >>= fun xs => .ok (x :: xs)) >>= fnD 3 f__law_mix) >>= fun y => ixD x y) >>= fun d => setD 7 d ρ) (seqD (fun ρ => (((((((.ok (.int 0) >>= fun x => (.ok (.int 0) >>= fun x => .ok [] >>= fun xs => .ok (x :: xs)) >>= fun xs => .ok (x :: xs)) >>= fun xs => lenOk xs.length >>= fun _ => .ok (.tuple xs)) >>= fun x => (((((.ok (.int 0) >>= fun x => (.ok (.int 1) >>= fun x => .ok [] >>= fun xs => .ok (x :: xs)) >>= fun xs => .ok (x :: xs)) >>= fun xs => lenOk xs.length >>= fun _ => .ok (.tuple xs)) >>= fun x => .ok [] >>= fun xs => .ok (x :: xs)) >>= fun xs => lenOk xs.length >>= fun _ => .ok (.list xs)) >>= fun x => .ok [] >>= fun xs => .ok (x :: xs)) >>= fun xs => .ok (x :: xs)) >>= fun xs => lenOk xs.length >>= fun _ => .ok (.tuple xs)) >>= fun x => (((((.ok (.int 0) >>= fun x => (.ok (.int 1) >>= fun x => .ok [] >>= fun xs => .ok (x :: xs)) >>= fun xs => .ok (x :: xs)) >>= fun xs => lenOk xs.length >>= fun _ => .ok (.tuple xs)) >>= fun x => (((((.ok (.int 0) >>= fun x => (.ok (.int 0) >>= fun x => .ok [] >>= fun xs => .ok (x :: xs)) >>= fun xs => .ok (x :: xs)) >>= fun xs => lenOk xs.length >>= fun _ => .ok (.tuple xs)) >>= fun x => (((.ok (.int 0) >>= fun x => (.ok (.int 1) >>= fun x => .ok [] >>= fun xs => .ok (x :: xs)) >>= fun xs => .ok (x :: xs)) >>= fun xs => lenOk xs.length >>= fun _ => .ok (.tuple xs)) >>= fun x => .ok [] >>= fun xs => .ok (x :: xs)) >>= fun xs => .ok (x :: xs)) >>= fun xs => lenOk xs.length >>= fun _ => .ok (.list xs)) >>= fun x => .ok [] >>= fun xs => .ok (x :: xs)) >>= fun xs => .ok (x :: xs)) >>= fun xs => lenOk xs.length >>= fun _ => .ok (.tuple xs)) >>= fun x => (((((.ok (.int 9) >>= fun x => (.ok (.int 9) >>= fun x => .ok [] >>= fun xs => .ok (x :: xs)) >>= fun xs => .ok (x :: xs)) >>= fun xs => lenOk xs.length >>= fun _ => .ok (.tuple xs)) >>= fun x => ((.ok [] >>= fun xs => lenOk xs.length >>= fun _ => .ok (.list xs)) >>= fun x => .ok [] >>= fun xs => .ok (x :: xs)) >>= fun xs => .ok (x :: xs)) >>= fun xs => lenOk xs.length >>= fun _ => .ok (.tuple xs)) >>= fun x => (((((.ok (.int 0) >>= fun x => (.ok (.int 0) >>= fun x => .ok [] >>= fun xs => .ok (x :: xs)) >>= fun xs => .ok (x :: xs)) >>= fun xs => lenOk xs.length >>= fun _ => .ok (.tuple xs)) >>= fun x => (((((.ok (.int 1) >>= fun x => (.ok (.int 1) >>= fun x => .ok [] >>= fun xs => .ok (x :: xs)) >>= fun xs => .ok (x :: xs)) >>= fun xs => lenOk xs.length >>= fun _ => .ok (.tuple xs)) >>= fun x => .ok [] >>= fun xs => .ok (x :: xs)) >>= fun xs => lenOk xs.length >>= fun _ => .ok (.list xs)) >>= fun x => .ok [] >>= fun xs => .ok (x :: xs)) >>= fun xs => .ok (x :: xs)) >>= fun xs => lenOk xs.length >>= fun _ => .ok (.tuple xs)) >>= fun x => (((((.ok (.int 0) >>= fun x => (.ok (.int 0) >>= fun x => .ok [] >>= fun xs => .ok (x :: xs)) >>= fun xs => .ok (x :: xs)) >>= fun xs => lenOk xs.length >>= fun _ => .ok (.tuple xs)) >>= fun x => (((((.ok (.int 0) >>= fun x => (.ok (.int 1) >>= fun x => .ok [] >>= fun xs => .ok (x :: xs)) >>= fun xs => .ok (x :: xs)) >>= fun xs => lenOk xs.length >>= fun _ => .ok (.tuple xs)) >>= fun x => (((.ok (.int (-1)) >>= fun x => (.ok (.int 0) >>= fun x => .ok [] >>= fun xs => .ok (x :: xs)) >>= fun xs => .ok (x :: xs)) >>= fun xs => lenOk xs.length >>= fun _ => .ok (.tuple xs)) >>= fun x => .ok [] >>= fun xs => .ok (x :: xs)) >>= fun xs => .ok (x :: xs)) >>= fun xs => lenOk xs.length >>= fun _ => .ok (.list xs)) >>= fun x => .ok [] >>= fun xs => .ok (x :: xs)) >>= fun xs => .ok (x :: xs)) >>= fun xs => lenOk xs.length >>= fun _ => .ok (.tuple xs)) >>= fun x => (((((.ok (.int 0) >>= fun x => (.ok (.int 0) >>= fun x => .ok [] >>= fun xs => .ok (x :: xs)) >>= fun xs => .ok (x :: xs)) >>= fun xs => lenOk xs.length >>= fun _ => .ok (.tuple xs)) >>= fun x => ((.ok [] >>= fun xs => lenOk xs.length >>= fun _ => .ok (.list xs)) >>= fun x => .ok [] >>= fun xs => .ok (x :: xs)) >>= fun xs => .ok (x :: xs)) >>= fun xs => lenOk xs.length >>= fun _ => .ok (.tuple xs)) >>= fun x => .ok [] >>= fun xs => .ok (x :: xs)) >>= fun xs => .ok (x :: xs)) >>= fun xs => .ok (x :: xs)) >>= fun xs => .ok (x :: xs)) >>= fun xs => .ok (x :: xs)) >>= fun xs => .ok (x :: xs)) >>= fun xs => lenOk xs.length >>= fun _ => .ok (.list xs)) >>= fun x => ((gv ρ 1 >>= fun x => ((gv ρ 4 >>= fun x => .ok (.int 4) >>= fun y => addD x y) >>= fun x => (.ok (.int 6) >>= fun x => .ok [] >>= fun xs => .ok (x :: xs)) >>= fun xs => .ok (x :: xs)) >>= fun xs => .ok (x :: xs)) >>= fnD 3 f__law_mix) >>= fun y => ixD x y) >>= fun d => setD 8 d ρ) (seqD (fun ρ => (((.ok (.str (tx [117])) >>= fun x => (.ok (.str (tx [115])) >>= fun x => (.ok (.str (tx [])) >>= fun x => (.ok (.str (tx [117, 100])) >>= fun x => (.ok (.str (tx [113])) >>= fun x => (.ok (.str (tx [115, 120])) >>= fun x => ((.ok (.str (tx [115])) >>= fun x => .ok (.int 101) >>= fun y => mulD x y) >>= fun x => .ok [] >>= fun xs => .ok (x :: xs)) >>= fun xs => .ok (x :: xs)) >>= fun xs => .ok (x :: xs)) >>= fun xs => .ok (x :: xs)) >>= fun xs => .ok (x :: xs)) >>= fun xs => .ok (x :: xs)) >>= fun xs => .ok (x :: xs)) >>= fun xs => lenOk xs.length >>= fun _ => .ok (.list xs)) >>= fun x => ((gv ρ 1 >>= fun x => ((gv ρ 4 >>= fun x => .ok (.int 5) >>= fun y => addD x y) >>= fun x => (.ok (.int 7) >>= fun x => .ok [] >>= fun xs => .ok (x :: xs)) >>= fun xs => .ok (x :: xs)) >>= fun xs => .ok (x :: xs)) >>= fnD 3 f__law_mix) >>= fun y => ixD x y) >>= fun d => setD 9 d ρ) (seqD (fun ρ => ((((gv ρ 7 >>= fun x => (gv ρ 8 >>= fun x => .ok [] >>= fun xs => .ok (x :: xs)) >>= fun xs => .ok (x :: xs)) >>= fun xs => lenOk xs.length >>= fun _ => .ok (.tuple xs)) >>= fun x => .ok [] >>= fun xs => .ok (x :: xs)) >>= reprD) >>= fun d => setD 10 d ρ) (seqD (fun ρ => ((((gv ρ 8 >>= fun x => .ok (.int 0) >>= fun y => ixD x y) >>= fun x => .ok [] >>= fun xs => .ok (x :: xs)) >>= fun xs => lenOk xs.length >>= fun _ => .ok (.list xs)) >>= fun x => (gv ρ 8 >>= fun x => .ok (.int 1) >>= fun y => ixD x y) >>= fun y => addD x y) >>= fun d => setD 11 d ρ) (seqD (fun ρ => (.ok [] >>= fun xs => lenOk xs.length >>= fun _ => .ok (.list xs)) >>= fun d => setD 12 d ρ) (seqD (fun ρ => ((((gv ρ 5 >>= fun x => .ok [] >>= fun xs => .ok (x :: xs)) >>= lenD) >>= fun x => .ok [] >>= fun xs => .ok (x :: xs)) >>= rg1) >>= fun ds => forD (tgN 13) m_law_b0 ds ρ) (seqD (fun ρ => m_law_c1 ρ >>= fun d => setD 14 d ρ) (seqD (fun ρ => (gv ρ 6 >>= fun d => truD d >>= fun k => if k then .ok d else (((.ok .none >>= fun x => (((.ok (.str (tx [115, 116, 97, 116, 101])) >>= fun x => (.ok (.int 0) >>= fun x => .ok [] >>= fun xs => .ok (x :: xs)) >>= fun xs => .ok (x :: xs)) >>= fun xs => lenOk xs.length >>= fun _ => .ok (.tuple xs)) >>= fun x => .ok [] >>= fun xs => .ok (x :: xs)) >>= fun xs => .ok (x :: xs)) >>= fun xs => lenOk xs.length >>= fun _ => .ok (.list xs)) >>= fun x => ((((gv ρ 8 >>= fun x => .ok (.int 0) >>= fun y => ixD x y) >>= fun x => gv ρ 12 >>= fun y => ninD x y) >>= fun x => .ok [] >>= fun xs => .ok (x :: xs)) >>= intD) >>= fun y => ixD x y)) >>= fun d => setD 15 d ρ) (seqD (fun ρ => m_law_c2 ρ >>= fun d => setD 16 d ρ) (seqD (fun ρ => (gv ρ 6 >>= fun d => truD d >>= fun k => if k then .ok d else ((((((.ok (.str (tx [115, 105, 122, 101])) >>= fun x => (((gv ρ 7 >>= fun x => .ok [] >>= fun xs => .ok (x :: xs)) >>= lenD) >>= fun x => .ok [] >>= fun xs => .ok (x :: xs)) >>= fun xs => .ok (x :: xs)) >>= fun xs => lenOk xs.length >>= fun _ => .ok (.tuple xs)) >>= fun x => (.ok .none >>= fun x => .ok [] >>= fun xs => .ok (x :: xs)) >>= fun xs => .ok (x :: xs)) >>= fun xs => lenOk xs.length >>= fun _ => .ok (.list xs)) >>= fun x => ((chD (fun i j => decide (i ≤ j)) (fun i j => decide (i ≤ j)) (fun ρ => .ok (.int 1)) (fun ρ => ((gv ρ 7 >>= fun x => .ok [] >>= fun xs => .ok (x :: xs)) >>= lenD)) (fun ρ => .ok (.int 2)) ρ >>= fun x => .ok [] >>= fun xs => .ok (x :: xs)) >>= intD) >>= fun y => ixD x y) >>= fun d => truD d >>= fun k => if k then .ok d else (((.ok .none >>= fun x => (((.ok (.str (tx [114, 117, 108, 101])) >>= fun x => (((gv ρ 16 >>= fun x => ((.ok (.int 0) >>= fun x => .ok [] >>= fun xs => .ok (x :: xs)) >>= fun xs => lenOk xs.length >>= fun _ => .ok (.list xs)) >>= fun y => addD x y) >>= fun x => .ok (.int 0) >>= fun y => ixD x y) >>= fun x => .ok [] >>= fun xs => .ok (x :: xs)) >>= fun xs => .ok (x :: xs)) >>= fun xs => lenOk xs.length >>= fun _ => .ok (.tuple xs)) >>= fun x => .ok [] >>= fun xs => .ok (x :: xs)) >>= fun xs => .ok (x :: xs)) >>= fun xs => lenOk xs.length >>= fun _ => .ok (.list xs)) >>= fun x => (((gv ρ 16 >>= fun x => (.ok [] >>= fun xs => lenOk xs.length >>= fun _ => .ok (.list xs)) >>= fun y => neD x y) >>= fun x => .ok [] >>= fun xs => .ok (x :: xs)) >>= intD) >>= fun y => ixD x y))) >>= fun d => setD 17 d ρ) (seqD (fun ρ => (gv ρ 17 >>= fun d => truD d >>= fun k => if k then .ok d else ((((.ok .none >>= fun x => (((.ok (.str (tx [115, 116, 97, 116, 101])) >>= fun x => (((gv ρ 14 >>= fun x => ((.ok (.int 0) >>= fun x => .ok [] >>= fun xs => .ok (x :: xs)) >>= fun xs => lenOk xs.length >>= fun _ => .ok (.list xs)) >>= fun y => addD x y) >>= fun x => .ok (.int 0) >>= fun y => ixD x y) >>= fun x => .ok [] >>= fun xs => .ok (x :: xs)) >>= fun xs => .ok (x :: xs)) >>= fun xs => lenOk xs.length >>= fun _ => .ok (.tuple xs)) >>= fun x => .ok [] >>= fun xs => .ok (x :: xs)) >>= fun xs => .ok (x :: xs)) >>= fun xs => lenOk xs.length >>= fun _ => .ok (.list xs)) >>= fun x => (((gv ρ 14 >>= fun x => (.ok [] >>= fun xs => lenOk xs.length >>= fun _ => .ok (.list xs)) >>= fun y => neD x y) >>= fun x => .ok [] >>= fun xs => .ok (x :: xs)) >>= intD) >>= fun y => ixD x y) >>= fun d => truD d >>= fun k => if k then .ok d else (((((.ok (.str (tx [115, 116, 97, 116, 101])) >>= fun x => ((((gv ρ 8 >>= fun x => .ok (.int 1) >>= fun y => ixD x y) >>= fun x => .ok [] >>= fun xs => .ok (x :: xs)) >>= lenD) >>= fun x => .ok [] >>= fun xs => .ok (x :: xs)) >>= fun xs => .ok (x :: xs)) >>= fun xs => lenOk xs.length >>= fun _ => .ok (.tuple xs)) >>= fun x => (.ok .none >>= fun x => .ok [] >>= fun xs => .ok (x :: xs)) >>= fun xs => .ok (x :: xs)) >>= fun xs => lenOk xs.length >>= fun _ => .ok (.list xs)) >>= fun x => ((((((gv ρ 8 >>= fun x => .ok (.int 1) >>= fun y => ixD x y) >>= fun x => .ok [] >>= fun xs => .ok (x :: xs)) >>= lenD) >>= fun x => ((gv ρ 7 >>= fun x => .ok [] >>= fun xs => .ok (x :: xs)) >>= lenD) >>= fun y => eqD x y) >>= fun x => .ok [] >>= fun xs => .ok (x :: xs)) >>= intD) >>= fun y => ixD x y))) >>= fun d => setD 18 d ρ) (seqD (fun ρ => m_law_c3 ρ >>= fun d => setD 19 d ρ) (seqD (fun ρ => (gv ρ 17 >>= fun d => truD d >>= fun k => if k then .ok d else ((((.ok .none >>= fun x => (((.ok (.str (tx [115, 116, 97, 116, 101])) >>= fun x => (((gv ρ 19 >>= fun x => ((.ok (.int 0) >>= fun x => .ok [] >>= fun xs => .ok (x :: xs)) >>= fun xs => lenOk xs.length >>= fun _ => .ok (.list xs)) >>= fun y => addD x y) >>= fun x => .ok (.int 0) >>= fun y => ixD x y) >>= fun x => .ok [] >>= fun xs => .ok (x :: xs)) >>= fun xs => .ok (x :: xs)) >>= fun xs => lenOk xs.length >>= fun _ => .ok (.tuple xs)) >>= fun x => .ok [] >>= fun xs => .ok (x :: xs)) >>= fun xs => .ok (x :: xs)) >>= fun xs => lenOk xs.length >>= fun _ => .ok (.list xs)) >>= fun x => (((gv ρ 19 >>= fun x => (.ok [] >>= fun xs => lenOk xs.length >>= fun _ => .ok (.list xs)) >>= fun y => neD x y) >>= fun x => .ok [] >>= fun xs => .ok (x :: xs)) >>= intD) >>= fun y => ixD x y) >>= fun d => truD d >>= fun k => if k then .ok d else (((((.ok (.str (tx [115, 116, 97, 116, 101])) >>= fun x => ((((gv ρ 8 >>= fun x => .ok (.int 1) >>= fun y => ixD x y) >>= fun x => .ok [] >>= fun xs => .ok (x :: xs)) >>= lenD) >>= fun x => .ok [] >>= fun xs => .ok (x :: xs)) >>= fun xs => .ok (x :: xs)) >>= fun xs => lenOk xs.length >>= fun _ => .ok (.tuple xs)) >>= fun x => (.ok .none >>= fun x => .ok [] >>= fun xs => .ok (x :: xs)) >>= fun xs => .ok (x :: xs)) >>= fun xs => lenOk xs.length >>= fun _ => .ok (.list xs)) >>= fun x => ((((((gv ρ 8 >>= fun x => .ok (.int 1) >>= fun y => ixD x y) >>= fun x => .ok [] >>= fun xs => .ok (x :: xs)) >>= lenD) >>= fun x => ((gv ρ 7 >>= fun x => .ok [] >>= fun xs => .ok (x :: xs)) >>= lenD) >>= fun y => eqD x y) >>= fun x => .ok [] >>= fun xs => .ok (x :: xs)) >>= intD) >>= fun y => ixD x y))) >>= fun d => setD 20 d ρ) (seqD (fun ρ => (gv ρ 18 >>= fun d => truD d >>= fun k => if k then .ok d else (((((.ok (.str (tx [109, 111, 118, 101])) >>= fun x => (.ok (.int 0) >>= fun x => .ok [] >>= fun xs => .ok (x :: xs)) >>= fun xs => .ok (x :: xs)) >>= fun xs => lenOk xs.length >>= fun _ => .ok (.tuple xs)) >>= fun x => (.ok .none >>= fun x => .ok [] >>= fun xs => .ok (x :: xs)) >>= fun xs => .ok (x :: xs)) >>= fun xs => lenOk xs.length >>= fun _ => .ok (.list xs)) >>= fun x => (((gv ρ 9 >>= fun x => ((.ok (.str (tx [117])) >>= fun x => (.ok (.str (tx [115])) >>= fun x => .ok [] >>= fun xs => .ok (x :: xs)) >>= fun xs => .ok (x :: xs)) >>= fun xs => lenOk xs.length >>= fun _ => .ok (.list xs)) >>= fun y => inD x y) >>= fun x => .ok [] >>= fun xs => .ok (x :: xs)) >>= intD) >>= fun y => ixD x y)) >>= fun d => setD 21 d ρ) (seqD (fun ρ => m_law_c4 ρ >>= fun d => setD 22 d ρ) (seqD (fun ρ => (gv ρ 18 >>= fun d => truD d >>= fun k => if k then .ok d else ((((.ok .none >>= fun x => (((.ok (.str (tx [109, 97, 110, 121])) >>= fun x => (((gv ρ 9 >>= fun x => .ok [] >>= fun xs => .ok (x :: xs)) >>= lenD) >>= fun x => .ok [] >>= fun xs => .ok (x :: xs)) >>= fun xs => .ok (x :: xs)) >>= fun xs => lenOk xs.length >>= fun _ => .ok (.tuple xs)) >>= fun x => .ok [] >>= fun xs => .ok (x :: xs)) >>= fun xs => .ok (x :: xs)) >>= fun xs => lenOk xs.length >>= fun _ => .ok (.list xs)) >>= fun x => (((((gv ρ 9 >>= fun x => .ok [] >>= fun xs => .ok (x :: xs)) >>= lenD) >>= fun x => .ok (.int 100) >>= fun y => gtD x y) >>= fun x => .ok [] >>= fun xs => .ok (x :: xs)) >>= intD) >>= fun y => ixD x y) >>= fun d => truD d >>= fun k => if k then .ok d else (((.ok .none >>= fun x => (((.ok (.str (tx [109, 111, 118, 101])) >>= fun x => (((gv ρ 22 >>= fun x => ((.ok (.int 0) >>= fun x => .ok [] >>= fun xs => .ok (x :: xs)) >>= fun xs => lenOk xs.length >>= fun _ => .ok (.list xs)) >>= fun y => addD x y) >>= fun x => .ok (.int 0) >>= fun y => ixD x y) >>= fun x => .ok [] >>= fun xs => .ok (x :: xs)) >>= fun xs => .ok (x :: xs)) >>= fun xs => lenOk xs.length >>= fun _ => .ok (.tuple xs)) >>= fun x => .ok [] >>= fun xs => .ok (x :: xs)) >>= fun xs => .ok (x :: xs)) >>= fun xs => lenOk xs.length >>= fun _ => .ok (.list xs)) >>= fun x => (((gv ρ 22 >>= fun x => (.ok [] >>= fun xs => lenOk xs.length >>= fun _ => .ok (.list xs)) >>= fun y => neD x y) >>= fun x => .ok [] >>= fun xs => .ok (x :: xs)) >>= intD) >>= fun y => ixD x y))) >>= fun d => setD 23 d ρ) (fun ρ => (((m_law_c5 ρ >>= fun x => ((gv ρ 15 >>= fun x => (gv ρ 21 >>= fun x => (gv ρ 23 >>= fun x => (gv ρ 18 >>= fun x => (gv ρ 18 >>= fun x => (gv ρ 18 >>= fun x => (gv ρ 20 >>= fun x => .ok [] >>= fun xs => .ok (x :: xs)) >>= fun xs => .ok (x :: xs)) >>= fun xs => .ok (x :: xs)) >>= fun xs => .ok (x :: xs)) >>= fun xs => .ok (x :: xs)) >>= fun xs => .ok (x :: xs)) >>= fun xs => .ok (x :: xs)) >>= fun xs => lenOk xs.length >>= fun _ => .ok (.list xs)) >>= fun y => neD x y) >>= asB) >>= fun c => if c then .ok true else ((((((gv ρ 7 >>= fun x => (gv ρ 8 >>= fun x => .ok [] >>= fun xs => .ok (x :: xs)) >>= fun xs => .ok (x :: xs)) >>= fun xs => lenOk xs.length >>= fun _ => .ok (.tuple xs)) >>= fun x => .ok [] >>= fun xs => .ok (x :: xs)) >>= reprD) >>= fun x => gv ρ 10 >>= fun y => neD x y) >>= asB)) >>= fun k => if k then (fun ρ => .ok (.bool false) >>= fun d => .ok (.rt d)) ρ else (fun ρ => .ok (.nx ρ)) ρ)))))))))))))))))))
def m_law : Env' → R Out := seqD (fun ρ => ((gv ρ 0 >>= fun x => .ok [] >>= fun xs => .ok (x :: xs)) >>= fnD 1 f__law_draws) >>= fun d => setD 1 d ρ) (seqD (fun ρ => ((((((.ok (.str (tx [46, 46])) >>= fun x => .ok [] >>= fun xs => .ok (x :: xs)) >>= fun xs => lenOk xs.length >>= fun _ => .ok (.list xs)) >>= fun x => (.ok .none >>= fun x => .ok [] >>= fun xs => .ok (x :: xs)) >>= fun xs => .ok (x :: xs)) >>= fun xs => lenOk xs.length >>= fun _ => .ok (.tuple xs)) >>= fun x => (((((.ok (.str (tx [46, 46])) >>= fun x => (.ok (.str (tx [46, 35])) >>= fun x => .ok [] >>= fun xs => .ok (x :: xs)) >>= fun xs => .ok (x :: xs)) >>= fun xs => lenOk xs.length >>= fun _ => .ok (.list xs)) >>= fun x => (.ok .none >>= fun x => .ok [] >>= fun xs => .ok (x :: xs)) >>= fun xs => .ok (x :: xs)) >>= fun xs => lenOk xs.length >>= fun _ => .ok (.tuple xs)) >>= fun x => (((((.ok (.str (tx [46, 46, 46, 46, 46])) >>= fun x => (.ok (.str (tx [35, 46, 35, 35, 35])) >>= fun x => .ok [] >>= fun xs => .ok (x :: xs)) >>= fun xs => .ok (x :: xs)) >>= fun xs => lenOk xs.length >>= fun _ => .ok (.list xs)) >>= fun x => (.ok .none >>= fun x => .ok [] >>= fun xs => .ok (x :: xs)) >>= fun xs => .ok (x :: xs)) >>= fun xs => lenOk xs.length >>= fun _ => .ok (.tuple xs)) >>= fun x => ((((.ok [] >>= fun xs => lenOk xs.length >>= fun _ => .ok (.list xs)) >>= fun x => (((.ok (.str (tx [115, 105, 122, 101])) >>= fun x => (.ok (.int 0) >>= fun x => .ok [] >>= fun xs => .ok (x :: xs)) >>= fun xs => .ok (x :: xs)) >>= fun xs => lenOk xs.length >>= fun _ => .ok (.tuple xs)) >>= fun x => .ok [] >>= fun xs => .ok (x :: xs)) >>= fun xs => .ok (x :: xs)) >>= fun xs => lenOk xs.length >>= fun _ => .ok (.tuple xs)) >>= fun x => (((((.ok (.str (tx [46, 46])) >>= fun x => (.ok (.str (tx [46])) >>= fun x => .ok [] >>= fun xs => .ok (x :: xs)) >>= fun xs => .ok (x :: xs)) >>= fun xs => lenOk xs.length >>= fun _ => .ok (.list xs)) >>= fun x => (((.ok (.str (tx [114, 111, 119])) >>= fun x => (.ok (.int 1) >>= fun x => .ok [] >>= fun xs => .ok (x :: xs)) >>= fun xs => .ok (x :: xs)) >>= fun xs => lenOk xs.length >>= fun _ => .ok (.tuple xs)) >>= fun x => .ok [] >>= fun xs => .ok (x :: xs)) >>= fun xs => .ok (x :: xs)) >>= fun xs => lenOk xs.length >>= fun _ => .ok (.tuple xs)) >>= fun x => (((((.ok (.str (tx [120, 46])) >>= fun x => .ok [] >>= fun xs => .ok (x :: xs)) >>= fun xs => lenOk xs.length >>= fun _ => .ok (.list xs)) >>= fun x => (((.ok (.str (tx [114, 111, 119])) >>= fun x => (.ok (.int 0) >>= fun x => .ok [] >>= fun xs => .ok (x :: xs)) >>= fun xs => .ok (x :: xs)) >>= fun xs => lenOk xs.length >>= fun _ => .ok (.tuple xs)) >>= fun x => .ok [] >>= fun xs => .ok (x :: xs)) >>= fun xs => .ok (x :: xs)) >>= fun xs => lenOk xs.length >>= fun _ => .ok (.tuple xs)) >>= fun x => ((((((.ok (.str (tx [46, 46, 46, 46, 46, 46])) >>= fun x => .ok [] >>= fun xs => .ok (x :: xs)) >>= fun xs => lenOk xs.length >>= fun _ => .ok (.list xs)) >>= fun x => .ok (.int 3) >>= fun y => mulE x y) >>= fun x => (((.ok (.str (tx [109, 97, 110, 121])) >>= fun x => (.ok (.int 18) >>= fun x => .ok [] >>= fun xs => .ok (x :: xs)) >>= fun xs => .ok (x :: xs)) >>= fun xs => lenOk xs.length >>= fun _ => .ok (.tuple xs)) >>= fun x => .ok [] >>= fun xs => .ok (x :: xs)) >>= fun xs => .ok (x :: xs)) >>= fun xs => lenOk xs.length >>= fun _ => .ok (.tuple xs)) >>= fun x => .ok [] >>= fun xs => .ok (x :: xs)) >>= fun xs => .ok (x :: xs)) >>= fun xs => .ok (x :: xs)) >>= fun xs => .ok (x :: xs)) >>= fun xs => .ok (x :: xs)) >>= fun xs => .ok (x :: xs)) >>= fun xs => .ok (x :: xs)) >>= fun xs => lenOk xs.length >>= fun _ => .ok (.list xs)) >>= fun d => setD 2 d ρ) (seqD (fun ρ => ((.ok (.int 12) >>= fun x => .ok [] >>= fun xs => .ok (x :: xs)) >>= rg1) >>= fun ds => forD (tgN 3) m_law_b1 ds ρ) (fun ρ => .ok (.bool true) >>= fun d => .ok (.rt d))))
def f_law : List D → R D := fun ds => noX (m_law (arg0 27 ds)) >>= ret false
end Gk51

set_option Elab.async false
set_option linter.all false
set_option maxRecDepth 100000
namespace Gk51
open PySem PySem.Spec PyProof.Rows L2 Vs Vt
open En (en)
def p__law_mix (draws_ : (List Int)) (k_ : Int) (many_ : Int) : R Int := .ok ((0 : Int) : Int) >>= fun cell_there__1 => (if decide ((0 : Int) < (draws_.length : Int)) then modG k_ (draws_.length : Int) >>= fun i_3 => atR draws_ i_3 >>= fun v_4 => .ok v_4 else .ok cell_there__1 : R Int) >>= fun s_5 => (if decide (k_ < (draws_.length : Int)) then modG s_5 many_ >>= fun i_8 => .ok i_8 else modG (((s_5 * (7919 : Int)) + (k_ * (104729 : Int))) / (3 : Int)) many_ >>= fun i_9 => .ok i_9)
set_option maxHeartbeats 0 in
theorem t__law_mix (draws_ : (List Int)) (k_ : Int) (many_ : Int) : Ev (f__law_mix [en draws_, en k_, en many_]) (p__law_mix draws_ k_ many_) :=
  v_def [some (en draws_), some (en k_), some (en many_), none] ((jm_bind fun cell_there__1 hcell_there__1 => (jm_set (x := cell_there__1) (at_ok hcell_there__1 rfl) [some (en draws_), some (en k_), some (en many_), some (en cell_there__1)] (jm_seq (fun (s_5 : Int) (j_6 : Nat → Option D) => [some (en draws_), some (en k_), some (en many_), some (en s_5)]) (jm_if (t_val (e_gt (e_lenL (xs := draws_) (a_co rfl a_no)) rfl)) (fun k_2 => (jm_last (jm_bind fun i_3 hi_3 => (jm_bind fun v_4 hv_4 => (jm_set (x := v_4) (atv hv_4 (v_ixl (xs := draws_) rfl (atv hi_3 (v_mod (e_intI (a_co rfl a_no)) (e_lenL (xs := draws_) (a_co rfl a_no)))))) [some (en draws_), some (en k_), some (en many_), some (en v_4)] (jm_ok ⟨jn [some (en draws_), some (en k_), some (en many_), some (en v_4)], rfl⟩)))))) (fun k_2 => (jm_ok ⟨jn [some (en draws_), some (en k_), some (en many_), some (en cell_there__1)], rfl⟩))) (fun s_5 j_6 => (jm_ifs (t_val (e_lt rfl (e_lenL (xs := draws_) (a_co rfl a_no)))) (fun k_7 => (jm_bind fun i_8 hi_8 => (jm_retS _ (atv hi_8 (v_mod (e_intI (a_co rfl a_no)) rfl)) rfl))) (fun k_7 => (jm_first (jm_last (jm_bind fun i_9 hi_9 => (jm_retS _ (atv hi_9 (v_mod (e_intI (a_co (e_fdiv (e_intI (a_co (e_add (e_mulr rfl rfl (by decide)) (e_mulr rfl rfl (by decide))) a_no)) rfl (by decide)) a_no)) rfl)) rfl)))))))))))
def p__law_of (which_ : Int) (maze_ : (List Tx)) (rules_ : (List Tx)) (state_ : ((Int × Int) × (List (Int × Int)))) (moves_ : Tx) : R (Option (Tx × Int)) := decO (f__law_of [en which_, en maze_, en rules_, en state_, en moves_])
set_option maxHeartbeats 0 in
theorem t__law_of (which_ : Int) (maze_ : (List Tx)) (rules_ : (List Tx)) (state_ : ((Int × Int) × (List (Int × Int)))) (moves_ : Tx) : Ev (f__law_of [en which_, en maze_, en rules_, en state_, en moves_]) (p__law_of which_ maze_ rules_ state_ moves_) := ev_dec _
def p_law_b1 (maze_ : (List Tx)) (free_ : (List (Int × Int))) (row_ : Int) : R (List (Int × Int)) := atR maze_ row_ >>= fun v_25 => lenS v_25 >>= fun n_26 => rgR1 n_26 >>= fun l_27 => filG (fun (a_28 : Int) => atR maze_ row_ >>= fun v_31 => atS v_31 a_28 >>= fun v_32 => .ok (decide (v_32 = ([46] : Tx)))) (fun (a_28 : Int) => .ok (row_, a_28)) l_27 >>= fun l_33 => addL free_ l_33 >>= fun l_34 => .ok l_34
set_option maxHeartbeats 0 in
theorem t_law_b1 {ns : List Int} (draws_ : (List Int)) (pool_ : (List ((List Tx) × (Option (Tx × Int))))) (turn_ : Int) (at_ : Int) (maze_ : (List Tx)) (due_ : (Option (Tx × Int))) (rules_ : (List Tx)) (state_ : ((Int × Int) × (List (Int × Int)))) (moves_ : Tx) (kept_ : Rs) (cells_ : (List (Int × Int))) (free_ : (List (Int × Int))) (row_ : Int) (j : Nat → Option D) : Jm (ap m_law_b0 [some (scr ns), some (en draws_), some (en pool_), some (en turn_), some (en at_), some (en maze_), some (en due_), some (en rules_), some (en state_), some (en moves_), some (en kept_), some (en cells_), some (en free_), some (en row_), j 14, j 15, j 16, j 17, j 18, j 19, j 20, j 21, j 22, j 23, j 24, j 25, j 26]) (p_law_b1 maze_ free_ row_) (WL (σ := (List (Int × Int))) (fun (s : (List (Int × Int))) (j : Nat → Option D) => [some (scr ns), some (en draws_), some (en pool_), some (en turn_), some (en at_), some (en maze_), some (en due_), some (en rules_), some (en state_), some (en moves_), some (en kept_), some (en cells_), some (en s), j 13, j 14, j 15, j 16, j 17, j 18, j 19, j 20, j 21, j 22, j 23, j 24, j 25, j 26])) :=
  (jm_last (jm_bind fun v_25 hv_25 => (jm_bind fun n_26 hn_26 => (jm_bind fun l_27 hl_27 => (jm_bind fun l_33 hl_33 => (jm_bind fun l_34 hl_34 => (jm_set (x := l_34) (atl hl_34 (v_addL (a := free_) (b := l_33) rfl (atl hl_33 (v_fil (fun (a_28 : Int) => [some (scr ns), some (en draws_), some (en pool_), some (en turn_), some (en at_), some (en maze_), some (en due_), some (en rules_), some (en state_), some (en moves_), some (en kept_), some (en cells_), some (en free_), some (en row_), j 14, j 15, j 16, j 17, j 18, j 19, j 20, j 21, j 22, j 23, j 24, some (en a_28), j 26]) (ati hl_27 (i_r1 (a_co (atv hn_26 (v_lenS (a_co (atv hv_25 (v_ixl (xs := maze_) rfl rfl)) a_no))) a_no))) (fun a_28 => (et_bind fun v_31 hv_31 => (et_bind fun v_32 hv_32 => (et_ok (t_val (e_eq (a := v_32) (b := ([46] : Tx)) (atv hv_32 (v_ixs (atv hv_31 (v_ixl (xs := maze_) rfl rfl)) rfl)) rfl)))))) (fun a_28 => (ev_ok (e_t2 (a := row_) (b := a_28) (a_co rfl (a_co rfl a_no))))))))) [some (scr ns), some (en draws_), some (en pool_), some (en turn_), some (en at_), some (en maze_), some (en due_), some (en rules_), some (en state_), some (en moves_), some (en kept_), some (en cells_), some (en l_34), some (en row_), j 14, j 15, j 16, j 17, j 18, j 19, j 20, j 21, j 22, j 23, j 24, j 25, j 26] (jm_ok ⟨jn [some (scr ns), some (en draws_), some (en pool_), some (en turn_), some (en at_), some (en maze_), some (en due_), some (en rules_), some (en state_), some (en moves_), some (en kept_), some (en cells_), some (en l_34), some (en row_), j 14, j 15, j 16, j 17, j 18, j 19, j 20, j 21, j 22, j 23, j 24, j 25, j 26], rfl⟩))))))))
def p_law_b0 (draws_ : (List Int)) (pool_ : (List ((List Tx) × (Option (Tx × Int))))) (turn_ : Int) : R (Unit ⊕ Bool) := .ok (((10 : Int) + ((8 : Int) * turn_)) : Int) >>= fun at__4 => p__law_mix draws_ (at__4 + (1 : Int)) (2 : Int) >>= fun r_5 => atR ([(3 : Int), (7 : Int)] : (List Int)) r_5 >>= fun v_6 => p__law_mix draws_ at__4 v_6 >>= fun r_7 => atR pool_ r_7 >>= fun v_8 => repG ([([110, 101, 97, 114] : Tx)] : (List Tx)) (3 : Int) >>= fun l_10 => p__law_mix draws_ (at__4 + (3 : Int)) (2 : Int) >>= fun r_11 => atR ([(2 : Int), (6 : Int)] : (List Int)) r_11 >>= fun v_12 => p__law_mix draws_ (at__4 + (2 : Int)) v_12 >>= fun r_13 => atR ([([([110, 101, 97, 114] : Tx)] : (List Tx)), ([([114, 111, 119] : Tx), ([119, 97, 105, 116] : Tx)] : (List Tx)), ([] : (List Tx)), l_10, ([([119, 97, 105, 116] : Tx), ([78, 101, 97, 114] : Tx)] : (List Tx)), ([([] : Tx)] : (List Tx))] : (List (List Tx))) r_13 >>= fun v_14 => p__law_mix draws_ (at__4 + (4 : Int)) (6 : Int) >>= fun r_15 => atR ([(((0 : Int), (0 : Int)), ([((0 : Int), (1 : Int))] : (List (Int × Int)))), (((0 : Int), (1 : Int)), ([((0 : Int), (0 : Int)), ((0 : Int), (1 : Int))] : (List (Int × Int)))), (((9 : Int), (9 : Int)), ([] : (List (Int × Int)))), (((0 : Int), (0 : Int)), ([((1 : Int), (1 : Int))] : (List (Int × Int)))), (((0 : Int), (0 : Int)), ([((0 : Int), (1 : Int)), ((-1 : Int), (0 : Int))] : (List (Int × Int)))), (((0 : Int), (0 : Int)), ([] : (List (Int × Int))))] : (List ((Int × Int) × (List (Int × Int))))) r_15 >>= fun v_16 => repT ([115] : Tx) (101 : Int) >>= fun t_18 => p__law_mix draws_ (at__4 + (5 : Int)) (7 : Int) >>= fun r_19 => atR ([([117] : Tx), ([115] : Tx), ([] : Tx), ([117, 100] : Tx), ([113] : Tx), ([115, 120] : Tx), t_18] : (List Tx)) r_19 >>= fun v_20 => rprG (en (v_14, v_16)) >>= fun z_21 => addL ([v_16.1] : (List (Int × Int))) v_16.2 >>= fun l_22 => .ok (([] : (List (Int × Int))) : (List (Int × Int))) >>= fun free__23 => rgR1 (v_8.1.length : Int) >>= fun l_24 => forS (fun (x : Int) (s : (List (Int × Int))) => p_law_b1 v_8.1 s x) l_24 free__23 >>= fun s_35 => rgR1 (l_22.length : Int) >>= fun l_37 => filG (fun (a_38 : Int) => atR l_22 a_38 >>= fun v_39 => .ok (!hasT s_35 v_39)) (fun (a_38 : Int) => .ok a_38) l_37 >>= fun l_40 => (if v_8.2.isSome then .ok v_8.2 else atR ([(none : (Option (Tx × Int))), (some (([115, 116, 97, 116, 101] : Tx), (0 : Int)))] : (List (Option (Tx × Int)))) (if (!hasT s_35 v_16.1) then (1 : Int) else 0) >>= fun v_42 => .ok v_42) >>= fun o_43 => rgR1 (v_14.length : Int) >>= fun l_44 => filG (fun (a_45 : Int) => atR v_14 a_45 >>= fun v_46 => .ok (!hasT ([([110, 101, 97, 114] : Tx), ([114, 111, 119] : Tx), ([119, 97, 105, 116] : Tx)] : (List Tx)) v_46)) (fun (a_45 : Int) => .ok a_45) l_44 >>= fun l_47 => (if v_8.2.isSome then .ok v_8.2 else atR ([(some (([115, 105, 122, 101] : Tx), (v_14.length : Int))), (none : (Option (Tx × Int)))] : (List (Option (Tx × Int)))) (if (decide ((1 : Int) ≤ (v_14.length : Int)) && decide ((v_14.length : Int) ≤ (2 : Int))) then (1 : Int) else 0) >>= fun v_54 => (if v_54.isSome then .ok v_54 else addL l_47 ([(0 : Int)] : (List Int)) >>= fun l_57 => atR l_57 (0 : Int) >>= fun v_58 => atR ([(none : (Option (Tx × Int))), (some (([114, 117, 108, 101] : Tx), v_58))] : (List (Option (Tx × Int)))) (if (!decide (l_47 = ([] : (List Int)))) then (1 : Int) else 0) >>= fun v_59 => .ok v_59) >>= fun o_60 => .ok o_60) >>= fun o_61 => (if o_61.isSome then .ok o_61 else addL l_40 ([(0 : Int)] : (List Int)) >>= fun l_70 => atR l_70 (0 : Int) >>= fun v_71 => atR ([(none : (Option (Tx × Int))), (some (([115, 116, 97, 116, 101] : Tx), v_71))] : (List (Option (Tx × Int)))) (if (!decide (l_40 = ([] : (List Int)))) then (1 : Int) else 0) >>= fun v_72 => (if v_72.isSome then .ok v_72 else atR ([(some (([115, 116, 97, 116, 101] : Tx), (v_16.2.length : Int))), (none : (Option (Tx × Int)))] : (List (Option (Tx × Int)))) (if decide ((v_16.2.length : Int) = (v_14.length : Int)) then (1 : Int) else 0) >>= fun v_73 => .ok v_73) >>= fun o_74 => .ok o_74) >>= fun o_75 => filG (fun (a_76 : Int) => .ok (decide ((0 : Int) < a_76))) (fun (a_76 : Int) => .ok a_76) l_40 >>= fun l_77 => (if o_61.isSome then .ok o_61 else addL l_77 ([(0 : Int)] : (List Int)) >>= fun l_86 => atR l_86 (0 : Int) >>= fun v_87 => atR ([(none : (Option (Tx × Int))), (some (([115, 116, 97, 116, 101] : Tx), v_87))] : (List (Option (Tx × Int)))) (if (!decide (l_77 = ([] : (List Int)))) then (1 : Int) else 0) >>= fun v_88 => (if v_88.isSome then .ok v_88 else atR ([(some (([115, 116, 97, 116, 101] : Tx), (v_16.2.length : Int))), (none : (Option (Tx × Int)))] : (List (Option (Tx × Int)))) (if decide ((v_16.2.length : Int) = (v_14.length : Int)) then (1 : Int) else 0) >>= fun v_89 => .ok v_89) >>= fun o_90 => .ok o_90) >>= fun o_91 => (if o_75.isSome then .ok o_75 else atR ([(some (([109, 111, 118, 101] : Tx), (0 : Int))), (none : (Option (Tx × Int)))] : (List (Option (Tx × Int)))) (if (hasT ([([117] : Tx), ([115] : Tx)] : (List Tx)) v_20) then (1 : Int) else 0) >>= fun v_93 => .ok v_93) >>= fun o_94 => lenS v_20 >>= fun n_95 => rgR1 n_95 >>= fun l_96 => filG (fun (a_97 : Int) => atS v_20 a_97 >>= fun v_98 => .ok (!inS v_98 ([100, 108, 114, 115, 117] : Tx))) (fun (a_97 : Int) => .ok a_97) l_96 >>= fun l_99 => (if o_75.isSome then .ok o_75 else lenS v_20 >>= fun n_111 => lenS v_20 >>= fun n_113 => atR ([(none : (Option (Tx × Int))), (some (([109, 97, 110, 121] : Tx), n_111))] : (List (Option (Tx × Int)))) (if decide ((100 : Int) < n_113) then (1 : Int) else 0) >>= fun v_114 => (if v_114.isSome then .ok v_114 else addL l_99 ([(0 : Int)] : (List Int)) >>= fun l_117 => atR l_117 (0 : Int) >>= fun v_118 => atR ([(none : (Option (Tx × Int))), (some (([109, 111, 118, 101] : Tx), v_118))] : (List (Option (Tx × Int)))) (if (!decide (l_99 = ([] : (List Int)))) then (1 : Int) else 0) >>= fun v_119 => .ok v_119) >>= fun o_120 => .ok o_120) >>= fun o_121 => rgR1 (7 : Int) >>= fun l_126 => mapG (fun (a_127 : Int) => p__law_of a_127 v_8.1 v_14 v_16 v_20 >>= fun r_128 => .ok r_128) l_126 >>= fun l_129 => (if (!decide (l_129 = ([o_43, o_94, o_121, o_75, o_75, o_75, o_91] : (List (Option (Tx × Int)))))) then .ok true else rprG (en (v_14, v_16)) >>= fun z_131 => .ok (!decide (z_131 = z_21))) >>= fun b_132 => (if b_132 then .ok (.inr false) else .ok (.inl ()))
set_option maxHeartbeats 0 in
theorem t_law_b0 {ns : List Int} (draws_ : (List Int)) (pool_ : (List ((List Tx) × (Option (Tx × Int))))) (turn_ : Int) (j : Nat → Option D) : Jm (ap m_law_b1 [some (scr ns), some (en draws_), some (en pool_), some (en turn_), j 4, j 5, j 6, j 7, j 8, j 9, j 10, j 11, j 12, j 13, j 14, j 15, j 16, j 17, j 18, j 19, j 20, j 21, j 22, j 23, j 24, j 25, j 26]) (p_law_b0 draws_ pool_ turn_) (WR (β := Bool) (σ := Unit) (fun (s : Unit) (j : Nat → Option D) => [some (scr ns), some (en draws_), some (en pool_), j 3, j 4, j 5, j 6, j 7, j 8, j 9, j 10, j 11, j 12, j 13, j 14, j 15, j 16, j 17, j 18, j 19, j 20, j 21, j 22, j 23, j 24, j 25, j 26])) :=
  (jm_bind fun at__4 hat__4 => (jm_set (x := at__4) (at_ok hat__4 (e_add rfl (e_mull rfl rfl (by decide)))) [some (scr ns), some (en draws_), some (en pool_), some (en turn_), some (en at__4), j 5, j 6, j 7, j 8, j 9, j 10, j 11, j 12, j 13, j 14, j 15, j 16, j 17, j 18, j 19, j 20, j 21, j 22, j 23, j 24, j 25, j 26] (jm_bind fun r_5 hr_5 => (jm_bind fun v_6 hv_6 => (jm_bind fun r_7 hr_7 => (jm_bind fun v_8 hv_8 => (jm_tg (x := v_8) (atv hv_8 (v_ixl (xs := pool_) rfl (atv hr_7 (v_call (a_co rfl (a_co rfl (a_co (atv hv_6 (v_ixl (xs := ([(3 : Int), (7 : Int)] : (List Int))) (e_li (xs := [(3 : Int), (7 : Int)]) (a_co rfl (a_co rfl a_no))) (atv hr_5 (v_call (a_co rfl (a_co (e_add rfl rfl) (a_co rfl a_no))) (t__law_mix draws_ (at__4 + (1 : Int)) (2 : Int)))))) a_no))) (t__law_mix draws_ at__4 v_6))))) [some (scr ns), some (en draws_), some (en pool_), some (en turn_), some (en at__4), some (en v_8.1), some (en v_8.2), j 7, j 8, j 9, j 10, j 11, j 12, j 13, j 14, j 15, j 16, j 17, j 18, j 19, j 20, j 21, j 22, j 23, j 24, j 25, j 26] (jm_bind fun l_10 hl_10 => (jm_bind fun r_11 hr_11 => (jm_bind fun v_12 hv_12 => (jm_bind fun r_13 hr_13 => (jm_bind fun v_14 hv_14 => (jm_set (x := v_14) (atv hv_14 (v_ixl (xs := ([([([110, 101, 97, 114] : Tx)] : (List Tx)), ([([114, 111, 119] : Tx), ([119, 97, 105, 116] : Tx)] : (List Tx)), ([] : (List Tx)), l_10, ([([119, 97, 105, 116] : Tx), ([78, 101, 97, 114] : Tx)] : (List Tx)), ([([] : Tx)] : (List Tx))] : (List (List Tx)))) (e_li (xs := [([([110, 101, 97, 114] : Tx)] : (List Tx)), ([([114, 111, 119] : Tx), ([119, 97, 105, 116] : Tx)] : (List Tx)), ([] : (List Tx)), l_10, ([([119, 97, 105, 116] : Tx), ([78, 101, 97, 114] : Tx)] : (List Tx)), ([([] : Tx)] : (List Tx))]) (a_co (e_li (xs := [([110, 101, 97, 114] : Tx)]) (a_co rfl a_no)) (a_co (e_li (xs := [([114, 111, 119] : Tx), ([119, 97, 105, 116] : Tx)]) (a_co rfl (a_co rfl a_no))) (a_co rfl (a_co (atl hl_10 (v_rep (xs := ([([110, 101, 97, 114] : Tx)] : (List Tx))) (e_li (xs := [([110, 101, 97, 114] : Tx)]) (a_co rfl a_no)) rfl)) (a_co (e_li (xs := [([119, 97, 105, 116] : Tx), ([78, 101, 97, 114] : Tx)]) (a_co rfl (a_co rfl a_no))) (a_co (e_li (xs := [([] : Tx)]) (a_co rfl a_no)) a_no))))))) (atv hr_13 (v_call (a_co rfl (a_co (e_add rfl rfl) (a_co (atv hv_12 (v_ixl (xs := ([(2 : Int), (6 : Int)] : (List Int))) (e_li (xs := [(2 : Int), (6 : Int)]) (a_co rfl (a_co rfl a_no))) (atv hr_11 (v_call (a_co rfl (a_co (e_add rfl rfl) (a_co rfl a_no))) (t__law_mix draws_ (at__4 + (3 : Int)) (2 : Int)))))) a_no))) (t__law_mix draws_ (at__4 + (2 : Int)) v_12))))) [some (scr ns), some (en draws_), some (en pool_), some (en turn_), some (en at__4), some (en v_8.1), some (en v_8.2), some (en v_14), j 8, j 9, j 10, j 11, j 12, j 13, j 14, j 15, j 16, j 17, j 18, j 19, j 20, j 21, j 22, j 23, j 24, j 25, j 26] (jm_bind fun r_15 hr_15 => (jm_bind fun v_16 hv_16 => (jm_set (x := v_16) (atv hv_16 (v_ixl (xs := ([(((0 : Int), (0 : Int)), ([((0 : Int), (1 : Int))] : (List (Int × Int)))), (((0 : Int), (1 : Int)), ([((0 : Int), (0 : Int)), ((0 : Int), (1 : Int))] : (List (Int × Int)))), (((9 : Int), (9 : Int)), ([] : (List (Int × Int)))), (((0 : Int), (0 : Int)), ([((1 : Int), (1 : Int))] : (List (Int × Int)))), (((0 : Int), (0 : Int)), ([((0 : Int), (1 : Int)), ((-1 : Int), (0 : Int))] : (List (Int × Int)))), (((0 : Int), (0 : Int)), ([] : (List (Int × Int))))] : (List ((Int × Int) × (List (Int × Int)))))) (e_li (xs := [(((0 : Int), (0 : Int)), ([((0 : Int), (1 : Int))] : (List (Int × Int)))), (((0 : Int), (1 : Int)), ([((0 : Int), (0 : Int)), ((0 : Int), (1 : Int))] : (List (Int × Int)))), (((9 : Int), (9 : Int)), ([] : (List (Int × Int)))), (((0 : Int), (0 : Int)), ([((1 : Int), (1 : Int))] : (List (Int × Int)))), (((0 : Int), (0 : Int)), ([((0 : Int), (1 : Int)), ((-1 : Int), (0 : Int))] : (List (Int × Int)))), (((0 : Int), (0 : Int)), ([] : (List (Int × Int))))]) (a_co (e_t2 (a := ((0 : Int), (0 : Int))) (b := ([((0 : Int), (1 : Int))] : (List (Int × Int)))) (a_co (e_t2 (a := (0 : Int)) (b := (0 : Int)) (a_co rfl (a_co rfl a_no))) (a_co (e_li (xs := [((0 : Int), (1 : Int))]) (a_co (e_t2 (a := (0 : Int)) (b := (1 : Int)) (a_co rfl (a_co rfl a_no))) a_no)) a_no))) (a_co (e_t2 (a := ((0 : Int), (1 : Int))) (b := ([((0 : Int), (0 : Int)), ((0 : Int), (1 : Int))] : (List (Int × Int)))) (a_co (e_t2 (a := (0 : Int)) (b := (1 : Int)) (a_co rfl (a_co rfl a_no))) (a_co (e_li (xs := [((0 : Int), (0 : Int)), ((0 : Int), (1 : Int))]) (a_co (e_t2 (a := (0 : Int)) (b := (0 : Int)) (a_co rfl (a_co rfl a_no))) (a_co (e_t2 (a := (0 : Int)) (b := (1 : Int)) (a_co rfl (a_co rfl a_no))) a_no))) a_no))) (a_co (e_t2 (a := ((9 : Int), (9 : Int))) (b := ([] : (List (Int × Int)))) (a_co (e_t2 (a := (9 : Int)) (b := (9 : Int)) (a_co rfl (a_co rfl a_no))) (a_co rfl a_no))) (a_co (e_t2 (a := ((0 : Int), (0 : Int))) (b := ([((1 : Int), (1 : Int))] : (List (Int × Int)))) (a_co (e_t2 (a := (0 : Int)) (b := (0 : Int)) (a_co rfl (a_co rfl a_no))) (a_co (e_li (xs := [((1 : Int), (1 : Int))]) (a_co (e_t2 (a := (1 : Int)) (b := (1 : Int)) (a_co rfl (a_co rfl a_no))) a_no)) a_no))) (a_co (e_t2 (a := ((0 : Int), (0 : Int))) (b := ([((0 : Int), (1 : Int)), ((-1 : Int), (0 : Int))] : (List (Int × Int)))) (a_co (e_t2 (a := (0 : Int)) (b := (0 : Int)) (a_co rfl (a_co rfl a_no))) (a_co (e_li (xs := [((0 : Int), (1 : Int)), ((-1 : Int), (0 : Int))]) (a_co (e_t2 (a := (0 : Int)) (b := (1 : Int)) (a_co rfl (a_co rfl a_no))) (a_co (e_t2 (a := (-1 : Int)) (b := (0 : Int)) (a_co rfl (a_co rfl a_no))) a_no))) a_no))) (a_co (e_t2 (a := ((0 : Int), (0 : Int))) (b := ([] : (List (Int × Int)))) (a_co (e_t2 (a := (0 : Int)) (b := (0 : Int)) (a_co rfl (a_co rfl a_no))) (a_co rfl a_no))) a_no))))))) (atv hr_15 (v_call (a_co rfl (a_co (e_add rfl rfl) (a_co rfl a_no))) (t__law_mix draws_ (at__4 + (4 : Int)) (6 : Int)))))) [some (scr ns), some (en draws_), some (en pool_), some (en turn_), some (en at__4), some (en v_8.1), some (en v_8.2), some (en v_14), some (en v_16), j 9, j 10, j 11, j 12, j 13, j 14, j 15, j 16, j 17, j 18, j 19, j 20, j 21, j 22, j 23, j 24, j 25, j 26] (jm_bind fun t_18 ht_18 => (jm_bind fun r_19 hr_19 => (jm_bind fun v_20 hv_20 => (jm_set (x := v_20) (atv hv_20 (v_ixl (xs := ([([117] : Tx), ([115] : Tx), ([] : Tx), ([117, 100] : Tx), ([113] : Tx), ([115, 120] : Tx), t_18] : (List Tx))) (e_li (xs := [([117] : Tx), ([115] : Tx), ([] : Tx), ([117, 100] : Tx), ([113] : Tx), ([115, 120] : Tx), t_18]) (a_co rfl (a_co rfl (a_co rfl (a_co rfl (a_co rfl (a_co rfl (a_co (atv ht_18 (v_repT rfl rfl)) a_no)))))))) (atv hr_19 (v_call (a_co rfl (a_co (e_add rfl rfl) (a_co rfl a_no))) (t__law_mix draws_ (at__4 + (5 : Int)) (7 : Int)))))) [some (scr ns), some (en draws_), some (en pool_), some (en turn_), some (en at__4), some (en v_8.1), some (en v_8.2), some (en v_14), some (en v_16), some (en v_20), j 10, j 11, j 12, j 13, j 14, j 15, j 16, j 17, j 18, j 19, j 20, j 21, j 22, j 23, j 24, j 25, j 26] (jm_bind fun z_21 hz_21 => (jm_set (x := z_21) (atv hz_21 (v_repr (a_co (e_t2 (a := v_14) (b := v_16) (a_co rfl (a_co rfl a_no))) a_no))) [some (scr ns), some (en draws_), some (en pool_), some (en turn_), some (en at__4), some (en v_8.1), some (en v_8.2), some (en v_14), some (en v_16), some (en v_20), some (en z_21), j 11, j 12, j 13, j 14, j 15, j 16, j 17, j 18, j 19, j 20, j 21, j 22, j 23, j 24, j 25, j 26] (jm_bind fun l_22 hl_22 => (jm_set (x := l_22) (atl hl_22 (v_addL (a := ([v_16.1] : (List (Int × Int)))) (b := v_16.2) (e_li (xs := [v_16.1]) (a_co (e_p1 (p := v_16) rfl) a_no)) (e_p2 (p := v_16) rfl))) [some (scr ns), some (en draws_), some (en pool_), some (en turn_), some (en at__4), some (en v_8.1), some (en v_8.2), some (en v_14), some (en v_16), some (en v_20), some (en z_21), some (en l_22), j 12, j 13, j 14, j 15, j 16, j 17, j 18, j 19, j 20, j 21, j 22, j 23, j 24, j 25, j 26] (jm_bind fun free__23 hfree__23 => (jm_set (x := free__23) (at_ok hfree__23 rfl) [some (scr ns), some (en draws_), some (en pool_), some (en turn_), some (en at__4), some (en v_8.1), some (en v_8.2), some (en v_14), some (en v_16), some (en v_20), some (en z_21), some (en l_22), some (en free__23), j 13, j 14, j 15, j 16, j 17, j 18, j 19, j 20, j 21, j 22, j 23, j 24, j 25, j 26] (jm_bind fun l_24 hl_24 => (jm_seq (fun (s : (List (Int × Int))) (j : Nat → Option D) => [some (scr ns), some (en draws_), some (en pool_), some (en turn_), some (en at__4), some (en v_8.1), some (en v_8.2), some (en v_14), some (en v_16), some (en v_20), some (en z_21), some (en l_22), some (en s), j 13, j 14, j 15, j 16, j 17, j 18, j 19, j 20, j 21, j 22, j 23, j 24, j 25, j 26]) (jm_for (σ := (List (Int × Int))) (s0 := free__23) (fun (s : (List (Int × Int))) (j : Nat → Option D) => [some (scr ns), some (en draws_), some (en pool_), some (en turn_), some (en at__4), some (en v_8.1), some (en v_8.2), some (en v_14), some (en v_16), some (en v_20), some (en z_21), some (en l_22), some (en s), j 13, j 14, j 15, j 16, j 17, j 18, j 19, j 20, j 21, j 22, j 23, j 24, j 25, j 26]) (ati hl_24 (i_r1 (a_co (e_lenL (xs := v_8.1) (a_co rfl a_no)) a_no))) (fun (x : Int) (s : (List (Int × Int))) j => jm_go [some (scr ns), some (en draws_), some (en pool_), some (en turn_), some (en at__4), some (en v_8.1), some (en v_8.2), some (en v_14), some (en v_16), some (en v_20), some (en z_21), some (en l_22), some (en s), some (en x), j 14, j 15, j 16, j 17, j 18, j 19, j 20, j 21, j 22, j 23, j 24, j 25, j 26] (t_law_b1 draws_ pool_ turn_ at__4 v_8.1 v_8.2 v_14 v_16 v_20 z_21 l_22 s x j))) (fun s_35 j_36 => (jm_bind fun l_37 hl_37 => (jm_bind fun l_40 hl_40 => (jm_set (x := l_40) (atl hl_40 (v_fil (fun (a_38 : Int) => [some (scr ns), some (en draws_), some (en pool_), some (en turn_), some (en at__4), some (en v_8.1), some (en v_8.2), some (en v_14), some (en v_16), some (en v_20), some (en z_21), some (en l_22), some (en s_35), j_36 13, j_36 14, j_36 15, j_36 16, j_36 17, j_36 18, j_36 19, j_36 20, j_36 21, j_36 22, j_36 23, some (en a_38), j_36 25, j_36 26]) (ati hl_37 (i_r1 (a_co (e_lenL (xs := l_22) (a_co rfl a_no)) a_no))) (fun a_38 => (et_bind fun v_39 hv_39 => (et_ok (t_val (e_ninL (a := v_39) (l := s_35) (atv hv_39 (v_ixl (xs := l_22) rfl rfl)) rfl))))) (fun a_38 => (ev_ok rfl)))) [some (scr ns), some (en draws_), some (en pool_), some (en turn_), some (en at__4), some (en v_8.1), some (en v_8.2), some (en v_14), some (en v_16), some (en v_20), some (en z_21), some (en l_22), some (en s_35), j_36 13, some (en l_40), j_36 15, j_36 16, j_36 17, j_36 18, j_36 19, j_36 20, j_36 21, j_36 22, j_36 23, j_36 24, j_36 25, j_36 26] (jm_bind fun o_43 ho_43 => (jm_set (x := o_43) (atv ho_43 (ev_orO (x := v_8.2) rfl (ev_bind fun v_42 hv_42 => (ev_ok (atv hv_42 (v_ixl (xs := ([(none : (Option (Tx × Int))), (some (([115, 116, 97, 116, 101] : Tx), (0 : Int)))] : (List (Option (Tx × Int))))) (e_li (xs := [(none : (Option (Tx × Int))), (some (([115, 116, 97, 116, 101] : Tx), (0 : Int)))]) (a_co rfl (a_co (so (a := (([115, 116, 97, 116, 101] : Tx), (0 : Int))) (e_t2 (a := ([115, 116, 97, 116, 101] : Tx)) (b := (0 : Int)) (a_co rfl (a_co rfl a_no)))) a_no))) (e_intB (a_co (e_ninL (a := v_16.1) (l := s_35) (e_p1 (p := v_16) rfl) rfl) a_no)))))))) [some (scr ns), some (en draws_), some (en pool_), some (en turn_), some (en at__4), some (en v_8.1), some (en v_8.2), some (en v_14), some (en v_16), some (en v_20), some (en z_21), some (en l_22), some (en s_35), j_36 13, some (en l_40), some (en o_43), j_36 16, j_36 17, j_36 18, j_36 19, j_36 20, j_36 21, j_36 22, j_36 23, j_36 24, j_36 25, j_36 26] (jm_bind fun l_44 hl_44 => (jm_bind fun l_47 hl_47 => (jm_set (x := l_47) (atl hl_47 (v_fil (fun (a_45 : Int) => [some (scr ns), some (en draws_), some (en pool_), some (en turn_), some (en at__4), some (en v_8.1), some (en v_8.2), some (en v_14), some (en v_16), some (en v_20), some (en z_21), some (en l_22), some (en s_35), j_36 13, some (en l_40), some (en o_43), j_36 16, j_36 17, j_36 18, j_36 19, j_36 20, j_36 21, j_36 22, j_36 23, some (en a_45), j_36 25, j_36 26]) (ati hl_44 (i_r1 (a_co (e_lenL (xs := v_14) (a_co rfl a_no)) a_no))) (fun a_45 => (et_bind fun v_46 hv_46 => (et_ok (t_val (e_ninL (a := v_46) (l := ([([110, 101, 97, 114] : Tx), ([114, 111, 119] : Tx), ([119, 97, 105, 116] : Tx)] : (List Tx))) (atv hv_46 (v_ixl (xs := v_14) rfl rfl)) (e_li (xs := [([110, 101, 97, 114] : Tx), ([114, 111, 119] : Tx), ([119, 97, 105, 116] : Tx)]) (a_co rfl (a_co rfl (a_co rfl a_no))))))))) (fun a_45 => (ev_ok rfl)))) [some (scr ns), some (en draws_), some (en pool_), some (en turn_), some (en at__4), some (en v_8.1), some (en v_8.2), some (en v_14), some (en v_16), some (en v_20), some (en z_21), some (en l_22), some (en s_35), j_36 13, some (en l_40), some (en o_43), some (en l_47), j_36 17, j_36 18, j_36 19, j_36 20, j_36 21, j_36 22, j_36 23, j_36 24, j_36 25, j_36 26] (jm_bind fun o_61 ho_61 => (jm_set (x := o_61) (atv ho_61 (ev_orO (x := v_8.2) rfl (ev_bind fun v_54 hv_54 => (ev_bind fun o_60 ho_60 => (ev_ok (atv ho_60 (ev_orO (x := v_54) (atv hv_54 (v_ixl (xs := ([(some (([115, 105, 122, 101] : Tx), (v_14.length : Int))), (none : (Option (Tx × Int)))] : (List (Option (Tx × Int))))) (e_li (xs := [(some (([115, 105, 122, 101] : Tx), (v_14.length : Int))), (none : (Option (Tx × Int)))]) (a_co (so (a := (([115, 105, 122, 101] : Tx), (v_14.length : Int))) (e_t2 (a := ([115, 105, 122, 101] : Tx)) (b := (v_14.length : Int)) (a_co rfl (a_co (e_lenL (xs := v_14) (a_co rfl a_no)) a_no)))) (a_co rfl a_no))) (e_intB (a_co (e_ch rfl (e_lenL (xs := v_14) (a_co rfl a_no)) rfl) a_no)))) (ev_bind fun l_57 hl_57 => (ev_bind fun v_58 hv_58 => (ev_bind fun v_59 hv_59 => (ev_ok (atv hv_59 (v_ixl (xs := ([(none : (Option (Tx × Int))), (some (([114, 117, 108, 101] : Tx), v_58))] : (List (Option (Tx × Int))))) (e_li (xs := [(none : (Option (Tx × Int))), (some (([114, 117, 108, 101] : Tx), v_58))]) (a_co rfl (a_co (so (a := (([114, 117, 108, 101] : Tx), v_58)) (e_t2 (a := ([114, 117, 108, 101] : Tx)) (b := v_58) (a_co rfl (a_co (atv hv_58 (v_ixl (xs := l_57) (atl hl_57 (v_addL (a := l_47) (b := ([(0 : Int)] : (List Int))) rfl (e_li (xs := [(0 : Int)]) (a_co rfl a_no)))) rfl)) a_no)))) a_no))) (e_intB (a_co (e_ne (a := l_47) (b := ([] : (List Int))) rfl rfl) a_no))))))))))))))) [some (scr ns), some (en draws_), some (en pool_), some (en turn_), some (en at__4), some (en v_8.1), some (en v_8.2), some (en v_14), some (en v_16), some (en v_20), some (en z_21), some (en l_22), some (en s_35), j_36 13, some (en l_40), some (en o_43), some (en l_47), some (en o_61), j_36 18, j_36 19, j_36 20, j_36 21, j_36 22, j_36 23, j_36 24, j_36 25, j_36 26] (jm_bind fun o_75 ho_75 => (jm_set (x := o_75) (atv ho_75 (ev_orO (x := o_61) rfl (ev_bind fun l_70 hl_70 => (ev_bind fun v_71 hv_71 => (ev_bind fun v_72 hv_72 => (ev_bind fun o_74 ho_74 => (ev_ok (atv ho_74 (ev_orO (x := v_72) (atv hv_72 (v_ixl (xs := ([(none : (Option (Tx × Int))), (some (([115, 116, 97, 116, 101] : Tx), v_71))] : (List (Option (Tx × Int))))) (e_li (xs := [(none : (Option (Tx × Int))), (some (([115, 116, 97, 116, 101] : Tx), v_71))]) (a_co rfl (a_co (so (a := (([115, 116, 97, 116, 101] : Tx), v_71)) (e_t2 (a := ([115, 116, 97, 116, 101] : Tx)) (b := v_71) (a_co rfl (a_co (atv hv_71 (v_ixl (xs := l_70) (atl hl_70 (v_addL (a := l_40) (b := ([(0 : Int)] : (List Int))) rfl (e_li (xs := [(0 : Int)]) (a_co rfl a_no)))) rfl)) a_no)))) a_no))) (e_intB (a_co (e_ne (a := l_40) (b := ([] : (List Int))) rfl rfl) a_no)))) (ev_bind fun v_73 hv_73 => (ev_ok (atv hv_73 (v_ixl (xs := ([(some (([115, 116, 97, 116, 101] : Tx), (v_16.2.length : Int))), (none : (Option (Tx × Int)))] : (List (Option (Tx × Int))))) (e_li (xs := [(some (([115, 116, 97, 116, 101] : Tx), (v_16.2.length : Int))), (none : (Option (Tx × Int)))]) (a_co (so (a := (([115, 116, 97, 116, 101] : Tx), (v_16.2.length : Int))) (e_t2 (a := ([115, 116, 97, 116, 101] : Tx)) (b := (v_16.2.length : Int)) (a_co rfl (a_co (e_lenL (xs := v_16.2) (a_co (e_p2 (p := v_16) rfl) a_no)) a_no)))) (a_co rfl a_no))) (e_intB (a_co (e_eq (a := (v_16.2.length : Int)) (b := (v_14.length : Int)) (e_lenL (xs := v_16.2) (a_co (e_p2 (p := v_16) rfl) a_no)) (e_lenL (xs := v_14) (a_co rfl a_no))) a_no))))))))))))))) [some (scr ns), some (en draws_), some (en pool_), some (en turn_), some (en at__4), some (en v_8.1), some (en v_8.2), some (en v_14), some (en v_16), some (en v_20), some (en z_21), some (en l_22), some (en s_35), j_36 13, some (en l_40), some (en o_43), some (en l_47), some (en o_61), some (en o_75), j_36 19, j_36 20, j_36 21, j_36 22, j_36 23, j_36 24, j_36 25, j_36 26] (jm_bind fun l_77 hl_77 => (jm_set (x := l_77) (atl hl_77 (v_fil (fun (a_76 : Int) => [some (scr ns), some (en draws_), some (en pool_), some (en turn_), some (en at__4), some (en v_8.1), some (en v_8.2), some (en v_14), some (en v_16), some (en v_20), some (en z_21), some (en l_22), some (en s_35), j_36 13, some (en l_40), some (en o_43), some (en l_47), some (en o_61), some (en o_75), j_36 19, j_36 20, j_36 21, j_36 22, j_36 23, some (en a_76), j_36 25, j_36 26]) (i_l (xs := l_40) rfl) (fun a_76 => (et_ok (t_val (e_gt rfl rfl)))) (fun a_76 => (ev_ok rfl)))) [some (scr ns), some (en draws_), some (en pool_), some (en turn_), some (en at__4), some (en v_8.1), some (en v_8.2), some (en v_14), some (en v_16), some (en v_20), some (en z_21), some (en l_22), some (en s_35), j_36 13, some (en l_40), some (en o_43), some (en l_47), some (en o_61), some (en o_75), some (en l_77), j_36 20, j_36 21, j_36 22, j_36 23, j_36 24, j_36 25, j_36 26] (jm_bind fun o_91 ho_91 => (jm_set (x := o_91) (atv ho_91 (ev_orO (x := o_61) rfl (ev_bind fun l_86 hl_86 => (ev_bind fun v_87 hv_87 => (ev_bind fun v_88 hv_88 => (ev_bind fun o_90 ho_90 => (ev_ok (atv ho_90 (ev_orO (x := v_88) (atv hv_88 (v_ixl (xs := ([(none : (Option (Tx × Int))), (some (([115, 116, 97, 116, 101] : Tx), v_87))] : (List (Option (Tx × Int))))) (e_li (xs := [(none : (Option (Tx × Int))), (some (([115, 116, 97, 116, 101] : Tx), v_87))]) (a_co rfl (a_co (so (a := (([115, 116, 97, 116, 101] : Tx), v_87)) (e_t2 (a := ([115, 116, 97, 116, 101] : Tx)) (b := v_87) (a_co rfl (a_co (atv hv_87 (v_ixl (xs := l_86) (atl hl_86 (v_addL (a := l_77) (b := ([(0 : Int)] : (List Int))) rfl (e_li (xs := [(0 : Int)]) (a_co rfl a_no)))) rfl)) a_no)))) a_no))) (e_intB (a_co (e_ne (a := l_77) (b := ([] : (List Int))) rfl rfl) a_no)))) (ev_bind fun v_89 hv_89 => (ev_ok (atv hv_89 (v_ixl (xs := ([(some (([115, 116, 97, 116, 101] : Tx), (v_16.2.length : Int))), (none : (Option (Tx × Int)))] : (List (Option (Tx × Int))))) (e_li (xs := [(some (([115, 116, 97, 116, 101] : Tx), (v_16.2.length : Int))), (none : (Option (Tx × Int)))]) (a_co (so (a := (([115, 116, 97, 116, 101] : Tx), (v_16.2.length : Int))) (e_t2 (a := ([115, 116, 97, 116, 101] : Tx)) (b := (v_16.2.length : Int)) (a_co rfl (a_co (e_lenL (xs := v_16.2) (a_co (e_p2 (p := v_16) rfl) a_no)) a_no)))) (a_co rfl a_no))) (e_intB (a_co (e_eq (a := (v_16.2.length : Int)) (b := (v_14.length : Int)) (e_lenL (xs := v_16.2) (a_co (e_p2 (p := v_16) rfl) a_no)) (e_lenL (xs := v_14) (a_co rfl a_no))) a_no))))))))))))))) [some (scr ns), some (en draws_), some (en pool_), some (en turn_), some (en at__4), some (en v_8.1), some (en v_8.2), some (en v_14), some (en v_16), some (en v_20), some (en z_21), some (en l_22), some (en s_35), j_36 13, some (en l_40), some (en o_43), some (en l_47), some (en o_61), some (en o_75), some (en l_77), some (en o_91), j_36 21, j_36 22, j_36 23, j_36 24, j_36 25, j_36 26] (jm_bind fun o_94 ho_94 => (jm_set (x := o_94) (atv ho_94 (ev_orO (x := o_75) rfl (ev_bind fun v_93 hv_93 => (ev_ok (atv hv_93 (v_ixl (xs := ([(some (([109, 111, 118, 101] : Tx), (0 : Int))), (none : (Option (Tx × Int)))] : (List (Option (Tx × Int))))) (e_li (xs := [(some (([109, 111, 118, 101] : Tx), (0 : Int))), (none : (Option (Tx × Int)))]) (a_co (so (a := (([109, 111, 118, 101] : Tx), (0 : Int))) (e_t2 (a := ([109, 111, 118, 101] : Tx)) (b := (0 : Int)) (a_co rfl (a_co rfl a_no)))) (a_co rfl a_no))) (e_intB (a_co (e_inL (a := v_20) (l := ([([117] : Tx), ([115] : Tx)] : (List Tx))) rfl (e_li (xs := [([117] : Tx), ([115] : Tx)]) (a_co rfl (a_co rfl a_no)))) a_no)))))))) [some (scr ns), some (en draws_), some (en pool_), some (en turn_), some (en at__4), some (en v_8.1), some (en v_8.2), some (en v_14), some (en v_16), some (en v_20), some (en z_21), some (en l_22), some (en s_35), j_36 13, some (en l_40), some (en o_43), some (en l_47), some (en o_61), some (en o_75), some (en l_77), some (en o_91), some (en o_94), j_36 22, j_36 23, j_36 24, j_36 25, j_36 26] (jm_bind fun n_95 hn_95 => (jm_bind fun l_96 hl_96 => (jm_bind fun l_99 hl_99 => (jm_set (x := l_99) (atl hl_99 (v_fil (fun (a_97 : Int) => [some (scr ns), some (en draws_), some (en pool_), some (en turn_), some (en at__4), some (en v_8.1), some (en v_8.2), some (en v_14), some (en v_16), some (en v_20), some (en z_21), some (en l_22), some (en s_35), j_36 13, some (en l_40), some (en o_43), some (en l_47), some (en o_61), some (en o_75), some (en l_77), some (en o_91), some (en o_94), j_36 22, j_36 23, some (en a_97), j_36 25, j_36 26]) (ati hl_96 (i_r1 (a_co (atv hn_95 (v_lenS (a_co rfl a_no))) a_no))) (fun a_97 => (et_bind fun v_98 hv_98 => (et_ok (t_val (e_ninS (atv hv_98 (v_ixs rfl rfl)) rfl))))) (fun a_97 => (ev_ok rfl)))) [some (scr ns), some (en draws_), some (en pool_), some (en turn_), some (en at__4), some (en v_8.1), some (en v_8.2), some (en v_14), some (en v_16), some (en v_20), some (en z_21), some (en l_22), some (en s_35), j_36 13, some (en l_40), some (en o_43), some (en l_47), some (en o_61), some (en o_75), some (en l_77), some (en o_91), some (en o_94), some (en l_99), j_36 23, j_36 24, j_36 25, j_36 26] (jm_bind fun o_121 ho_121 => (jm_set (x := o_121) (atv ho_121 (ev_orO (x := o_75) rfl (ev_bind fun n_111 hn_111 => (ev_bind fun n_113 hn_113 => (ev_bind fun v_114 hv_114 => (ev_bind fun o_120 ho_120 => (ev_ok (atv ho_120 (ev_orO (x := v_114) (atv hv_114 (v_ixl (xs := ([(none : (Option (Tx × Int))), (some (([109, 97, 110, 121] : Tx), n_111))] : (List (Option (Tx × Int))))) (e_li (xs := [(none : (Option (Tx × Int))), (some (([109, 97, 110, 121] : Tx), n_111))]) (a_co rfl (a_co (so (a := (([109, 97, 110, 121] : Tx), n_111)) (e_t2 (a := ([109, 97, 110, 121] : Tx)) (b := n_111) (a_co rfl (a_co (atv hn_111 (v_lenS (a_co rfl a_no))) a_no)))) a_no))) (e_intB (a_co (e_gt (atv hn_113 (v_lenS (a_co rfl a_no))) rfl) a_no)))) (ev_bind fun l_117 hl_117 => (ev_bind fun v_118 hv_118 => (ev_bind fun v_119 hv_119 => (ev_ok (atv hv_119 (v_ixl (xs := ([(none : (Option (Tx × Int))), (some (([109, 111, 118, 101] : Tx), v_118))] : (List (Option (Tx × Int))))) (e_li (xs := [(none : (Option (Tx × Int))), (some (([109, 111, 118, 101] : Tx), v_118))]) (a_co rfl (a_co (so (a := (([109, 111, 118, 101] : Tx), v_118)) (e_t2 (a := ([109, 111, 118, 101] : Tx)) (b := v_118) (a_co rfl (a_co (atv hv_118 (v_ixl (xs := l_117) (atl hl_117 (v_addL (a := l_99) (b := ([(0 : Int)] : (List Int))) rfl (e_li (xs := [(0 : Int)]) (a_co rfl a_no)))) rfl)) a_no)))) a_no))) (e_intB (a_co (e_ne (a := l_99) (b := ([] : (List Int))) rfl rfl) a_no))))))))))))))))) [some (scr ns), some (en draws_), some (en pool_), some (en turn_), some (en at__4), some (en v_8.1), some (en v_8.2), some (en v_14), some (en v_16), some (en v_20), some (en z_21), some (en l_22), some (en s_35), j_36 13, some (en l_40), some (en o_43), some (en l_47), some (en o_61), some (en o_75), some (en l_77), some (en o_91), some (en o_94), some (en l_99), some (en o_121), j_36 24, j_36 25, j_36 26] (jm_last (jm_bind fun l_126 hl_126 => (jm_bind fun l_129 hl_129 => (jm_bind fun b_132 hb_132 => (jm_ifs (att hb_132 (et_or (t_val (e_ne (a := l_129) (b := ([o_43, o_94, o_121, o_75, o_75, o_75, o_91] : (List (Option (Tx × Int))))) (atl hl_129 (v_map (fun (a_127 : Int) => [some (scr ns), some (en draws_), some (en pool_), some (en turn_), some (en at__4), some (en v_8.1), some (en v_8.2), some (en v_14), some (en v_16), some (en v_20), some (en z_21), some (en l_22), some (en s_35), j_36 13, some (en l_40), some (en o_43), some (en l_47), some (en o_61), some (en o_75), some (en l_77), some (en o_91), some (en o_94), some (en l_99), some (en o_121), j_36 24, j_36 25, some (en a_127)]) (ati hl_126 (i_r1 (a_co rfl a_no))) (fun a_127 => (ev_bind fun r_128 hr_128 => (ev_ok (atv hr_128 (v_call (a_co rfl (a_co rfl (a_co rfl (a_co rfl (a_co rfl a_no))))) (t__law_of a_127 v_8.1 v_14 v_16 v_20)))))))) (e_li (xs := [o_43, o_94, o_121, o_75, o_75, o_75, o_91]) (a_co rfl (a_co rfl (a_co rfl (a_co rfl (a_co rfl (a_co rfl (a_co rfl a_no)))))))))) (et_bind fun z_131 hz_131 => (et_ok (t_val (e_neZ (a := z_131) (b := z_21) (atv hz_131 (v_repr (a_co (e_t2 (a := v_14) (b := v_16) (a_co rfl (a_co rfl a_no))) a_no))) rfl)))))) (fun k_133 => (jm_retS _ rfl rfl)) (fun k_133 => (jm_first (jm_ok ⟨jn [some (scr ns), some (en draws_), some (en pool_), some (en turn_), some (en at__4), some (en v_8.1), some (en v_8.2), some (en v_14), some (en v_16), some (en v_20), some (en z_21), some (en l_22), some (en s_35), j_36 13, some (en l_40), some (en o_43), some (en l_47), some (en o_61), some (en o_75), some (en l_77), some (en o_91), some (en o_94), some (en l_99), some (en o_121), j_36 24, j_36 25, j_36 26], rfl⟩)))))))))))))))))))))))))))))))))))))))))))))))))))))))))))))
def p_law (zs : List Int) : R Bool := repG ([([46, 46, 46, 46, 46, 46] : Tx)] : (List Tx)) (3 : Int) >>= fun l_1 => .ok (([(([([46, 46] : Tx)] : (List Tx)), (none : (Option (Tx × Int)))), (([([46, 46] : Tx), ([46, 35] : Tx)] : (List Tx)), (none : (Option (Tx × Int)))), (([([46, 46, 46, 46, 46] : Tx), ([35, 46, 35, 35, 35] : Tx)] : (List Tx)), (none : (Option (Tx × Int)))), (([] : (List Tx)), (some (([115, 105, 122, 101] : Tx), (0 : Int)))), (([([46, 46] : Tx), ([46] : Tx)] : (List Tx)), (some (([114, 111, 119] : Tx), (1 : Int)))), (([([120, 46] : Tx)] : (List Tx)), (some (([114, 111, 119] : Tx), (0 : Int)))), (l_1, (some (([109, 97, 110, 121] : Tx), (18 : Int))))] : (List ((List Tx) × (Option (Tx × Int))))) : (List ((List Tx) × (Option (Tx × Int))))) >>= fun pool__2 => rgR1 (12 : Int) >>= fun l_3 => onR (forR (fun (x : Int) (s : Unit) => p_law_b0 zs pool__2 x) l_3 ()) (fun s_134 => .ok true) (fun b_136 => .ok b_136)
set_option maxHeartbeats 0 in
theorem t_law {ns zs : List Int} (hd : f__law_draws [scr ns] = .ok (en zs)) : Ev (f_law [scr ns]) (p_law zs) :=
  v_def [some (scr ns), none, none, none, none, none, none, none, none, none, none, none, none, none, none, none, none, none, none, none, none, none, none, none, none, none, none] ((jm_set (x := zs) (by show (.ok _ >>= fnD 1 f__law_draws) = _; exact hd) [some (scr ns), some (en zs), none, none, none, none, none, none, none, none, none, none, none, none, none, none, none, none, none, none, none, none, none, none, none, none, none] (jm_bind fun l_1 hl_1 => (jm_bind fun pool__2 hpool__2 => (jm_set (x := pool__2) (at_ok hpool__2 (e_li (xs := [(([([46, 46] : Tx)] : (List Tx)), (none : (Option (Tx × Int)))), (([([46, 46] : Tx), ([46, 35] : Tx)] : (List Tx)), (none : (Option (Tx × Int)))), (([([46, 46, 46, 46, 46] : Tx), ([35, 46, 35, 35, 35] : Tx)] : (List Tx)), (none : (Option (Tx × Int)))), (([] : (List Tx)), (some (([115, 105, 122, 101] : Tx), (0 : Int)))), (([([46, 46] : Tx), ([46] : Tx)] : (List Tx)), (some (([114, 111, 119] : Tx), (1 : Int)))), (([([120, 46] : Tx)] : (List Tx)), (some (([114, 111, 119] : Tx), (0 : Int)))), (l_1, (some (([109, 97, 110, 121] : Tx), (18 : Int))))]) (a_co (e_t2 (a := ([([46, 46] : Tx)] : (List Tx))) (b := (none : (Option (Tx × Int)))) (a_co (e_li (xs := [([46, 46] : Tx)]) (a_co rfl a_no)) (a_co rfl a_no))) (a_co (e_t2 (a := ([([46, 46] : Tx), ([46, 35] : Tx)] : (List Tx))) (b := (none : (Option (Tx × Int)))) (a_co (e_li (xs := [([46, 46] : Tx), ([46, 35] : Tx)]) (a_co rfl (a_co rfl a_no))) (a_co rfl a_no))) (a_co (e_t2 (a := ([([46, 46, 46, 46, 46] : Tx), ([35, 46, 35, 35, 35] : Tx)] : (List Tx))) (b := (none : (Option (Tx × Int)))) (a_co (e_li (xs := [([46, 46, 46, 46, 46] : Tx), ([35, 46, 35, 35, 35] : Tx)]) (a_co rfl (a_co rfl a_no))) (a_co rfl a_no))) (a_co (e_t2 (a := ([] : (List Tx))) (b := (some (([115, 105, 122, 101] : Tx), (0 : Int)))) (a_co rfl (a_co (so (a := (([115, 105, 122, 101] : Tx), (0 : Int))) (e_t2 (a := ([115, 105, 122, 101] : Tx)) (b := (0 : Int)) (a_co rfl (a_co rfl a_no)))) a_no))) (a_co (e_t2 (a := ([([46, 46] : Tx), ([46] : Tx)] : (List Tx))) (b := (some (([114, 111, 119] : Tx), (1 : Int)))) (a_co (e_li (xs := [([46, 46] : Tx), ([46] : Tx)]) (a_co rfl (a_co rfl a_no))) (a_co (so (a := (([114, 111, 119] : Tx), (1 : Int))) (e_t2 (a := ([114, 111, 119] : Tx)) (b := (1 : Int)) (a_co rfl (a_co rfl a_no)))) a_no))) (a_co (e_t2 (a := ([([120, 46] : Tx)] : (List Tx))) (b := (some (([114, 111, 119] : Tx), (0 : Int)))) (a_co (e_li (xs := [([120, 46] : Tx)]) (a_co rfl a_no)) (a_co (so (a := (([114, 111, 119] : Tx), (0 : Int))) (e_t2 (a := ([114, 111, 119] : Tx)) (b := (0 : Int)) (a_co rfl (a_co rfl a_no)))) a_no))) (a_co (e_t2 (a := l_1) (b := (some (([109, 97, 110, 121] : Tx), (18 : Int)))) (a_co (atl hl_1 (v_rep (xs := ([([46, 46, 46, 46, 46, 46] : Tx)] : (List Tx))) (e_li (xs := [([46, 46, 46, 46, 46, 46] : Tx)]) (a_co rfl a_no)) rfl)) (a_co (so (a := (([109, 97, 110, 121] : Tx), (18 : Int))) (e_t2 (a := ([109, 97, 110, 121] : Tx)) (b := (18 : Int)) (a_co rfl (a_co rfl a_no)))) a_no))) a_no))))))))) [some (scr ns), some (en zs), some (en pool__2), none, none, none, none, none, none, none, none, none, none, none, none, none, none, none, none, none, none, none, none, none, none, none, none] (jm_bind fun l_3 hl_3 => (jm_seqR (k := (fun b => b)) (fun (s : Unit) (j : Nat → Option D) => [some (scr ns), some (en zs), some (en pool__2), j 3, j 4, j 5, j 6, j 7, j 8, j 9, j 10, j 11, j 12, j 13, j 14, j 15, j 16, j 17, j 18, j 19, j 20, j 21, j 22, j 23, j 24, j 25, j 26]) (jm_forR (σ := Unit) (s0 := ()) (fun (s : Unit) (j : Nat → Option D) => [some (scr ns), some (en zs), some (en pool__2), j 3, j 4, j 5, j 6, j 7, j 8, j 9, j 10, j 11, j 12, j 13, j 14, j 15, j 16, j 17, j 18, j 19, j 20, j 21, j 22, j 23, j 24, j 25, j 26]) (ati hl_3 (i_r1 (a_co rfl a_no))) (fun (x : Int) (s : Unit) j => jm_go [some (scr ns), some (en zs), some (en pool__2), some (en x), j 4, j 5, j 6, j 7, j 8, j 9, j 10, j 11, j 12, j 13, j 14, j 15, j 16, j 17, j 18, j 19, j 20, j 21, j 22, j 23, j 24, j 25, j 26] (t_law_b0 zs pool__2 x j))) (fun s_134 j_135 => (jm_last (jm_retS _ rfl rfl))) (fun _ => rfl))))))))
end Gk51

set_option Elab.async false
set_option linter.all false
set_option maxRecDepth 100000
namespace Gk51
open PySem PySem.Spec PyProof.Rows L2 Vs
def topS (i : Nat) : Stmt := PySem.Challenge.pw_arcadeheld_k51_errors_of_chasers.main.body.getD i (.Pass ⟨0, 0, 0, 0⟩)
abbrev st_check_grid : Stmt := topS 11
abbrev N_check_grid : List Str := ["grid", "signs", "k", "row", "sign"]
theorem sc_check_grid : FnScope N_check_grid ["grid", "signs"] (defScope st_check_grid) := ⟨rfl, rfl, rfl, by decide +kernel, rfl, by decide +kernel, by decide +kernel⟩
abbrev st_cells_of : Stmt := topS 12
abbrev N_cells_of : List Str := ["grid", "row", "place"]
theorem sc_cells_of : FnScope N_cells_of ["grid"] (defScope st_cells_of) := ⟨rfl, rfl, rfl, by decide +kernel, rfl, by decide +kernel, by decide +kernel⟩
abbrev st_is_cell : Stmt := topS 13
abbrev N_is_cell : List Str := ["grid", "cell"]
theorem sc_is_cell : FnScope N_is_cell ["grid", "cell"] (defScope st_is_cell) := ⟨rfl, rfl, rfl, by decide +kernel, rfl, by decide +kernel, by decide +kernel⟩
abbrev st_sign_at : Stmt := topS 14
abbrev N_sign_at : List Str := ["grid", "cell"]
theorem sc_sign_at : FnScope N_sign_at ["grid", "cell"] (defScope st_sign_at) := ⟨rfl, rfl, rfl, by decide +kernel, rfl, by decide +kernel, by decide +kernel⟩
abbrev st_moved : Stmt := topS 15
abbrev N_moved : List Str := ["cell", "move", "down", "right"]
theorem sc_moved : FnScope N_moved ["cell", "move"] (defScope st_moved) := ⟨rfl, rfl, rfl, by decide +kernel, rfl, by decide +kernel, by decide +kernel⟩
abbrev st_gap : Stmt := topS 33
abbrev N_gap : List Str := ["one", "two"]
theorem sc_gap : FnScope N_gap ["one", "two"] (defScope st_gap) := ⟨rfl, rfl, rfl, by decide +kernel, rfl, by decide +kernel, by decide +kernel⟩
abbrev st_key_of : Stmt := topS 40
abbrev N_key_of : List Str := ["state", "cell"]
theorem sc_key_of : FnScope N_key_of ["state"] (defScope st_key_of) := ⟨rfl, rfl, rfl, by decide +kernel, rfl, by decide +kernel, by decide +kernel⟩
abbrev st_lengths_of : Stmt := topS 43
abbrev N_lengths_of : List Str := ["table", "found", "ticks", "new", "more", "key", "_", "there"]
theorem sc_lengths_of : FnScope N_lengths_of ["table"] (defScope st_lengths_of) := ⟨rfl, rfl, rfl, by decide +kernel, rfl, by decide +kernel, by decide +kernel⟩
abbrev st__law_draws : Stmt := topS 50
abbrev N__law_draws : List Str := ["script", "draws", "k", "rest", "turn", "mixed"]
theorem sc__law_draws : FnScope N__law_draws ["script"] (defScope st__law_draws) := ⟨rfl, rfl, rfl, by decide +kernel, rfl, by decide +kernel, by decide +kernel⟩
abbrev st__law_mix : Stmt := topS 51
abbrev N__law_mix : List Str := ["draws", "k", "many", "cell_there"]
theorem sc__law_mix : FnScope N__law_mix ["draws", "k", "many"] (defScope st__law_mix) := ⟨rfl, rfl, rfl, by decide +kernel, rfl, by decide +kernel, by decide +kernel⟩
abbrev st__law_name : Stmt := topS 52
abbrev N__law_name : List Str := ["e", "words", "word", "is_it"]
theorem sc__law_name : FnScope N__law_name ["e"] (defScope st__law_name) := ⟨rfl, rfl, rfl, by decide +kernel, rfl, by decide +kernel, by decide +kernel⟩
abbrev st_beside : Stmt := topS 16
abbrev N_beside : List Str := ["grid", "cell", "found", "move", "one"]
theorem sc_beside : FnScope N_beside ["grid", "cell"] (defScope st_beside) := ⟨rfl, rfl, rfl, by decide +kernel, rfl, by decide +kernel, by decide +kernel⟩
abbrev st_free_of : Stmt := topS 26
abbrev N_free_of : List Str := ["maze", "cell"]
theorem sc_free_of : FnScope N_free_of ["maze"] (defScope st_free_of) := ⟨rfl, rfl, rfl, by decide +kernel, rfl, by decide +kernel, by decide +kernel⟩
abbrev st_is_free : Stmt := topS 28
abbrev N_is_free : List Str := ["maze", "cell"]
theorem sc_is_free : FnScope N_is_free ["maze", "cell"] (defScope st_is_free) := ⟨rfl, rfl, rfl, by decide +kernel, rfl, by decide +kernel, by decide +kernel⟩
abbrev st_check_maze : Stmt := topS 27
abbrev N_check_maze : List Str := ["maze"]
theorem sc_check_maze : FnScope N_check_maze ["maze"] (defScope st_check_maze) := ⟨rfl, rfl, rfl, by decide +kernel, rfl, by decide +kernel, by decide +kernel⟩
abbrev st_far_from : Stmt := topS 31
abbrev N_far_from : List Str := ["maze", "cell", "found", "layer", "later", "here", "one"]
theorem sc_far_from : FnScope N_far_from ["maze", "cell"] (defScope st_far_from) := ⟨rfl, rfl, rfl, by decide +kernel, rfl, by decide +kernel, by decide +kernel⟩
abbrev st_ran : Stmt := topS 35
abbrev N_ran : List Str := ["maze", "cell", "move", "there"]
theorem sc_ran : FnScope N_ran ["maze", "cell", "move"] (defScope st_ran) := ⟨rfl, rfl, rfl, by decide +kernel, rfl, by decide +kernel, by decide +kernel⟩
abbrev st_check_rules : Stmt := topS 29
abbrev N_check_rules : List Str := ["maze", "rules", "k", "rule"]
theorem sc_check_rules : FnScope N_check_rules ["maze", "rules"] (defScope st_check_rules) := ⟨rfl, rfl, rfl, by decide +kernel, rfl, by decide +kernel, by decide +kernel⟩
abbrev st_steps_to : Stmt := topS 32
abbrev N_steps_to : List Str := ["maze", "one", "two", "k", "cell"]
theorem sc_steps_to : FnScope N_steps_to ["maze", "one", "two"] (defScope st_steps_to) := ⟨rfl, rfl, rfl, by decide +kernel, rfl, by decide +kernel, by decide +kernel⟩
abbrev st_chased : Stmt := topS 34
abbrev N_chased : List Str := ["maze", "rule", "cell", "runner", "near", "far", "good", "one"]
theorem sc_chased : FnScope N_chased ["maze", "rule", "cell", "runner"] (defScope st_chased) := ⟨rfl, rfl, rfl, by decide +kernel, rfl, by decide +kernel, by decide +kernel⟩
abbrev st_check_state : Stmt := topS 30
abbrev N_check_state : List Str := ["maze", "rules", "state", "k", "cell"]
theorem sc_check_state : FnScope N_check_state ["maze", "rules", "state"] (defScope st_check_state) := ⟨rfl, rfl, rfl, by decide +kernel, rfl, by decide +kernel, by decide +kernel⟩
abbrev st_tick_of : Stmt := topS 36
abbrev N_tick_of : List Str := ["maze", "rules", "state", "move", "runner", "chasers", "k", "rule", "there", "cell"]
theorem sc_tick_of : FnScope N_tick_of ["maze", "rules", "state", "move"] (defScope st_tick_of) := ⟨rfl, rfl, rfl, by decide +kernel, rfl, by decide +kernel, by decide +kernel⟩
abbrev st_tick : Stmt := topS 37
abbrev N_tick : List Str := ["maze", "rules", "state", "move"]
theorem sc_tick : FnScope N_tick ["maze", "rules", "state", "move"] (defScope st_tick) := ⟨rfl, rfl, rfl, by decide +kernel, rfl, by decide +kernel, by decide +kernel⟩
abbrev st_run : Stmt := topS 38
abbrev N_run : List Str := ["maze", "rules", "state", "moves", "k", "move", "found", "here", "caught"]
theorem sc_run : FnScope N_run ["maze", "rules", "state", "moves"] (defScope st_run) := ⟨rfl, rfl, rfl, by decide +kernel, rfl, by decide +kernel, by decide +kernel⟩
abbrev st_nexts_of : Stmt := topS 41
abbrev N_nexts_of : List Str := ["maze", "rules", "key", "found", "move", "there", "caught"]
theorem sc_nexts_of : FnScope N_nexts_of ["maze", "rules", "key"] (defScope st_nexts_of) := ⟨rfl, rfl, rfl, by decide +kernel, rfl, by decide +kernel, by decide +kernel⟩
abbrev st_map_of : Stmt := topS 42
abbrev N_map_of : List Str := ["maze", "rules", "starts", "found", "layer", "later", "key", "_", "there"]
theorem sc_map_of : FnScope N_map_of ["maze", "rules", "starts"] (defScope st_map_of) := ⟨rfl, rfl, rfl, by decide +kernel, rfl, by decide +kernel, by decide +kernel⟩
abbrev st_told_of : Stmt := topS 44
abbrev N_told_of : List Str := ["maze", "rules", "state", "table"]
theorem sc_told_of : FnScope N_told_of ["maze", "rules", "state"] (defScope st_told_of) := ⟨rfl, rfl, rfl, by decide +kernel, rfl, by decide +kernel, by decide +kernel⟩
abbrev st_safe_cells : Stmt := topS 48
abbrev N_safe_cells : List Str := ["maze", "rules", "chasers", "k", "cell", "starts", "table", "lengths", "key"]
theorem sc_safe_cells : FnScope N_safe_cells ["maze", "rules", "chasers"] (defScope st_safe_cells) := ⟨rfl, rfl, rfl, by decide +kernel, rfl, by decide +kernel, by decide +kernel⟩
abbrev st_is_safe : Stmt := topS 45
abbrev N_is_safe : List Str := ["maze", "rules", "state", "table", "lengths"]
theorem sc_is_safe : FnScope N_is_safe ["maze", "rules", "state"] (defScope st_is_safe) := ⟨rfl, rfl, rfl, by decide +kernel, rfl, by decide +kernel, by decide +kernel⟩
abbrev st_safe_move : Stmt := topS 46
abbrev N_safe_move : List Str := ["maze", "rules", "state", "table", "lengths", "good", "move", "there"]
theorem sc_safe_move : FnScope N_safe_move ["maze", "rules", "state"] (defScope st_safe_move) := ⟨rfl, rfl, rfl, by decide +kernel, rfl, by decide +kernel, by decide +kernel⟩
abbrev st_longest : Stmt := topS 47
abbrev N_longest : List Str := ["maze", "rules", "state", "table", "lengths"]
theorem sc_longest : FnScope N_longest ["maze", "rules", "state"] (defScope st_longest) := ⟨rfl, rfl, rfl, by decide +kernel, rfl, by decide +kernel, by decide +kernel⟩
abbrev st__law_of : Stmt := topS 53
abbrev N__law_of : List Str := ["which", "maze", "rules", "state", "moves", "e"]
theorem sc__law_of : FnScope N__law_of ["which", "maze", "rules", "state", "moves"] (defScope st__law_of) := ⟨rfl, rfl, rfl, by decide +kernel, rfl, by decide +kernel, by decide +kernel⟩
abbrev st_law : Stmt := topS 54
abbrev N_law : List Str := ["script", "draws", "pool", "turn", "at", "maze", "due", "rules", "state", "moves", "kept", "cells", "free", "row", "odd", "first", "bad", "ruled", "here", "late", "some", "one", "wrong", "ran_v", "k", "place", "which"]
theorem sc_law : FnScope N_law ["script"] (defScope st_law) := ⟨rfl, rfl, rfl, by decide +kernel, rfl, by decide +kernel, by decide +kernel⟩
structure Fx (P : Program) (w : World) (K : PySem.W.Frag) (mg : Str → Option Value) (cl : Nat → Addr) (Dp fI : Addr) : Prop where
  xb : PySem.PlayX.PlayBase P K Dp fI
  xt : ∀ c, c < 6 → PySem.PlayX.PlayTxt K (cl c) Dp fI
  xk : ∀ c j, c < 6 → j < 6 → PySem.W.kitOne K (.ref (cl c)) (.ref (cl j)) = some (decide (c = j))
  m_PlayError : mg "PlayError" = some (.ref Dp)
  m_TooMany : mg "TooMany" = some (.ref (cl 0))
  m_WrongSize : mg "WrongSize" = some (.ref (cl 1))
  m_BadRow : mg "BadRow" = some (.ref (cl 2))
  m_BadMove : mg "BadMove" = some (.ref (cl 3))
  m_BadRule : mg "BadRule" = some (.ref (cl 4))
  m_BadState : mg "BadState" = some (.ref (cl 5))
  b_abs : mg "abs" = none
  b_all : mg "all" = none
  b_enumerate : mg "enumerate" = none
  b_int : mg "int" = none
  b_isinstance : mg "isinstance" = none
  b_len : mg "len" = none
  b_list : mg "list" = none
  b_min : mg "min" = none
  b_range : mg "range" = none
  b_repr : mg "repr" = none
  b_super : mg "super" = none
  b_tuple : mg "tuple" = none
  k_FREE : Kon w K mg "FREE" kv_FREE
  k_MOST_CHASERS : Kon w K mg "MOST_CHASERS" kv_MOST_CHASERS
  k_MOST_FREE : Kon w K mg "MOST_FREE" kv_MOST_FREE
  k_MOST_MOVES : Kon w K mg "MOST_MOVES" kv_MOST_MOVES
  k_MOST_SIDE : Kon w K mg "MOST_SIDE" kv_MOST_SIDE
  k_MOVES_grids : Kon w K mg "MOVES_grids" kv_MOVES_grids
  k_MOVES_ticks : Kon w K mg "MOVES_ticks" kv_MOVES_ticks
  k_RULES : Kon w K mg "RULES" kv_RULES
  k_SIGNS : Kon w K mg "SIGNS" kv_SIGNS
  k_STAY : Kon w K mg "STAY" kv_STAY
  g_check_grid : Gfn K mg "check_grid" "check_grid" st_check_grid ["grid", "signs"]
  g_cells_of : Gfn K mg "cells_of" "cells_of" st_cells_of ["grid"]
  g_is_cell : Gfn K mg "is_cell" "is_cell" st_is_cell ["grid", "cell"]
  g_sign_at : Gfn K mg "sign_at" "sign_at" st_sign_at ["grid", "cell"]
  g_moved : Gfn K mg "moved" "moved" st_moved ["cell", "move"]
  g_gap : Gfn K mg "gap" "gap" st_gap ["one", "two"]
  g_key_of : Gfn K mg "key_of" "key_of" st_key_of ["state"]
  g_lengths_of : Gfn K mg "lengths_of" "lengths_of" st_lengths_of ["table"]
  g__law_draws : Gfn K mg "_law_draws" "_law_draws" st__law_draws ["script"]
  g__law_mix : Gfn K mg "_law_mix" "_law_mix" st__law_mix ["draws", "k", "many"]
  g__law_name : Gfn K mg "_law_name" "_law_name" st__law_name ["e"]
  g_beside : Gfn K mg "beside" "beside" st_beside ["grid", "cell"]
  g_free_of : Gfn K mg "free_of" "free_of" st_free_of ["maze"]
  g_is_free : Gfn K mg "is_free" "is_free" st_is_free ["maze", "cell"]
  g_check_maze : Gfn K mg "check_maze" "check_maze" st_check_maze ["maze"]
  g_far_from : Gfn K mg "far_from" "far_from" st_far_from ["maze", "cell"]
  g_ran : Gfn K mg "ran" "ran" st_ran ["maze", "cell", "move"]
  g_check_rules : Gfn K mg "check_rules" "check_rules" st_check_rules ["maze", "rules"]
  g_steps_to : Gfn K mg "steps_to" "steps_to" st_steps_to ["maze", "one", "two"]
  g_chased : Gfn K mg "chased" "chased" st_chased ["maze", "rule", "cell", "runner"]
  g_check_state : Gfn K mg "check_state" "check_state" st_check_state ["maze", "rules", "state"]
  g_tick_of : Gfn K mg "tick_of" "tick_of" st_tick_of ["maze", "rules", "state", "move"]
  g_tick : Gfn K mg "tick" "tick" st_tick ["maze", "rules", "state", "move"]
  g_run : Gfn K mg "run" "run" st_run ["maze", "rules", "state", "moves"]
  g_nexts_of : Gfn K mg "nexts_of" "nexts_of" st_nexts_of ["maze", "rules", "key"]
  g_map_of : Gfn K mg "map_of" "map_of" st_map_of ["maze", "rules", "starts"]
  g_told_of : Gfn K mg "told_of" "told_of" st_told_of ["maze", "rules", "state"]
  g_safe_cells : Gfn K mg "safe_cells" "safe_cells" st_safe_cells ["maze", "rules", "chasers"]
  g_is_safe : Gfn K mg "is_safe" "is_safe" st_is_safe ["maze", "rules", "state"]
  g_safe_move : Gfn K mg "safe_move" "safe_move" st_safe_move ["maze", "rules", "state"]
  g_longest : Gfn K mg "longest" "longest" st_longest ["maze", "rules", "state"]
  g__law_of : Gfn K mg "_law_of" "_law_of" st__law_of ["which", "maze", "rules", "state", "moves"]
  g_law : Gfn K mg "law" "law" st_law ["script"]
section
variable {P : Program} {w : World} {K : PySem.W.Frag} {mg : Str → Option Value} {base : Heap} {cl : Nat → Addr} {Dp fI : Addr}
set_option maxHeartbeats 0 in
theorem b_check_grid (T : Fx P w K mg cl Dp fI) {a : Addr} {cdv : Value} {A : Around} {outer : List Env} {s : Shared} {H : Hp} {E : XK} (hr : Room 0 (A.deeper (envOfC "check_grid" (defScope st_check_grid) s.heap.objs.size a cdv))) : PSs (cxOf (L2N.CX P w) P w K mg base N_check_grid "check_grid" (defScope st_check_grid) a cdv A outer s H E) (defBody st_check_grid) (sV w K (eX w K cl E) [] [] false m_check_grid) :=
  (s_cons (O1 := []) (s_if (w_not (w_ch op_le op_le v_int (v_cb c_len T.b_len (a_cons (v_nm 0) a_nil)) (v_kon T.k_MOST_SIDE))) (s_one (s_raise 1 T.xb (T.xt 1 (by decide)) hr rfl (L2N.takes_of rfl rfl rfl rfl) wishX (v_cb c_len T.b_len (a_cons (v_nm 0) a_nil)) T.m_WrongSize T.b_super)) s_nil) (s_one (s_for (L2.passes_of rfl) rfl (i_en T.b_enumerate (a_cons (v_nm 0) a_nil)) (g_tup rfl (gs_cons (g_nm 2 sc_check_grid.nd) (gs_cons (g_nm 3 sc_check_grid.nd) gs_nil))) (s_one (s_if (w_or (w_not (w_ch op_le op_le v_int (v_cb c_len T.b_len (a_cons (v_nm 3) a_nil)) (v_kon T.k_MOST_SIDE))) (w_or (w_cmp (d_ne (hu64 hr)) (v_cb c_len T.b_len (a_cons (v_nm 3) a_nil)) (v_cb c_len T.b_len (a_cons (v_ix d_ix (v_nm 0) v_int) a_nil))) (w_or1 (w_not (w_val (v_cb (c_all rfl) T.b_all (a_cons (v_own (o_lc [("sign", 4)] rfl sc_check_grid.nd (i_str (v_nm 3)) (blkOk_by (N := N_check_grid) (sc := (defScope st_check_grid)) (by decide +kernel)) (fun _ _ _ _ _ => (g_nm 4 sc_check_grid.nd)) (fun _ _ _ _ _ => t_no) (fun _ _ _ _ _ => (v_cmp (d_in (hu65 hr)) (v_nm 4) (v_nm 1))))) a_nil))))))).pt (s_one (s_raise 2 T.xb (T.xt 2 (by decide)) hr rfl (L2N.takes_of rfl rfl rfl rfl) wishX (v_nm 2) T.m_BadRow T.b_super)) s_nil)))))
theorem c_check_grid (T : Fx P w K mg cl Dp fI) : Cal P w K mg base (L2N.CX P w) cl 1 "check_grid" 2 false f_check_grid := by
  obtain ⟨a, fd, F, m, b⟩ := T.g_check_grid.ex
  exact cal_ofX F m sc_check_grid b rfl fun _ _ _ _ _ _ hr => b_check_grid T hr
set_option maxHeartbeats 0 in
theorem b_cells_of (T : Fx P w K mg cl Dp fI) {a : Addr} {cdv : Value} {A : Around} {outer : List Env} {s : Shared} {H : Hp} {E : XK} (hr : Room 0 (A.deeper (envOfC "cells_of" (defScope st_cells_of) s.heap.objs.size a cdv))) : PSs (cxOf CX0 P w K mg base N_cells_of "cells_of" (defScope st_cells_of) a cdv A outer s H E).nox (defBody st_cells_of) (sV w K noE [] [] true m_cells_of) :=
  (s_one (s_retO (o_lc2 [("row", 1), ("place", 2)] [2] rfl sc_cells_of.nd (i_rg1 T.b_range (a_cons (v_cb c_len T.b_len (a_cons (v_nm 0) a_nil)) a_nil)) (blkOk_by (N := N_cells_of) (sc := (defScope st_cells_of)) (by decide +kernel)) (fun _ _ _ _ _ => (g_nm 1 sc_cells_of.nd)) (fun _ _ _ _ _ => t_no) (fun _ _ _ _ _ => (i_rg1 T.b_range (a_cons (v_cb c_len T.b_len (a_cons (v_ix d_ix (v_nm 0) v_int) a_nil)) a_nil))) (fun _ _ _ _ _ => (g_nm 2 sc_cells_of.nd)) (fun _ _ _ _ _ => t_no) (fun _ _ _ _ _ => (v_tup (a_cons (v_nm 1) (a_cons (v_nm 2) a_nil)))))))
theorem c_cells_of (T : Fx P w K mg cl Dp fI) : Cal P w K mg base CX0 cl 1 "cells_of" 1 true f_cells_of := by
  obtain ⟨a, fd, F, m, b⟩ := T.g_cells_of.ex
  exact cal_of F m sc_cells_of b rfl fun _ _ _ _ _ _ hr => b_cells_of T hr
set_option maxHeartbeats 0 in
theorem b_is_cell (T : Fx P w K mg cl Dp fI) {a : Addr} {cdv : Value} {A : Around} {outer : List Env} {s : Shared} {H : Hp} {E : XK} (hr : Room 0 (A.deeper (envOfC "is_cell" (defScope st_is_cell) s.heap.objs.size a cdv))) : PSs (cxOf CX0 P w K mg base N_is_cell "is_cell" (defScope st_is_cell) a cdv A outer s H E).nox (defBody st_is_cell) (sV w K noE [] [] false m_is_cell) :=
  (s_one (s_ret (v_and (v_ch op_le op_lt v_int (v_ix d_ix (v_nm 1) v_int) (v_cb c_len T.b_len (a_cons (v_nm 0) a_nil))) (v_one (v_ch op_le op_lt v_int (v_ix d_ix (v_nm 1) v_int) (v_cb c_len T.b_len (a_cons (v_ix d_ix (v_nm 0) v_int) a_nil)))))))
theorem c_is_cell (T : Fx P w K mg cl Dp fI) : Cal P w K mg base CX0 cl 1 "is_cell" 2 false f_is_cell := by
  obtain ⟨a, fd, F, m, b⟩ := T.g_is_cell.ex
  exact cal_of F m sc_is_cell b rfl fun _ _ _ _ _ _ hr => b_is_cell T hr
set_option maxHeartbeats 0 in
theorem b_sign_at (T : Fx P w K mg cl Dp fI) {a : Addr} {cdv : Value} {A : Around} {outer : List Env} {s : Shared} {H : Hp} {E : XK} (hr : Room 0 (A.deeper (envOfC "sign_at" (defScope st_sign_at) s.heap.objs.size a cdv))) : PSs (cxOf CX0 P w K mg base N_sign_at "sign_at" (defScope st_sign_at) a cdv A outer s H E).nox (defBody st_sign_at) (sV w K noE [] [] false m_sign_at) :=
  (s_one (s_ret (v_ix d_ix (v_ix d_ix (v_nm 0) (v_ix d_ix (v_nm 1) v_int)) (v_ix d_ix (v_nm 1) v_int))))
theorem c_sign_at (T : Fx P w K mg cl Dp fI) : Cal P w K mg base CX0 cl 1 "sign_at" 2 false f_sign_at := by
  obtain ⟨a, fd, F, m, b⟩ := T.g_sign_at.ex
  exact cal_of F m sc_sign_at b rfl fun _ _ _ _ _ _ hr => b_sign_at T hr
set_option maxHeartbeats 0 in
theorem b_moved (T : Fx P w K mg cl Dp fI) {a : Addr} {cdv : Value} {A : Around} {outer : List Env} {s : Shared} {H : Hp} {E : XK} (hr : Room 0 (A.deeper (envOfC "moved" (defScope st_moved) s.heap.objs.size a cdv))) : PSs (cxOf CX0 P w K mg base N_moved "moved" (defScope st_moved) a cdv A outer s H E).nox (defBody st_moved) (sV w K noE [] [] false m_moved) :=
  (s_cons (O1 := []) (s_tg (v_ix (d_ixE (hu65 hr)) (v_kon T.k_MOVES_grids) (v_nm 1)) (g_tup rfl (gs_cons (g_nm 2 sc_moved.nd) (gs_cons (g_nm 3 sc_moved.nd) gs_nil)))) (s_one (s_ret (v_tup (a_cons (v_op d_add (v_ix d_ix (v_nm 0) v_int) (v_nm 2)) (a_cons (v_op d_add (v_ix d_ix (v_nm 0) v_int) (v_nm 3)) a_nil))))))
theorem c_moved (T : Fx P w K mg cl Dp fI) : Cal P w K mg base CX0 cl 1 "moved" 2 false f_moved := by
  obtain ⟨a, fd, F, m, b⟩ := T.g_moved.ex
  exact cal_of F m sc_moved b rfl fun _ _ _ _ _ _ hr => b_moved T hr
set_option maxHeartbeats 0 in
theorem b_gap (T : Fx P w K mg cl Dp fI) {a : Addr} {cdv : Value} {A : Around} {outer : List Env} {s : Shared} {H : Hp} {E : XK} (hr : Room 0 (A.deeper (envOfC "gap" (defScope st_gap) s.heap.objs.size a cdv))) : PSs (cxOf CX0 P w K mg base N_gap "gap" (defScope st_gap) a cdv A outer s H E).nox (defBody st_gap) (sV w K noE [] [] false m_gap) :=
  (s_one (s_ret (v_op d_add (v_cb c_abs T.b_abs (a_cons (v_op d_sub (v_ix d_ix (v_nm 0) v_int) (v_ix d_ix (v_nm 1) v_int)) a_nil)) (v_cb c_abs T.b_abs (a_cons (v_op d_sub (v_ix d_ix (v_nm 0) v_int) (v_ix d_ix (v_nm 1) v_int)) a_nil)))))
theorem c_gap (T : Fx P w K mg cl Dp fI) : Cal P w K mg base CX0 cl 1 "gap" 2 false f_gap := by
  obtain ⟨a, fd, F, m, b⟩ := T.g_gap.ex
  exact cal_of F m sc_gap b rfl fun _ _ _ _ _ _ hr => b_gap T hr
set_option maxHeartbeats 0 in
theorem b_key_of (T : Fx P w K mg cl Dp fI) {a : Addr} {cdv : Value} {A : Around} {outer : List Env} {s : Shared} {H : Hp} {E : XK} (hr : Room 0 (A.deeper (envOfC "key_of" (defScope st_key_of) s.heap.objs.size a cdv))) : PSs (cxOf CX0 P w K mg base N_key_of "key_of" (defScope st_key_of) a cdv A outer s H E).nox (defBody st_key_of) (sV w K noE [] [] false m_key_of) :=
  (s_one (s_ret (v_tup (a_cons (v_ct c_tuple T.b_tuple (a_cons (v_ix d_ix (v_nm 0) v_int) a_nil)) (a_cons (v_ct c_tuple T.b_tuple (a_cons (v_own (o_lc [("cell", 1)] rfl sc_key_of.nd (i_lst (v_ix d_ix (v_nm 0) v_int)) (blkOk_by (N := N_key_of) (sc := (defScope st_key_of)) (by decide +kernel)) (fun _ _ _ _ _ => (g_nm 1 sc_key_of.nd)) (fun _ _ _ _ _ => t_no) (fun _ _ _ _ _ => (v_ct c_tuple T.b_tuple (a_cons (v_nm 1) a_nil))))) a_nil)) a_nil)))))
theorem c_key_of (T : Fx P w K mg cl Dp fI) : Cal P w K mg base CX0 cl 1 "key_of" 1 false f_key_of := by
  obtain ⟨a, fd, F, m, b⟩ := T.g_key_of.ex
  exact cal_of F m sc_key_of b rfl fun _ _ _ _ _ _ hr => b_key_of T hr
set_option maxHeartbeats 0 in
theorem b_lengths_of (T : Fx P w K mg cl Dp fI) {a : Addr} {cdv : Value} {A : Around} {outer : List Env} {s : Shared} {H : Hp} {E : XK} (hr : Room 0 (A.deeper (envOfC "lengths_of" (defScope st_lengths_of) s.heap.objs.size a cdv))) : PSs (cxOf CX0 P w K mg base N_lengths_of "lengths_of" (defScope st_lengths_of) a cdv A outer s H E).nox (defBody st_lengths_of) (sV w K noE [] [] true m_lengths_of) :=
  (s_cons (O1 := [1]) (s_setO (O' := [1]) 1 sc_lengths_of.nd o_d0) (s_cons (O1 := [1]) (s_set (O' := [1]) 2 sc_lengths_of.nd v_int) (s_cons (O1 := [1]) (s_set (O' := [1]) 3 sc_lengths_of.nd v_bl) (s_cons (O1 := [1]) (s_while FU PassesOwn.never (w_val (v_nm 3)) (s_cons (O1 := [1]) (s_lcV (O' := [1]) 4 [("key", 5)] rfl sc_lengths_of.nd (i_key (v_nm 0)) (blkOk_by (N := N_lengths_of) (sc := (defScope st_lengths_of)) (by decide +kernel)) (fun _ _ _ _ _ => (g_nm 5 sc_lengths_of.nd)) (fun _ _ _ _ _ => t_one (w_look (w_and (w_cmp (d_ninE (hu65 hr)) (v_nm 5) (v_nm 1)) (w_and1 (w_val (v_cb (c_all rfl) T.b_all (a_cons (v_own (o_lc [("_", 6), ("there", 7)] rfl sc_lengths_of.nd (i_lst (v_ix (d_ixE (hu65 hr)) (v_nm 0) (v_nm 5))) (blkOk_by (N := N_lengths_of) (sc := (relS _ (defScope st_lengths_of))) (by decide +kernel)) (fun _ _ _ _ _ => (g_tup rfl (gs_cons (g_nm 6 sc_lengths_of.nd) (gs_cons (g_nm 7 sc_lengths_of.nd) gs_nil)))) (fun _ _ _ _ _ => t_no) (fun _ _ _ _ _ => (v_cmp (d_inE (hu65 hr)) (v_nm 7) (v_nm 1))))) a_nil))))).pt)) (fun _ _ _ _ _ => (v_nm 5))) (s_cons (O1 := [1]) (s_for PassesOwn.never rfl (i_lst (v_nm 4)) (g_nm 5 sc_lengths_of.nd) (s_one (s_dput 1 (hu65 hr) (v_nm 5) (v_nm 2)))) (s_cons (O1 := [1]) (s_set (O' := [1]) 2 sc_lengths_of.nd (v_op d_add (v_nm 2) v_int)) (s_one (s_set (O' := [1]) 3 sc_lengths_of.nd (v_cmp d_gt (v_cb c_len T.b_len (a_cons (v_nm 4) a_nil)) v_int))))))) (s_one (s_retS 1))))))
theorem c_lengths_of (T : Fx P w K mg cl Dp fI) : Cal P w K mg base CX0 cl 1 "lengths_of" 1 true f_lengths_of := by
  obtain ⟨a, fd, F, m, b⟩ := T.g_lengths_of.ex
  exact cal_of F m sc_lengths_of b rfl fun _ _ _ _ _ _ hr => b_lengths_of T hr
set_option maxHeartbeats 0 in
theorem b__law_draws (T : Fx P w K mg cl Dp fI) {a : Addr} {cdv : Value} {A : Around} {outer : List Env} {s : Shared} {H : Hp} {E : XK} (hr : Room 0 (A.deeper (envOfC "_law_draws" (defScope st__law_draws) s.heap.objs.size a cdv))) : PSs (cxOf CX0 P w K mg base N__law_draws "_law_draws" (defScope st__law_draws) a cdv A outer s H E).nox (defBody st__law_draws) (sV w K noE [] [] true m__law_draws) :=
  (s_cons (O1 := [1]) (s_setO (O' := [1]) 1 sc__law_draws.nd (o_lst a_nil)) (s_cons (O1 := [1]) (s_for PassesOwn.never rfl (i_rg1 T.b_range (a_cons (v_cb (c_min2 rfl) T.b_min (a_cons v_int (a_cons (v_cb c_len T.b_len (a_cons (v_nm 0) a_nil)) a_nil))) a_nil)) (g_nm 2 sc__law_draws.nd) (s_cons (O1 := [1]) (s_set (O' := [1]) 3 sc__law_draws.nd (v_cb c_abs T.b_abs (a_cons (v_ix d_ix (v_nm 0) (v_nm 2)) a_nil))) (s_one (s_if (w_cmp d_ge (v_nm 3) (v_op d_pow v_int v_int)) (s_one (s_for PassesOwn.never rfl (i_rg1 T.b_range (a_cons v_int a_nil)) (g_nm 4 sc__law_draws.nd) (s_one (s_if (w_cmp d_gt (v_nm 3) v_int) (s_cons (O1 := [1]) (s_app 1 (v_op d_mod (v_ct c_int T.b_int (a_cons (v_nm 3) a_nil)) v_int)) (s_one (s_set (O' := [1]) 3 sc__law_draws.nd (v_op d_fdiv (v_nm 3) v_int)))) s_nil)))) (s_cons (O1 := [1]) (s_set (O' := [1]) 5 sc__law_draws.nd (v_op d_mod (v_ct c_int T.b_int (a_cons (v_op d_add (v_op d_mul (v_nm 3) v_int) (v_op d_mul (v_op d_add (v_nm 2) v_int) v_int)) a_nil)) v_int)) (s_cons (O1 := [1]) (s_set (O' := [1]) 5 sc__law_draws.nd (v_op d_mod (v_ct c_int T.b_int (a_cons (v_op d_add (v_op d_add (v_op d_mul (v_nm 5) v_int) (v_op d_mul v_int (v_nm 2))) v_int) a_nil)) v_int)) (s_cons (O1 := [1]) (s_app 1 (v_op d_mod (v_ct c_int T.b_int (a_cons (v_nm 5) a_nil)) v_int)) (s_one (s_app 1 (v_op d_mod (v_ct c_int T.b_int (a_cons (v_op d_fdiv (v_nm 5) v_int) a_nil)) v_int)))))))))) (s_one (s_retS 1))))
theorem c__law_draws (T : Fx P w K mg cl Dp fI) : Cal P w K mg base CX0 cl 1 "_law_draws" 1 true f__law_draws := by
  obtain ⟨a, fd, F, m, b⟩ := T.g__law_draws.ex
  exact cal_of F m sc__law_draws b rfl fun _ _ _ _ _ _ hr => b__law_draws T hr
set_option maxHeartbeats 0 in
theorem b__law_mix (T : Fx P w K mg cl Dp fI) {a : Addr} {cdv : Value} {A : Around} {outer : List Env} {s : Shared} {H : Hp} {E : XK} (hr : Room 0 (A.deeper (envOfC "_law_mix" (defScope st__law_mix) s.heap.objs.size a cdv))) : PSs (cxOf CX0 P w K mg base N__law_mix "_law_mix" (defScope st__law_mix) a cdv A outer s H E).nox (defBody st__law_mix) (sV w K noE [] [] false m__law_mix) :=
  (s_cons (O1 := []) (s_set (O' := []) 3 sc__law_mix.nd v_int) (s_cons (O1 := []) (s_if (w_cmp d_gt (v_cb c_len T.b_len (a_cons (v_nm 0) a_nil)) v_int) (s_one (s_set (O' := []) 3 sc__law_mix.nd (v_ix d_ix (v_nm 0) (v_op d_mod (v_ct c_int T.b_int (a_cons (v_nm 1) a_nil)) (v_cb c_len T.b_len (a_cons (v_nm 0) a_nil)))))) s_nil) (s_cons (O1 := []) (s_if (w_cmp d_lt (v_nm 1) (v_cb c_len T.b_len (a_cons (v_nm 0) a_nil))) (s_one (s_ret (v_op d_mod (v_ct c_int T.b_int (a_cons (v_nm 3) a_nil)) (v_nm 2)))) s_nil) (s_one (s_ret (v_op d_mod (v_ct c_int T.b_int (a_cons (v_op d_fdiv (v_ct c_int T.b_int (a_cons (v_op d_add (v_op d_mul (v_nm 3) v_int) (v_op d_mul (v_nm 1) v_int)) a_nil)) v_int) a_nil)) (v_nm 2)))))))
theorem c__law_mix (T : Fx P w K mg cl Dp fI) : Cal P w K mg base CX0 cl 1 "_law_mix" 3 false f__law_mix := by
  obtain ⟨a, fd, F, m, b⟩ := T.g__law_mix.ex
  exact cal_of F m sc__law_mix b rfl fun _ _ _ _ _ _ hr => b__law_mix T hr
set_option maxHeartbeats 0 in
theorem b__law_name (T : Fx P w K mg cl Dp fI) {c : Nat} {p : Addr × Obj} {dd a : Addr} {cdv : Value} {A : Around} {outer : List Env} {s : Shared} {H : Hp} (hot : L2H.Hot1 A p) (hc : p.2.cls = .ref (cl c)) (hd : p.2.dict = some dd) : PSs (L2H.cxH CX0 P w K mg base N__law_name "_law_name" (defScope st__law_name) a cdv A outer s H E0 p) (defBody st__law_name) (sV w K noE [] [] false (m__law_name c p.1 dd)) := by
  have hot2 : L2H.Hot1 (L2H.cxH CX0 P w K mg base N__law_name "_law_name" (defScope st__law_name) a cdv A outer s H E0 p).A p := hot
  have PE := pinE_of (X := L2H.cxH CX0 P w K mg base N__law_name "_law_name" (defScope st__law_name) a cdv A outer s H E0 p) List.mem_cons_self hot2 hc hd
  have HI := hotI_h (X := L2H.cxH CX0 P w K mg base N__law_name "_law_name" (defScope st__law_name) a cdv A outer s H E0 p) List.mem_cons_self hot2
  exact s_only fun lt => by
    have lt := of_decide_eq_true lt
    exact (s_cons (O1 := []) (s_set (O' := []) 1 sc__law_name.nd (v_own (o_lst (a_cons (v_tup (a_cons (v_stx [109, 111, 118, 101]) (a_cons (v_isE T.xb (T.xt _ lt) PE (T.xk _ 3 lt (by decide)) T.b_isinstance (v_nm 0) T.m_BadMove) a_nil))) (a_cons (v_tup (a_cons (v_stx [114, 111, 119]) (a_cons (v_isE T.xb (T.xt _ lt) PE (T.xk _ 2 lt (by decide)) T.b_isinstance (v_nm 0) T.m_BadRow) a_nil))) (a_cons (v_tup (a_cons (v_stx [114, 117, 108, 101]) (a_cons (v_isE T.xb (T.xt _ lt) PE (T.xk _ 4 lt (by decide)) T.b_isinstance (v_nm 0) T.m_BadRule) a_nil))) (a_cons (v_tup (a_cons (v_stx [115, 116, 97, 116, 101]) (a_cons (v_isE T.xb (T.xt _ lt) PE (T.xk _ 5 lt (by decide)) T.b_isinstance (v_nm 0) T.m_BadState) a_nil))) a_nil))))))) (s_cons (O1 := []) (s_set (O' := []) 1 sc__law_name.nd (v_op d_add (v_nm 1) (v_own (o_lst (a_cons (v_tup (a_cons (v_stx [109, 97, 110, 121]) (a_cons (v_isE T.xb (T.xt _ lt) PE (T.xk _ 0 lt (by decide)) T.b_isinstance (v_nm 0) T.m_TooMany) a_nil))) (a_cons (v_tup (a_cons (v_stx [115, 105, 122, 101]) (a_cons (v_isE T.xb (T.xt _ lt) PE (T.xk _ 1 lt (by decide)) T.b_isinstance (v_nm 0) T.m_WrongSize) a_nil))) a_nil)))))) (s_one (s_ret (v_tup (a_cons (v_join (v_stx [32]) (v_own (o_lcHot [("word", 2), ("is_it", 3)] HI sc__law_name.nd (v_nm 1) (blkOk_by (N := N__law_name) (sc := (defScope st__law_name)) (by decide +kernel)) (fun _ _ _ _ _ hI => (g_tupH hI (gs_cons (g_nm 2 sc__law_name.nd) (gs_cons (g_nm 3 sc__law_name.nd) gs_nil)))) (fun _ _ _ _ _ => t_one (w_val (v_nm 3))) (fun _ _ _ _ _ => (v_nm 2))))) (a_cons (v_atE (T.xt _ lt) PE (v_nm 0)) a_nil)))))))
theorem ce__law_name (T : Fx P w K mg cl Dp fI) : CalE P w K mg base cl 1 "_law_name" f__law_name := by
  obtain ⟨a, fd, F, m, b⟩ := T.g__law_name.ex
  exact ⟨a, fd, ["e"], fne_of F sc__law_name fun c p dd cdv A outer s H hot hc hd hr => b__law_name T hot hc hd, m, F.kp, b, rfl⟩
set_option maxHeartbeats 0 in
theorem b_beside (T : Fx P w K mg cl Dp fI) {a : Addr} {cdv : Value} {A : Around} {outer : List Env} {s : Shared} {H : Hp} {E : XK} (hr : Room 1 (A.deeper (envOfC "beside" (defScope st_beside) s.heap.objs.size a cdv))) : PSs (cxOf CX0 P w K mg base N_beside "beside" (defScope st_beside) a cdv A outer s H E).nox (defBody st_beside) (sV w K noE [] [] true m_beside) :=
  (s_cons (O1 := []) (s_lcV (O' := []) 2 [("move", 3)] rfl sc_beside.nd (i_str (v_stx [117, 100, 108, 114])) (blkOk_by (N := N_beside) (sc := (defScope st_beside)) (by decide +kernel)) (fun _ _ _ _ _ => (g_nm 3 sc_beside.nd)) (fun _ _ _ _ _ => t_no) (fun _ _ _ _ _ => (v_fn (c_moved T) hr pass0 wish0 (a_cons (v_nm 1) (a_cons (v_nm 3) a_nil))))) (s_one (s_retO (o_lc [("one", 4)] rfl sc_beside.nd (i_lst (v_nm 2)) (blkOk_by (N := N_beside) (sc := (defScope st_beside)) (by decide +kernel)) (fun _ _ _ _ _ => (g_nm 4 sc_beside.nd)) (fun _ _ _ _ _ => t_one (w_val (v_fn (c_is_cell T) hr pass0 wish0 (a_cons (v_nm 0) (a_cons (v_nm 4) a_nil))))) (fun _ _ _ _ _ => (v_nm 4))))))
theorem c_beside (T : Fx P w K mg cl Dp fI) : Cal P w K mg base CX0 cl 2 "beside" 2 true f_beside := by
  obtain ⟨a, fd, F, m, b⟩ := T.g_beside.ex
  exact cal_of F m sc_beside b rfl fun _ _ _ _ _ _ hr => b_beside T hr
set_option maxHeartbeats 0 in
theorem b_free_of (T : Fx P w K mg cl Dp fI) {a : Addr} {cdv : Value} {A : Around} {outer : List Env} {s : Shared} {H : Hp} {E : XK} (hr : Room 1 (A.deeper (envOfC "free_of" (defScope st_free_of) s.heap.objs.size a cdv))) : PSs (cxOf CX0 P w K mg base N_free_of "free_of" (defScope st_free_of) a cdv A outer s H E).nox (defBody st_free_of) (sV w K noE [] [] true m_free_of) :=
  (s_one (s_retO (o_lc [("cell", 1)] rfl sc_free_of.nd (i_lst (v_own (o_fn (c_cells_of T) hr pass0 wish0 (a_cons (v_nm 0) a_nil)))) (blkOk_by (N := N_free_of) (sc := (defScope st_free_of)) (by decide +kernel)) (fun _ _ _ _ _ => (g_nm 1 sc_free_of.nd)) (fun _ _ _ _ _ => t_one (w_cmp (d_eq (hu64 hr)) (v_fn (c_sign_at T) hr pass0 wish0 (a_cons (v_nm 0) (a_cons (v_nm 1) a_nil))) (v_kon T.k_FREE))) (fun _ _ _ _ _ => (v_nm 1)))))
theorem c_free_of (T : Fx P w K mg cl Dp fI) : Cal P w K mg base CX0 cl 2 "free_of" 1 true f_free_of := by
  obtain ⟨a, fd, F, m, b⟩ := T.g_free_of.ex
  exact cal_of F m sc_free_of b rfl fun _ _ _ _ _ _ hr => b_free_of T hr
set_option maxHeartbeats 0 in
theorem b_is_free (T : Fx P w K mg cl Dp fI) {a : Addr} {cdv : Value} {A : Around} {outer : List Env} {s : Shared} {H : Hp} {E : XK} (hr : Room 1 (A.deeper (envOfC "is_free" (defScope st_is_free) s.heap.objs.size a cdv))) : PSs (cxOf CX0 P w K mg base N_is_free "is_free" (defScope st_is_free) a cdv A outer s H E).nox (defBody st_is_free) (sV w K noE [] [] false m_is_free) :=
  (s_one (s_ret (v_and (v_fn (c_is_cell T) hr pass0 wish0 (a_cons (v_nm 0) (a_cons (v_nm 1) a_nil))) (v_one (v_cmp (d_eq (hu64 hr)) (v_fn (c_sign_at T) hr pass0 wish0 (a_cons (v_nm 0) (a_cons (v_nm 1) a_nil))) (v_kon T.k_FREE))))))
theorem c_is_free (T : Fx P w K mg cl Dp fI) : Cal P w K mg base CX0 cl 2 "is_free" 2 false f_is_free := by
  obtain ⟨a, fd, F, m, b⟩ := T.g_is_free.ex
  exact cal_of F m sc_is_free b rfl fun _ _ _ _ _ _ hr => b_is_free T hr
set_option maxHeartbeats 0 in
theorem b_check_maze (T : Fx P w K mg cl Dp fI) {a : Addr} {cdv : Value} {A : Around} {outer : List Env} {s : Shared} {H : Hp} {E : XK} (hr : Room 2 (A.deeper (envOfC "check_maze" (defScope st_check_maze) s.heap.objs.size a cdv))) : PSs (cxOf (L2N.CX P w) P w K mg base N_check_maze "check_maze" (defScope st_check_maze) a cdv A outer s H E) (defBody st_check_maze) (sV w K (eX w K cl E) [] [] false m_check_maze) :=
  (s_cons (O1 := []) (s_ex (v_fn (c_check_grid T) hr (passX (L2N.takes_of rfl rfl rfl rfl)) wishX (a_cons (v_nm 0) (a_cons (v_kon T.k_SIGNS) a_nil)))) (s_one (s_if (w_cmp d_gt (v_cb c_len T.b_len (a_cons (v_own (o_fn (c_free_of T) hr passT wishT (a_cons (v_nm 0) a_nil))) a_nil)) (v_kon T.k_MOST_FREE)) (s_one (s_raise 0 T.xb (T.xt 0 (by decide)) hr rfl (L2N.takes_of rfl rfl rfl rfl) wishX (v_cb c_len T.b_len (a_cons (v_own (o_fn (c_free_of T) hr passT wishT (a_cons (v_nm 0) a_nil))) a_nil)) T.m_TooMany T.b_super)) s_nil)))
theorem c_check_maze (T : Fx P w K mg cl Dp fI) : Cal P w K mg base (L2N.CX P w) cl 3 "check_maze" 1 false f_check_maze := by
  obtain ⟨a, fd, F, m, b⟩ := T.g_check_maze.ex
  exact cal_ofX F m sc_check_maze b rfl fun _ _ _ _ _ _ hr => b_check_maze T hr
set_option maxHeartbeats 0 in
theorem b_far_from (T : Fx P w K mg cl Dp fI) {a : Addr} {cdv : Value} {A : Around} {outer : List Env} {s : Shared} {H : Hp} {E : XK} (hr : Room 2 (A.deeper (envOfC "far_from" (defScope st_far_from) s.heap.objs.size a cdv))) : PSs (cxOf CX0 P w K mg base N_far_from "far_from" (defScope st_far_from) a cdv A outer s H E).nox (defBody st_far_from) (sV w K noE [] [] true m_far_from) :=
  (s_cons (O1 := [2]) (s_setO (O' := [2]) 2 sc_far_from.nd (o_dd (hu65 hr) (p_cons (v_nm 1) v_int p_nil))) (s_cons (O1 := [2]) (s_set (O' := [2]) 3 sc_far_from.nd (v_own (o_lst (a_cons (v_nm 1) a_nil)))) (s_cons (O1 := [2]) (s_while FU PassesOwn.never (w_cmp d_gt (v_cb c_len T.b_len (a_cons (v_nm 3) a_nil)) v_int) (s_cons (O1 := [2, 4]) (s_setO (O' := [2, 4]) 4 sc_far_from.nd (o_lst a_nil)) (s_cons (O1 := [2, 4]) (s_for PassesOwn.never rfl (i_lst (v_nm 3)) (g_nm 5 sc_far_from.nd) (s_one (s_for PassesOwn.never rfl (i_lst (v_own (o_fn (c_beside T) hr pass0 wish0 (a_cons (v_nm 0) (a_cons (v_nm 5) a_nil))))) (g_nm 6 sc_far_from.nd) (s_one (s_if (w_look (w_and (w_val (v_fn (c_is_free T) hr pass0 wish0 (a_cons (v_nm 0) (a_cons (v_nm 6) a_nil)))) (w_and1 (w_cmp (d_ninE (hu65 hr)) (v_nm 6) (v_nm 2)))).pt) (s_cons (O1 := [2, 4]) (s_dput 2 (hu65 hr) (v_nm 6) (v_op d_add (v_dgo 2 (hu65 hr) (v_nm 5)) v_int)) (s_one (s_app 4 (v_nm 6)))) s_nil))))) (s_frz (O1 := [2]) (s_one (s_set (O' := [2]) 3 sc_far_from.nd (v_nm 4))))))) (s_one (s_retS 2)))))
theorem c_far_from (T : Fx P w K mg cl Dp fI) : Cal P w K mg base CX0 cl 3 "far_from" 2 true f_far_from := by
  obtain ⟨a, fd, F, m, b⟩ := T.g_far_from.ex
  exact cal_of F m sc_far_from b rfl fun _ _ _ _ _ _ hr => b_far_from T hr
set_option maxHeartbeats 0 in
theorem b_ran (T : Fx P w K mg cl Dp fI) {a : Addr} {cdv : Value} {A : Around} {outer : List Env} {s : Shared} {H : Hp} {E : XK} (hr : Room 2 (A.deeper (envOfC "ran" (defScope st_ran) s.heap.objs.size a cdv))) : PSs (cxOf CX0 P w K mg base N_ran "ran" (defScope st_ran) a cdv A outer s H E).nox (defBody st_ran) (sV w K noE [] [] false m_ran) :=
  (s_cons (O1 := []) (s_if (w_cmp (d_eq (hu64 hr)) (v_nm 2) (v_kon T.k_STAY)) (s_one (s_ret (v_nm 1))) s_nil) (s_cons (O1 := []) (s_set (O' := []) 3 sc_ran.nd (v_fn (c_moved T) hr pass0 wish0 (a_cons (v_nm 1) (a_cons (v_nm 2) a_nil)))) (s_one (s_ret (v_if (w_val (v_fn (c_is_free T) hr pass0 wish0 (a_cons (v_nm 0) (a_cons (v_nm 3) a_nil)))) (v_nm 3) (v_nm 1))))))
theorem c_ran (T : Fx P w K mg cl Dp fI) : Cal P w K mg base CX0 cl 3 "ran" 3 false f_ran := by
  obtain ⟨a, fd, F, m, b⟩ := T.g_ran.ex
  exact cal_of F m sc_ran b rfl fun _ _ _ _ _ _ hr => b_ran T hr
set_option maxHeartbeats 0 in
theorem b_check_rules (T : Fx P w K mg cl Dp fI) {a : Addr} {cdv : Value} {A : Around} {outer : List Env} {s : Shared} {H : Hp} {E : XK} (hr : Room 3 (A.deeper (envOfC "check_rules" (defScope st_check_rules) s.heap.objs.size a cdv))) : PSs (cxOf (L2N.CX P w) P w K mg base N_check_rules "check_rules" (defScope st_check_rules) a cdv A outer s H E) (defBody st_check_rules) (sV w K (eX w K cl E) [] [] false m_check_rules) :=
  (s_cons (O1 := []) (s_ex (v_fn (c_check_maze T) hr (passX (L2N.takes_of rfl rfl rfl rfl)) wishX (a_cons (v_nm 0) a_nil))) (s_cons (O1 := []) (s_if (w_not (w_ch op_le op_le v_int (v_cb c_len T.b_len (a_cons (v_nm 1) a_nil)) (v_kon T.k_MOST_CHASERS))) (s_one (s_raise 1 T.xb (T.xt 1 (by decide)) hr rfl (L2N.takes_of rfl rfl rfl rfl) wishX (v_cb c_len T.b_len (a_cons (v_nm 1) a_nil)) T.m_WrongSize T.b_super)) s_nil) (s_one (s_for (L2.passes_of rfl) rfl (i_en T.b_enumerate (a_cons (v_nm 1) a_nil)) (g_tup rfl (gs_cons (g_nm 2 sc_check_rules.nd) (gs_cons (g_nm 3 sc_check_rules.nd) gs_nil))) (s_one (s_if (w_cmp (d_nin (hu65 hr)) (v_nm 3) (v_kon T.k_RULES)) (s_one (s_raise 4 T.xb (T.xt 4 (by decide)) hr rfl (L2N.takes_of rfl rfl rfl rfl) wishX (v_nm 2) T.m_BadRule T.b_super)) s_nil))))))
theorem c_check_rules (T : Fx P w K mg cl Dp fI) : Cal P w K mg base (L2N.CX P w) cl 4 "check_rules" 2 false f_check_rules := by
  obtain ⟨a, fd, F, m, b⟩ := T.g_check_rules.ex
  exact cal_ofX F m sc_check_rules b rfl fun _ _ _ _ _ _ hr => b_check_rules T hr
set_option maxHeartbeats 0 in
theorem b_steps_to (T : Fx P w K mg cl Dp fI) {a : Addr} {cdv : Value} {A : Around} {outer : List Env} {s : Shared} {H : Hp} {E : XK} (hr : Room 3 (A.deeper (envOfC "steps_to" (defScope st_steps_to) s.heap.objs.size a cdv))) : PSs (cxOf (L2N.CX P w) P w K mg base N_steps_to "steps_to" (defScope st_steps_to) a cdv A outer s H E) (defBody st_steps_to) (sV w K (eX w K cl E) [] [] false m_steps_to) :=
  (s_cons (O1 := []) (s_ex (v_fn (c_check_maze T) hr (passX (L2N.takes_of rfl rfl rfl rfl)) wishX (a_cons (v_nm 0) a_nil))) (s_cons (O1 := []) (s_for (L2.passes_of rfl) rfl (i_ent T.b_enumerate (a_cons (v_tup (a_cons (v_nm 1) (a_cons (v_nm 2) a_nil))) a_nil)) (g_tup rfl (gs_cons (g_nm 3 sc_steps_to.nd) (gs_cons (g_nm 4 sc_steps_to.nd) gs_nil))) (s_one (s_if (w_not (w_val (v_fn (c_is_free T) hr passT wishT (a_cons (v_nm 0) (a_cons (v_nm 4) a_nil))))) (s_one (s_raise 5 T.xb (T.xt 5 (by decide)) hr rfl (L2N.takes_of rfl rfl rfl rfl) wishX (v_nm 3) T.m_BadState T.b_super)) s_nil))) (s_one (s_ret (v_get1 (hu65 hr) (v_own (o_fn (c_far_from T) hr passT wishT (a_cons (v_nm 0) (a_cons (v_nm 1) a_nil)))) (v_nm 2))))))
theorem c_steps_to (T : Fx P w K mg cl Dp fI) : Cal P w K mg base (L2N.CX P w) cl 4 "steps_to" 3 false f_steps_to := by
  obtain ⟨a, fd, F, m, b⟩ := T.g_steps_to.ex
  exact cal_ofX F m sc_steps_to b rfl fun _ _ _ _ _ _ hr => b_steps_to T hr
set_option maxHeartbeats 0 in
theorem b_chased (T : Fx P w K mg cl Dp fI) {a : Addr} {cdv : Value} {A : Around} {outer : List Env} {s : Shared} {H : Hp} {E : XK} (hr : Room 3 (A.deeper (envOfC "chased" (defScope st_chased) s.heap.objs.size a cdv))) : PSs (cxOf CX0 P w K mg base N_chased "chased" (defScope st_chased) a cdv A outer s H E).nox (defBody st_chased) (sV w K noE [] [] false m_chased) :=
  (s_cons (O1 := []) (s_lcV (O' := []) 4 [("one", 7)] rfl sc_chased.nd (i_lst (v_own (o_fn (c_beside T) hr pass0 wish0 (a_cons (v_nm 0) (a_cons (v_nm 2) a_nil))))) (blkOk_by (N := N_chased) (sc := (defScope st_chased)) (by decide +kernel)) (fun _ _ _ _ _ => (g_nm 7 sc_chased.nd)) (fun _ _ _ _ _ => t_one (w_val (v_fn (c_is_free T) hr pass0 wish0 (a_cons (v_nm 0) (a_cons (v_nm 7) a_nil))))) (fun _ _ _ _ _ => (v_nm 7))) (s_cons (O1 := []) (s_if (w_or (w_cmp (d_eq (hu64 hr)) (v_nm 1) (v_stx [119, 97, 105, 116])) (w_or1 (w_cmp (d_eq (hu64 hr)) (v_cb c_len T.b_len (a_cons (v_nm 4) a_nil)) v_int))).pt (s_one (s_ret (v_nm 2))) s_nil) (s_cons (O1 := []) (s_if (w_cmp (d_eq (hu64 hr)) (v_nm 1) (v_stx [114, 111, 119])) (s_one (s_ret (v_ix d_ix (v_nm 4) (v_index (hu65 hr) (v_own (o_lc [("one", 7)] rfl sc_chased.nd (i_lst (v_nm 4)) (blkOk_by (N := N_chased) (sc := (defScope st_chased)) (by decide +kernel)) (fun _ _ _ _ _ => (g_nm 7 sc_chased.nd)) (fun _ _ _ _ _ => t_no) (fun _ _ _ _ _ => (v_fn (c_gap T) hr pass0 wish0 (a_cons (v_nm 7) (a_cons (v_nm 3) a_nil)))))) (v_cb (c_min rfl) T.b_min (a_cons (v_own (o_lc [("one", 7)] rfl sc_chased.nd (i_lst (v_nm 4)) (blkOk_by (N := N_chased) (sc := (defScope st_chased)) (by decide +kernel)) (fun _ _ _ _ _ => (g_nm 7 sc_chased.nd)) (fun _ _ _ _ _ => t_no) (fun _ _ _ _ _ => (v_fn (c_gap T) hr pass0 wish0 (a_cons (v_nm 7) (a_cons (v_nm 3) a_nil)))))) a_nil)))))) s_nil) (s_cons (O1 := []) (s_set (O' := []) 5 sc_chased.nd (v_own (o_fn (c_far_from T) hr pass0 wish0 (a_cons (v_nm 0) (a_cons (v_nm 3) a_nil))))) (s_cons (O1 := []) (s_lcV (O' := []) 6 [("one", 7)] rfl sc_chased.nd (i_lst (v_nm 4)) (blkOk_by (N := N_chased) (sc := (defScope st_chased)) (by decide +kernel)) (fun _ _ _ _ _ => (g_nm 7 sc_chased.nd)) (fun _ _ _ _ _ => t_one (w_cmp (d_inE (hu65 hr)) (v_nm 7) (v_nm 5))) (fun _ _ _ _ _ => (v_nm 7))) (s_cons (O1 := []) (s_if (w_cmp (d_eq (hu64 hr)) (v_cb c_len T.b_len (a_cons (v_nm 6) a_nil)) v_int) (s_one (s_ret (v_nm 2))) s_nil) (s_one (s_ret (v_ix d_ix (v_nm 6) (v_index (hu65 hr) (v_own (o_lc [("one", 7)] rfl sc_chased.nd (i_lst (v_nm 6)) (blkOk_by (N := N_chased) (sc := (defScope st_chased)) (by decide +kernel)) (fun _ _ _ _ _ => (g_nm 7 sc_chased.nd)) (fun _ _ _ _ _ => t_no) (fun _ _ _ _ _ => (v_ix (d_ixE (hu65 hr)) (v_nm 5) (v_nm 7))))) (v_cb (c_min rfl) T.b_min (a_cons (v_own (o_lc [("one", 7)] rfl sc_chased.nd (i_lst (v_nm 6)) (blkOk_by (N := N_chased) (sc := (defScope st_chased)) (by decide +kernel)) (fun _ _ _ _ _ => (g_nm 7 sc_chased.nd)) (fun _ _ _ _ _ => t_no) (fun _ _ _ _ _ => (v_ix (d_ixE (hu65 hr)) (v_nm 5) (v_nm 7))))) a_nil))))))))))))
theorem c_chased (T : Fx P w K mg cl Dp fI) : Cal P w K mg base CX0 cl 4 "chased" 4 false f_chased := by
  obtain ⟨a, fd, F, m, b⟩ := T.g_chased.ex
  exact cal_of F m sc_chased b rfl fun _ _ _ _ _ _ hr => b_chased T hr
set_option maxHeartbeats 0 in
theorem b_check_state (T : Fx P w K mg cl Dp fI) {a : Addr} {cdv : Value} {A : Around} {outer : List Env} {s : Shared} {H : Hp} {E : XK} (hr : Room 4 (A.deeper (envOfC "check_state" (defScope st_check_state) s.heap.objs.size a cdv))) : PSs (cxOf (L2N.CX P w) P w K mg base N_check_state "check_state" (defScope st_check_state) a cdv A outer s H E) (defBody st_check_state) (sV w K (eX w K cl E) [] [] false m_check_state) :=
  (s_cons (O1 := []) (s_ex (v_fn (c_check_rules T) hr (passX (L2N.takes_of rfl rfl rfl rfl)) wishX (a_cons (v_nm 0) (a_cons (v_nm 1) a_nil)))) (s_cons (O1 := []) (s_for (L2.passes_of rfl) rfl (i_en T.b_enumerate (a_cons (v_own (o_lst (a_cons (v_ix d_ix (v_nm 2) v_int) (a_star (v_ix d_ix (v_nm 2) v_int) a_nil)))) a_nil)) (g_tup rfl (gs_cons (g_nm 3 sc_check_state.nd) (gs_cons (g_nm 4 sc_check_state.nd) gs_nil))) (s_one (s_if (w_not (w_val (v_fn (c_is_free T) hr passT wishT (a_cons (v_nm 0) (a_cons (v_nm 4) a_nil))))) (s_one (s_raise 5 T.xb (T.xt 5 (by decide)) hr rfl (L2N.takes_of rfl rfl rfl rfl) wishX (v_nm 3) T.m_BadState T.b_super)) s_nil))) (s_one (s_if (w_cmp (d_ne (hu64 hr)) (v_cb c_len T.b_len (a_cons (v_ix d_ix (v_nm 2) v_int) a_nil)) (v_cb c_len T.b_len (a_cons (v_nm 1) a_nil))) (s_one (s_raise 5 T.xb (T.xt 5 (by decide)) hr rfl (L2N.takes_of rfl rfl rfl rfl) wishX (v_cb c_len T.b_len (a_cons (v_ix d_ix (v_nm 2) v_int) a_nil)) T.m_BadState T.b_super)) s_nil))))
theorem c_check_state (T : Fx P w K mg cl Dp fI) : Cal P w K mg base (L2N.CX P w) cl 5 "check_state" 3 false f_check_state := by
  obtain ⟨a, fd, F, m, b⟩ := T.g_check_state.ex
  exact cal_ofX F m sc_check_state b rfl fun _ _ _ _ _ _ hr => b_check_state T hr
set_option maxHeartbeats 0 in
theorem b_tick_of (T : Fx P w K mg cl Dp fI) {a : Addr} {cdv : Value} {A : Around} {outer : List Env} {s : Shared} {H : Hp} {E : XK} (hr : Room 4 (A.deeper (envOfC "tick_of" (defScope st_tick_of) s.heap.objs.size a cdv))) : PSs (cxOf CX0 P w K mg base N_tick_of "tick_of" (defScope st_tick_of) a cdv A outer s H E).nox (defBody st_tick_of) (sV w K noE [] [] false m_tick_of) :=
  (s_cons (O1 := []) (s_set (O' := []) 4 sc_tick_of.nd (v_fn (c_ran T) hr pass0 wish0 (a_cons (v_nm 0) (a_cons (v_ix d_ix (v_nm 2) v_int) (a_cons (v_nm 3) a_nil))))) (s_cons (O1 := []) (s_lcV (O' := []) 5 [("cell", 9)] rfl sc_tick_of.nd (i_lst (v_ix d_ix (v_nm 2) v_int)) (blkOk_by (N := N_tick_of) (sc := (defScope st_tick_of)) (by decide +kernel)) (fun _ _ _ _ _ => (g_nm 9 sc_tick_of.nd)) (fun _ _ _ _ _ => t_no) (fun _ _ _ _ _ => (v_ct c_tuple T.b_tuple (a_cons (v_nm 9) a_nil)))) (s_cons (O1 := []) (s_if (w_cmp (d_in (hu65 hr)) (v_nm 4) (v_nm 5)) (s_one (s_ret (v_tup (a_cons (v_tup (a_cons (v_nm 4) (a_cons (v_nm 5) a_nil))) (a_cons v_bl a_nil))))) s_nil) (s_cons (O1 := []) (s_for PassesOwn.never rfl (i_en T.b_enumerate (a_cons (v_nm 1) a_nil)) (g_tup rfl (gs_cons (g_nm 6 sc_tick_of.nd) (gs_cons (g_nm 7 sc_tick_of.nd) gs_nil))) (s_cons (O1 := []) (s_set (O' := []) 8 sc_tick_of.nd (v_fn (c_chased T) hr pass0 wish0 (a_cons (v_nm 0) (a_cons (v_nm 7) (a_cons (v_ix d_ix (v_nm 5) (v_nm 6)) (a_cons (v_nm 4) a_nil)))))) (s_cons (O1 := []) (s_set (O' := []) 5 sc_tick_of.nd (v_op d_add (v_op d_add (v_sl d_sl (v_nm 5) p_no (p_so (v_nm 6))) (v_own (o_lst (a_cons (v_nm 8) a_nil)))) (v_sl d_sl (v_nm 5) (p_so (v_op d_add (v_nm 6) v_int)) p_no))) (s_one (s_if (w_cmp (d_eq (hu64 hr)) (v_nm 8) (v_nm 4)) (s_one (s_ret (v_tup (a_cons (v_tup (a_cons (v_nm 4) (a_cons (v_nm 5) a_nil))) (a_cons v_bl a_nil))))) s_nil))))) (s_one (s_ret (v_tup (a_cons (v_tup (a_cons (v_nm 4) (a_cons (v_nm 5) a_nil))) (a_cons v_bl a_nil)))))))))
theorem c_tick_of (T : Fx P w K mg cl Dp fI) : Cal P w K mg base CX0 cl 5 "tick_of" 4 false f_tick_of := by
  obtain ⟨a, fd, F, m, b⟩ := T.g_tick_of.ex
  exact cal_of F m sc_tick_of b rfl fun _ _ _ _ _ _ hr => b_tick_of T hr
set_option maxHeartbeats 0 in
theorem b_tick (T : Fx P w K mg cl Dp fI) {a : Addr} {cdv : Value} {A : Around} {outer : List Env} {s : Shared} {H : Hp} {E : XK} (hr : Room 5 (A.deeper (envOfC "tick" (defScope st_tick) s.heap.objs.size a cdv))) : PSs (cxOf (L2N.CX P w) P w K mg base N_tick "tick" (defScope st_tick) a cdv A outer s H E) (defBody st_tick) (sV w K (eX w K cl E) [] [] false m_tick) :=
  (s_cons (O1 := []) (s_ex (v_fn (c_check_state T) hr (passX (L2N.takes_of rfl rfl rfl rfl)) wishX (a_cons (v_nm 0) (a_cons (v_nm 1) (a_cons (v_nm 2) a_nil))))) (s_cons (O1 := []) (s_if (w_or (w_cmp (d_ne (hu64 hr)) (v_cb c_len T.b_len (a_cons (v_nm 3) a_nil)) v_int) (w_or1 (w_cmp (d_nin (hu65 hr)) (v_nm 3) (v_kon T.k_MOVES_ticks)))).pt (s_one (s_raise 3 T.xb (T.xt 3 (by decide)) hr rfl (L2N.takes_of rfl rfl rfl rfl) wishX v_int T.m_BadMove T.b_super)) s_nil) (s_one (s_ret (v_fn (c_tick_of T) hr passT wishT (a_cons (v_nm 0) (a_cons (v_nm 1) (a_cons (v_nm 2) (a_cons (v_nm 3) a_nil)))))))))
theorem c_tick (T : Fx P w K mg cl Dp fI) : Cal P w K mg base (L2N.CX P w) cl 6 "tick" 4 false f_tick := by
  obtain ⟨a, fd, F, m, b⟩ := T.g_tick.ex
  exact cal_ofX F m sc_tick b rfl fun _ _ _ _ _ _ hr => b_tick T hr
set_option maxHeartbeats 0 in
theorem b_run (T : Fx P w K mg cl Dp fI) {a : Addr} {cdv : Value} {A : Around} {outer : List Env} {s : Shared} {H : Hp} {E : XK} (hr : Room 5 (A.deeper (envOfC "run" (defScope st_run) s.heap.objs.size a cdv))) : PSs (cxOf (L2N.CX P w) P w K mg base N_run "run" (defScope st_run) a cdv A outer s H E) (defBody st_run) (sV w K (eX w K cl E) [] [] false m_run) :=
  (s_cons (O1 := []) (s_ex (v_fn (c_check_state T) hr (passX (L2N.takes_of rfl rfl rfl rfl)) wishX (a_cons (v_nm 0) (a_cons (v_nm 1) (a_cons (v_nm 2) a_nil))))) (s_cons (O1 := []) (s_if (w_cmp d_gt (v_cb c_len T.b_len (a_cons (v_nm 3) a_nil)) (v_kon T.k_MOST_MOVES)) (s_one (s_raise 0 T.xb (T.xt 0 (by decide)) hr rfl (L2N.takes_of rfl rfl rfl rfl) wishX (v_cb c_len T.b_len (a_cons (v_nm 3) a_nil)) T.m_TooMany T.b_super)) s_nil) (s_cons (O1 := []) (s_for (L2.passes_of rfl) rfl (i_ens T.b_enumerate (a_cons (v_nm 3) a_nil)) (g_tup rfl (gs_cons (g_nm 4 sc_run.nd) (gs_cons (g_nm 5 sc_run.nd) gs_nil))) (s_one (s_if (w_cmp (d_nin (hu65 hr)) (v_nm 5) (v_kon T.k_MOVES_ticks)) (s_one (s_raise 3 T.xb (T.xt 3 (by decide)) hr rfl (L2N.takes_of rfl rfl rfl rfl) wishX (v_nm 4) T.m_BadMove T.b_super)) s_nil))) (s_cons (O1 := [6]) (s_setO (O' := [6]) 6 sc_run.nd (o_lst a_nil)) (s_cons (O1 := [6]) (s_set (O' := [6]) 7 sc_run.nd (v_nm 2)) (s_cons (O1 := [6]) (s_for (L2.passes_of rfl) rfl (i_str (v_nm 3)) (g_nm 5 sc_run.nd) (s_cons (O1 := [6]) (s_tg (v_fn (c_tick_of T) hr passT wishT (a_cons (v_nm 0) (a_cons (v_nm 1) (a_cons (v_nm 7) (a_cons (v_nm 5) a_nil))))) (g_tup rfl (gs_cons (g_nm 7 sc_run.nd) (gs_cons (g_nm 8 sc_run.nd) gs_nil)))) (s_cons (O1 := [6]) (s_app 6 (v_tup (a_cons (v_ix d_ix (v_nm 7) v_int) (a_cons (v_own (o_ct c_list T.b_list (a_cons (v_ix d_ix (v_nm 7) v_int) a_nil))) a_nil)))) (s_one (s_if (w_val (v_nm 8)) (s_frz (O1 := []) (s_one (s_ret (v_tup (a_cons (v_nm 6) (a_cons v_bl a_nil)))))) s_nil))))) (s_frz (O1 := []) (s_one (s_ret (v_tup (a_cons (v_nm 6) (a_cons v_bl a_nil))))))))))))
theorem c_run (T : Fx P w K mg cl Dp fI) : Cal P w K mg base (L2N.CX P w) cl 6 "run" 4 false f_run := by
  obtain ⟨a, fd, F, m, b⟩ := T.g_run.ex
  exact cal_ofX F m sc_run b rfl fun _ _ _ _ _ _ hr => b_run T hr
set_option maxHeartbeats 0 in
theorem b_nexts_of (T : Fx P w K mg cl Dp fI) {a : Addr} {cdv : Value} {A : Around} {outer : List Env} {s : Shared} {H : Hp} {E : XK} (hr : Room 5 (A.deeper (envOfC "nexts_of" (defScope st_nexts_of) s.heap.objs.size a cdv))) : PSs (cxOf CX0 P w K mg base N_nexts_of "nexts_of" (defScope st_nexts_of) a cdv A outer s H E).nox (defBody st_nexts_of) (sV w K noE [] [] true m_nexts_of) :=
  (s_cons (O1 := [3]) (s_setO (O' := [3]) 3 sc_nexts_of.nd (o_lst a_nil)) (s_cons (O1 := [3]) (s_for PassesOwn.never rfl (i_str (v_kon T.k_MOVES_ticks)) (g_nm 4 sc_nexts_of.nd) (s_cons (O1 := [3]) (s_tg (v_fn (c_tick_of T) hr pass0 wish0 (a_cons (v_nm 0) (a_cons (v_nm 1) (a_cons (v_tup (a_cons (v_ix d_ix (v_nm 2) v_int) (a_cons (v_own (o_ct c_list T.b_list (a_cons (v_ix d_ix (v_nm 2) v_int) a_nil))) a_nil))) (a_cons (v_nm 4) a_nil))))) (g_tup rfl (gs_cons (g_nm 5 sc_nexts_of.nd) (gs_cons (g_nm 6 sc_nexts_of.nd) gs_nil)))) (s_one (s_if (w_not (w_val (v_nm 6))) (s_one (s_app 3 (v_tup (a_cons (v_nm 4) (a_cons (v_fn (c_key_of T) hr pass0 wish0 (a_cons (v_nm 5) a_nil)) a_nil))))) s_nil)))) (s_one (s_retS 3))))
theorem c_nexts_of (T : Fx P w K mg cl Dp fI) : Cal P w K mg base CX0 cl 6 "nexts_of" 3 true f_nexts_of := by
  obtain ⟨a, fd, F, m, b⟩ := T.g_nexts_of.ex
  exact cal_of F m sc_nexts_of b rfl fun _ _ _ _ _ _ hr => b_nexts_of T hr
set_option maxHeartbeats 0 in
theorem b_map_of (T : Fx P w K mg cl Dp fI) {a : Addr} {cdv : Value} {A : Around} {outer : List Env} {s : Shared} {H : Hp} {E : XK} (hr : Room 6 (A.deeper (envOfC "map_of" (defScope st_map_of) s.heap.objs.size a cdv))) : PSs (cxOf CX0 P w K mg base N_map_of "map_of" (defScope st_map_of) a cdv A outer s H E).nox (defBody st_map_of) (sV w K noE [] [] true m_map_of) :=
  (s_cons (O1 := [3]) (s_setO (O' := [3]) 3 sc_map_of.nd o_d0) (s_cons (O1 := [3]) (s_lcV (O' := [3]) 4 [("key", 6)] rfl sc_map_of.nd (i_lst (v_nm 2)) (blkOk_by (N := N_map_of) (sc := (defScope st_map_of)) (by decide +kernel)) (fun _ _ _ _ _ => (g_nm 6 sc_map_of.nd)) (fun _ _ _ _ _ => t_one (w_cmp (d_nin (hu65 hr)) (v_ix d_ix (v_nm 6) v_int) (v_ix d_ix (v_nm 6) v_int))) (fun _ _ _ _ _ => (v_nm 6))) (s_cons (O1 := [3]) (s_while FU PassesOwn.never (w_cmp d_gt (v_cb c_len T.b_len (a_cons (v_nm 4) a_nil)) v_int) (s_cons (O1 := [3, 5]) (s_setO (O' := [3, 5]) 5 sc_map_of.nd (o_lst a_nil)) (s_cons (O1 := [3, 5]) (s_for PassesOwn.never rfl (i_lst (v_nm 4)) (g_nm 6 sc_map_of.nd) (s_one (s_if (w_look (w_cmp (d_ninE (hu65 hr)) (v_nm 6) (v_nm 3))) (s_cons (O1 := [3, 5]) (s_dput 3 (hu65 hr) (v_nm 6) (v_own (o_fn (c_nexts_of T) hr pass0 wish0 (a_cons (v_nm 0) (a_cons (v_nm 1) (a_cons (v_nm 6) a_nil)))))) (s_one (s_ext 5 (v_own (o_lc [("_", 7), ("there", 8)] rfl sc_map_of.nd (i_lst (v_dgo 3 (hu65 hr) (v_nm 6))) (blkOk_by (N := N_map_of) (sc := (defScope st_map_of)) (by decide +kernel)) (fun _ _ _ _ _ => (g_tup rfl (gs_cons (g_nm 7 sc_map_of.nd) (gs_cons (g_nm 8 sc_map_of.nd) gs_nil)))) (fun _ _ _ _ _ => t_one (w_look (w_cmp (d_ninE (hu65 hr)) (v_nm 8) (v_nm 3)))) (fun _ _ _ _ _ => (v_nm 8))))))) s_nil))) (s_frz (O1 := [3]) (s_one (s_set (O' := [3]) 4 sc_map_of.nd (v_nm 5))))))) (s_one (s_retS 3)))))
theorem c_map_of (T : Fx P w K mg cl Dp fI) : Cal P w K mg base CX0 cl 7 "map_of" 3 true f_map_of := by
  obtain ⟨a, fd, F, m, b⟩ := T.g_map_of.ex
  exact cal_of F m sc_map_of b rfl fun _ _ _ _ _ _ hr => b_map_of T hr
set_option maxHeartbeats 0 in
theorem b_told_of (T : Fx P w K mg cl Dp fI) {a : Addr} {cdv : Value} {A : Around} {outer : List Env} {s : Shared} {H : Hp} {E : XK} (hr : Room 7 (A.deeper (envOfC "told_of" (defScope st_told_of) s.heap.objs.size a cdv))) : PSs (cxOf CX0 P w K mg base N_told_of "told_of" (defScope st_told_of) a cdv A outer s H E).nox (defBody st_told_of) (sV w K noE [] [] false m_told_of) :=
  (s_cons (O1 := []) (s_set (O' := []) 3 sc_told_of.nd (v_own (o_fn (c_map_of T) hr pass0 wish0 (a_cons (v_nm 0) (a_cons (v_nm 1) (a_cons (v_own (o_lst (a_cons (v_fn (c_key_of T) hr pass0 wish0 (a_cons (v_nm 2) a_nil)) a_nil))) a_nil)))))) (s_one (s_ret (v_tup (a_cons (v_nm 3) (a_cons (v_own (o_fn (c_lengths_of T) hr pass0 wish0 (a_cons (v_nm 3) a_nil))) a_nil))))))
theorem c_told_of (T : Fx P w K mg cl Dp fI) : Cal P w K mg base CX0 cl 8 "told_of" 3 false f_told_of := by
  obtain ⟨a, fd, F, m, b⟩ := T.g_told_of.ex
  exact cal_of F m sc_told_of b rfl fun _ _ _ _ _ _ hr => b_told_of T hr
set_option maxHeartbeats 0 in
theorem b_safe_cells (T : Fx P w K mg cl Dp fI) {a : Addr} {cdv : Value} {A : Around} {outer : List Env} {s : Shared} {H : Hp} {E : XK} (hr : Room 7 (A.deeper (envOfC "safe_cells" (defScope st_safe_cells) s.heap.objs.size a cdv))) : PSs (cxOf (L2N.CX P w) P w K mg base N_safe_cells "safe_cells" (defScope st_safe_cells) a cdv A outer s H E) (defBody st_safe_cells) (sV w K (eX w K cl E) [] [] true m_safe_cells) :=
  (s_cons (O1 := []) (s_ex (v_fn (c_check_rules T) hr (passX (L2N.takes_of rfl rfl rfl rfl)) wishX (a_cons (v_nm 0) (a_cons (v_nm 1) a_nil)))) (s_cons (O1 := []) (s_for (L2.passes_of rfl) rfl (i_en T.b_enumerate (a_cons (v_nm 2) a_nil)) (g_tup rfl (gs_cons (g_nm 3 sc_safe_cells.nd) (gs_cons (g_nm 4 sc_safe_cells.nd) gs_nil))) (s_one (s_if (w_not (w_val (v_fn (c_is_free T) hr passT wishT (a_cons (v_nm 0) (a_cons (v_nm 4) a_nil))))) (s_one (s_raise 5 T.xb (T.xt 5 (by decide)) hr rfl (L2N.takes_of rfl rfl rfl rfl) wishX (v_op d_add (v_nm 3) v_int) T.m_BadState T.b_super)) s_nil))) (s_cons (O1 := []) (s_if (w_cmp (d_ne (hu64 hr)) (v_cb c_len T.b_len (a_cons (v_nm 2) a_nil)) (v_cb c_len T.b_len (a_cons (v_nm 1) a_nil))) (s_one (s_raise 5 T.xb (T.xt 5 (by decide)) hr rfl (L2N.takes_of rfl rfl rfl rfl) wishX (v_cb c_len T.b_len (a_cons (v_nm 2) a_nil)) T.m_BadState T.b_super)) s_nil) (s_cons (O1 := []) (s_lcV (O' := []) 5 [("cell", 4)] rfl sc_safe_cells.nd (i_lst (v_own (o_fn (c_free_of T) hr passT wishT (a_cons (v_nm 0) a_nil)))) (blkOk_by (N := N_safe_cells) (sc := (defScope st_safe_cells)) (by decide +kernel)) (fun _ _ _ _ _ => (g_nm 4 sc_safe_cells.nd)) (fun _ _ _ _ _ => t_no) (fun _ _ _ _ _ => (v_fn (c_key_of T) hr passT wishT (a_cons (v_tup (a_cons (v_nm 4) (a_cons (v_nm 2) a_nil))) a_nil)))) (s_cons (O1 := []) (s_set (O' := []) 6 sc_safe_cells.nd (v_own (o_fn (c_map_of T) hr passT wishT (a_cons (v_nm 0) (a_cons (v_nm 1) (a_cons (v_nm 5) a_nil)))))) (s_cons (O1 := []) (s_set (O' := []) 7 sc_safe_cells.nd (v_own (o_fn (c_lengths_of T) hr passT wishT (a_cons (v_nm 6) a_nil)))) (s_one (s_retO (o_lc [("key", 8)] rfl sc_safe_cells.nd (i_lst (v_nm 5)) (blkOk_by (N := N_safe_cells) (sc := (defScope st_safe_cells)) (by decide +kernel)) (fun _ _ _ _ _ => (g_nm 8 sc_safe_cells.nd)) (fun _ _ _ _ _ => t_one (w_and (w_cmp (d_inE (hu65 hr)) (v_nm 8) (v_nm 6)) (w_and1 (w_cmp (d_ninE (hu65 hr)) (v_nm 8) (v_nm 7)))).pt) (fun _ _ _ _ _ => (v_ix d_ix (v_nm 8) v_int)))))))))))
theorem c_safe_cells (T : Fx P w K mg cl Dp fI) : Cal P w K mg base (L2N.CX P w) cl 8 "safe_cells" 3 true f_safe_cells := by
  obtain ⟨a, fd, F, m, b⟩ := T.g_safe_cells.ex
  exact cal_ofX F m sc_safe_cells b rfl fun _ _ _ _ _ _ hr => b_safe_cells T hr
set_option maxHeartbeats 0 in
theorem b_is_safe (T : Fx P w K mg cl Dp fI) {a : Addr} {cdv : Value} {A : Around} {outer : List Env} {s : Shared} {H : Hp} {E : XK} (hr : Room 8 (A.deeper (envOfC "is_safe" (defScope st_is_safe) s.heap.objs.size a cdv))) : PSs (cxOf (L2N.CX P w) P w K mg base N_is_safe "is_safe" (defScope st_is_safe) a cdv A outer s H E) (defBody st_is_safe) (sV w K (eX w K cl E) [] [] false m_is_safe) :=
  (s_cons (O1 := []) (s_ex (v_fn (c_check_state T) hr (passX (L2N.takes_of rfl rfl rfl rfl)) wishX (a_cons (v_nm 0) (a_cons (v_nm 1) (a_cons (v_nm 2) a_nil))))) (s_cons (O1 := []) (s_tg (v_fn (c_told_of T) hr passT wishT (a_cons (v_nm 0) (a_cons (v_nm 1) (a_cons (v_nm 2) a_nil)))) (g_tup rfl (gs_cons (g_nm 3 sc_is_safe.nd) (gs_cons (g_nm 4 sc_is_safe.nd) gs_nil)))) (s_one (s_ret (v_and (v_cmp (d_inE (hu65 hr)) (v_fn (c_key_of T) hr passT wishT (a_cons (v_nm 2) a_nil)) (v_nm 3)) (v_one (v_cmp (d_ninE (hu65 hr)) (v_fn (c_key_of T) hr passT wishT (a_cons (v_nm 2) a_nil)) (v_nm 4))))))))
theorem c_is_safe (T : Fx P w K mg cl Dp fI) : Cal P w K mg base (L2N.CX P w) cl 9 "is_safe" 3 false f_is_safe := by
  obtain ⟨a, fd, F, m, b⟩ := T.g_is_safe.ex
  exact cal_ofX F m sc_is_safe b rfl fun _ _ _ _ _ _ hr => b_is_safe T hr
set_option maxHeartbeats 0 in
theorem b_safe_move (T : Fx P w K mg cl Dp fI) {a : Addr} {cdv : Value} {A : Around} {outer : List Env} {s : Shared} {H : Hp} {E : XK} (hr : Room 8 (A.deeper (envOfC "safe_move" (defScope st_safe_move) s.heap.objs.size a cdv))) : PSs (cxOf (L2N.CX P w) P w K mg base N_safe_move "safe_move" (defScope st_safe_move) a cdv A outer s H E) (defBody st_safe_move) (sV w K (eX w K cl E) [] [] false m_safe_move) :=
  (s_cons (O1 := []) (s_ex (v_fn (c_check_state T) hr (passX (L2N.takes_of rfl rfl rfl rfl)) wishX (a_cons (v_nm 0) (a_cons (v_nm 1) (a_cons (v_nm 2) a_nil))))) (s_cons (O1 := []) (s_tg (v_fn (c_told_of T) hr passT wishT (a_cons (v_nm 0) (a_cons (v_nm 1) (a_cons (v_nm 2) a_nil)))) (g_tup rfl (gs_cons (g_nm 3 sc_safe_move.nd) (gs_cons (g_nm 4 sc_safe_move.nd) gs_nil)))) (s_cons (O1 := []) (s_lcV (O' := []) 5 [("move", 6), ("there", 7)] rfl sc_safe_move.nd (i_lst (v_get2 (hu65 hr) (v_nm 3) (v_fn (c_key_of T) hr passT wishT (a_cons (v_nm 2) a_nil)) (v_own (o_lst a_nil)))) (blkOk_by (N := N_safe_move) (sc := (defScope st_safe_move)) (by decide +kernel)) (fun _ _ _ _ _ => (g_tup rfl (gs_cons (g_nm 6 sc_safe_move.nd) (gs_cons (g_nm 7 sc_safe_move.nd) gs_nil)))) (fun _ _ _ _ _ => t_one (w_cmp (d_ninE (hu65 hr)) (v_nm 7) (v_nm 4))) (fun _ _ _ _ _ => (v_nm 6))) (s_one (s_ret (v_if (w_cmp d_gt (v_cb c_len T.b_len (a_cons (v_nm 5) a_nil)) v_int) (v_ix d_ix (v_nm 5) v_int) v_non))))))
theorem c_safe_move (T : Fx P w K mg cl Dp fI) : Cal P w K mg base (L2N.CX P w) cl 9 "safe_move" 3 false f_safe_move := by
  obtain ⟨a, fd, F, m, b⟩ := T.g_safe_move.ex
  exact cal_ofX F m sc_safe_move b rfl fun _ _ _ _ _ _ hr => b_safe_move T hr
set_option maxHeartbeats 0 in
theorem b_longest (T : Fx P w K mg cl Dp fI) {a : Addr} {cdv : Value} {A : Around} {outer : List Env} {s : Shared} {H : Hp} {E : XK} (hr : Room 8 (A.deeper (envOfC "longest" (defScope st_longest) s.heap.objs.size a cdv))) : PSs (cxOf (L2N.CX P w) P w K mg base N_longest "longest" (defScope st_longest) a cdv A outer s H E) (defBody st_longest) (sV w K (eX w K cl E) [] [] false m_longest) :=
  (s_cons (O1 := []) (s_ex (v_fn (c_check_state T) hr (passX (L2N.takes_of rfl rfl rfl rfl)) wishX (a_cons (v_nm 0) (a_cons (v_nm 1) (a_cons (v_nm 2) a_nil))))) (s_cons (O1 := []) (s_tg (v_fn (c_told_of T) hr passT wishT (a_cons (v_nm 0) (a_cons (v_nm 1) (a_cons (v_nm 2) a_nil)))) (g_tup rfl (gs_cons (g_nm 3 sc_longest.nd) (gs_cons (g_nm 4 sc_longest.nd) gs_nil)))) (s_cons (O1 := []) (s_if (w_cmp (d_ninE (hu65 hr)) (v_fn (c_key_of T) hr passT wishT (a_cons (v_nm 2) a_nil)) (v_nm 3)) (s_one (s_ret v_int)) s_nil) (s_one (s_ret (v_get1 (hu65 hr) (v_nm 4) (v_fn (c_key_of T) hr passT wishT (a_cons (v_nm 2) a_nil))))))))
theorem c_longest (T : Fx P w K mg cl Dp fI) : Cal P w K mg base (L2N.CX P w) cl 9 "longest" 3 false f_longest := by
  obtain ⟨a, fd, F, m, b⟩ := T.g_longest.ex
  exact cal_ofX F m sc_longest b rfl fun _ _ _ _ _ _ hr => b_longest T hr
set_option maxHeartbeats 0 in
theorem b__law_of (T : Fx P w K mg cl Dp fI) {a : Addr} {cdv : Value} {A : Around} {outer : List Env} {s : Shared} {H : Hp} {E : XK} (hr : Room 9 (A.deeper (envOfC "_law_of" (defScope st__law_of) s.heap.objs.size a cdv))) : PSs (cxOf CX0 P w K mg base N__law_of "_law_of" (defScope st__law_of) a cdv A outer s H E).nox (defBody st__law_of) (sV w K noE [] [] false m__law_of) :=
  (s_cons (O1 := []) (s_tryN 5 6 (ce__law_name T) hr n__law_name (fun k lt => (T.xt k lt).te) T.m_PlayError (fun W pn xe tk hpo => (s_one (s_if (w_cmp (d_eq (hu64 hr)) (v_nm 0) v_int) (s_one (s_ex (v_fnT (c_steps_to T) hr tk (a_cons (v_nm 1) (a_cons (v_ix d_ix (v_nm 3) v_int) (a_cons (v_tup (a_cons v_int (a_cons v_int a_nil))) a_nil)))))) (s_one (s_if (w_cmp d_lt (v_nm 0) v_int) (s_one (s_ex (v_sel (.cons (c_tick T) (.cons (c_run T) .nil)) hr tk (v_op d_sub (v_nm 0) v_int) (a_cons (v_nm 1) (a_cons (v_nm 2) (a_cons (v_nm 3) (a_cons (v_nm 4) a_nil)))) (by decide) (by exact fun _ _ => rfl)))) (s_one (s_if (w_cmp d_lt (v_nm 0) v_int) (s_one (s_ex (v_sel (.cons (c_is_safe T) (.cons (c_safe_move T) (.cons (c_longest T) .nil))) hr tk (v_op d_sub (v_nm 0) v_int) (a_cons (v_nm 1) (a_cons (v_nm 2) (a_cons (v_nm 3) a_nil))) (by decide) (by exact fun _ _ => rfl)))) (s_one (s_ex (v_fnT (c_safe_cells T) hr tk (a_cons (v_nm 1) (a_cons (v_nm 2) (a_cons (v_ix d_ix (v_nm 3) v_int) a_nil))))))))))))) sc__law_of.nd) (s_one (s_ret v_non)))
theorem c__law_of (T : Fx P w K mg cl Dp fI) : Cal P w K mg base CX0 cl 10 "_law_of" 5 false f__law_of := by
  obtain ⟨a, fd, F, m, b⟩ := T.g__law_of.ex
  exact cal_of F m sc__law_of b rfl fun _ _ _ _ _ _ hr => b__law_of T hr
set_option maxHeartbeats 0 in
theorem b_law (T : Fx P w K mg cl Dp fI) {a : Addr} {cdv : Value} {s : Shared} {H : Hp} {E : XK} (hr : Room 10 (callerA.deeper (envOfC "law" (defScope st_law) s.heap.objs.size a cdv))) : PSs (cxOf CX0 P w K mg base N_law "law" (defScope st_law) a cdv callerA [] s H E).nox (defBody st_law) (sV w K noE [] [] false m_law) :=
  (s_cons (O1 := []) (s_set (O' := []) 1 sc_law.nd (v_own (o_fn (c__law_draws T) hr pass0 wish0 (a_cons (v_nm 0) a_nil)))) (s_cons (O1 := []) (s_set (O' := []) 2 sc_law.nd (v_own (o_lst (a_cons (v_tup (a_cons (v_own (o_lst (a_cons (v_stx [46, 46]) a_nil))) (a_cons v_non a_nil))) (a_cons (v_tup (a_cons (v_own (o_lst (a_cons (v_stx [46, 46]) (a_cons (v_stx [46, 35]) a_nil)))) (a_cons v_non a_nil))) (a_cons (v_tup (a_cons (v_own (o_lst (a_cons (v_stx [46, 46, 46, 46, 46]) (a_cons (v_stx [35, 46, 35, 35, 35]) a_nil)))) (a_cons v_non a_nil))) (a_cons (v_tup (a_cons (v_own (o_lst a_nil)) (a_cons (v_tup (a_cons (v_stx [115, 105, 122, 101]) (a_cons v_int a_nil))) a_nil))) (a_cons (v_tup (a_cons (v_own (o_lst (a_cons (v_stx [46, 46]) (a_cons (v_stx [46]) a_nil)))) (a_cons (v_tup (a_cons (v_stx [114, 111, 119]) (a_cons v_int a_nil))) a_nil))) (a_cons (v_tup (a_cons (v_own (o_lst (a_cons (v_stx [120, 46]) a_nil))) (a_cons (v_tup (a_cons (v_stx [114, 111, 119]) (a_cons v_int a_nil))) a_nil))) (a_cons (v_tup (a_cons (v_op d_mulE (v_own (o_lst (a_cons (v_stx [46, 46, 46, 46, 46, 46]) a_nil))) v_int) (a_cons (v_tup (a_cons (v_stx [109, 97, 110, 121]) (a_cons v_int a_nil))) a_nil))) a_nil)))))))))) (s_cons (O1 := []) (s_for PassesOwn.never rfl (i_rg1 T.b_range (a_cons v_int a_nil)) (g_nm 3 sc_law.nd) (s_cons (O1 := []) (s_set (O' := []) 4 sc_law.nd (v_op d_add v_int (v_op d_mul v_int (v_nm 3)))) (s_cons (O1 := []) (s_tg (v_ix d_ix (v_nm 2) (v_fn (c__law_mix T) hr pass0 wish0 (a_cons (v_nm 1) (a_cons (v_nm 4) (a_cons (v_ix d_ix (v_own (o_lst (a_cons v_int (a_cons v_int a_nil)))) (v_fn (c__law_mix T) hr pass0 wish0 (a_cons (v_nm 1) (a_cons (v_op d_add (v_nm 4) v_int) (a_cons v_int a_nil))))) a_nil))))) (g_tup rfl (gs_cons (g_nm 5 sc_law.nd) (gs_cons (g_nm 6 sc_law.nd) gs_nil)))) (s_cons (O1 := []) (s_set (O' := []) 7 sc_law.nd (v_ix d_ix (v_own (o_lst (a_cons (v_own (o_lst (a_cons (v_stx [110, 101, 97, 114]) a_nil))) (a_cons (v_own (o_lst (a_cons (v_stx [114, 111, 119]) (a_cons (v_stx [119, 97, 105, 116]) a_nil)))) (a_cons (v_own (o_lst a_nil)) (a_cons (v_op d_mulE (v_own (o_lst (a_cons (v_stx [110, 101, 97, 114]) a_nil))) v_int) (a_cons (v_own (o_lst (a_cons (v_stx [119, 97, 105, 116]) (a_cons (v_stx [78, 101, 97, 114]) a_nil)))) (a_cons (v_own (o_lst (a_cons (v_stx []) a_nil))) a_nil)))))))) (v_fn (c__law_mix T) hr pass0 wish0 (a_cons (v_nm 1) (a_cons (v_op d_add (v_nm 4) v_int) (a_cons (v_ix d_ix (v_own (o_lst (a_cons v_int (a_cons v_int a_nil)))) (v_fn (c__law_mix T) hr pass0 wish0 (a_cons (v_nm 1) (a_cons (v_op d_add (v_nm 4) v_int) (a_cons v_int a_nil))))) a_nil)))))) (s_cons (O1 := []) (s_set (O' := []) 8 sc_law.nd (v_ix d_ix (v_own (o_lst (a_cons (v_tup (a_cons (v_tup (a_cons v_int (a_cons v_int a_nil))) (a_cons (v_own (o_lst (a_cons (v_tup (a_cons v_int (a_cons v_int a_nil))) a_nil))) a_nil))) (a_cons (v_tup (a_cons (v_tup (a_cons v_int (a_cons v_int a_nil))) (a_cons (v_own (o_lst (a_cons (v_tup (a_cons v_int (a_cons v_int a_nil))) (a_cons (v_tup (a_cons v_int (a_cons v_int a_nil))) a_nil)))) a_nil))) (a_cons (v_tup (a_cons (v_tup (a_cons v_int (a_cons v_int a_nil))) (a_cons (v_own (o_lst a_nil)) a_nil))) (a_cons (v_tup (a_cons (v_tup (a_cons v_int (a_cons v_int a_nil))) (a_cons (v_own (o_lst (a_cons (v_tup (a_cons v_int (a_cons v_int a_nil))) a_nil))) a_nil))) (a_cons (v_tup (a_cons (v_tup (a_cons v_int (a_cons v_int a_nil))) (a_cons (v_own (o_lst (a_cons (v_tup (a_cons v_int (a_cons v_int a_nil))) (a_cons (v_tup (a_cons v_negc (a_cons v_int a_nil))) a_nil)))) a_nil))) (a_cons (v_tup (a_cons (v_tup (a_cons v_int (a_cons v_int a_nil))) (a_cons (v_own (o_lst a_nil)) a_nil))) a_nil)))))))) (v_fn (c__law_mix T) hr pass0 wish0 (a_cons (v_nm 1) (a_cons (v_op d_add (v_nm 4) v_int) (a_cons v_int a_nil)))))) (s_cons (O1 := []) (s_set (O' := []) 9 sc_law.nd (v_ix d_ix (v_own (o_lst (a_cons (v_stx [117]) (a_cons (v_stx [115]) (a_cons (v_stx []) (a_cons (v_stx [117, 100]) (a_cons (v_stx [113]) (a_cons (v_stx [115, 120]) (a_cons (v_op d_mul (v_stx [115]) v_int) a_nil))))))))) (v_fn (c__law_mix T) hr pass0 wish0 (a_cons (v_nm 1) (a_cons (v_op d_add (v_nm 4) v_int) (a_cons v_int a_nil)))))) (s_cons (O1 := []) (s_set (O' := []) 10 sc_law.nd (v_cb (c_repr rfl (hu65 hr)) T.b_repr (a_cons (v_tup (a_cons (v_nm 7) (a_cons (v_nm 8) a_nil))) a_nil))) (s_cons (O1 := []) (s_set (O' := []) 11 sc_law.nd (v_op d_add (v_own (o_lst (a_cons (v_ix d_ix (v_nm 8) v_int) a_nil))) (v_ix d_ix (v_nm 8) v_int))) (s_cons (O1 := []) (s_set (O' := []) 12 sc_law.nd (v_own (o_lst a_nil))) (s_cons (O1 := []) (s_for PassesOwn.never rfl (i_rg1 T.b_range (a_cons (v_cb c_len T.b_len (a_cons (v_nm 5) a_nil)) a_nil)) (g_nm 13 sc_law.nd) (s_one (s_set (O' := []) 12 sc_law.nd (v_op d_add (v_nm 12) (v_own (o_lc [("place", 25)] rfl sc_law.nd (i_rg1 T.b_range (a_cons (v_cb c_len T.b_len (a_cons (v_ix d_ix (v_nm 5) (v_nm 13)) a_nil)) a_nil)) (blkOk_by (N := N_law) (sc := (defScope st_law)) (by decide +kernel)) (fun _ _ _ _ _ => (g_nm 25 sc_law.nd)) (fun _ _ _ _ _ => t_one (w_cmp (d_eq (hu64 hr)) (v_ix d_ix (v_ix d_ix (v_nm 5) (v_nm 13)) (v_nm 25)) (v_stx [46]))) (fun _ _ _ _ _ => (v_tup (a_cons (v_nm 13) (a_cons (v_nm 25) a_nil)))))))))) (s_cons (O1 := []) (s_lcV (O' := []) 14 [("k", 24)] rfl sc_law.nd (i_rg1 T.b_range (a_cons (v_cb c_len T.b_len (a_cons (v_nm 11) a_nil)) a_nil)) (blkOk_by (N := N_law) (sc := (defScope st_law)) (by decide +kernel)) (fun _ _ _ _ _ => (g_nm 24 sc_law.nd)) (fun _ _ _ _ _ => t_one (w_cmp (d_nin (hu65 hr)) (v_ix d_ix (v_nm 11) (v_nm 24)) (v_nm 12))) (fun _ _ _ _ _ => (v_nm 24))) (s_cons (O1 := []) (s_set (O' := []) 15 sc_law.nd (v_orT (v_nm 6) (v_one (v_ix d_ix (v_own (o_lst (a_cons v_non (a_cons (v_tup (a_cons (v_stx [115, 116, 97, 116, 101]) (a_cons v_int a_nil))) a_nil)))) (v_ct c_int T.b_int (a_cons (v_cmp (d_nin (hu65 hr)) (v_ix d_ix (v_nm 8) v_int) (v_nm 12)) a_nil)))))) (s_cons (O1 := []) (s_lcV (O' := []) 16 [("k", 24)] rfl sc_law.nd (i_rg1 T.b_range (a_cons (v_cb c_len T.b_len (a_cons (v_nm 7) a_nil)) a_nil)) (blkOk_by (N := N_law) (sc := (defScope st_law)) (by decide +kernel)) (fun _ _ _ _ _ => (g_nm 24 sc_law.nd)) (fun _ _ _ _ _ => t_one (w_cmp (d_nin (hu65 hr)) (v_ix d_ix (v_nm 7) (v_nm 24)) (v_own (o_lst (a_cons (v_stx [110, 101, 97, 114]) (a_cons (v_stx [114, 111, 119]) (a_cons (v_stx [119, 97, 105, 116]) a_nil))))))) (fun _ _ _ _ _ => (v_nm 24))) (s_cons (O1 := []) (s_set (O' := []) 17 sc_law.nd (v_orT (v_nm 6) (v_orT (v_ix d_ix (v_own (o_lst (a_cons (v_tup (a_cons (v_stx [115, 105, 122, 101]) (a_cons (v_cb c_len T.b_len (a_cons (v_nm 7) a_nil)) a_nil))) (a_cons v_non a_nil)))) (v_ct c_int T.b_int (a_cons (v_ch op_le op_le v_int (v_cb c_len T.b_len (a_cons (v_nm 7) a_nil)) v_int) a_nil))) (v_one (v_ix d_ix (v_own (o_lst (a_cons v_non (a_cons (v_tup (a_cons (v_stx [114, 117, 108, 101]) (a_cons (v_ix d_ix (v_op d_add (v_nm 16) (v_own (o_lst (a_cons v_int a_nil)))) v_int) a_nil))) a_nil)))) (v_ct c_int T.b_int (a_cons (v_cmp (d_ne (hu64 hr)) (v_nm 16) (v_own (o_lst a_nil))) a_nil))))))) (s_cons (O1 := []) (s_set (O' := []) 18 sc_law.nd (v_orT (v_nm 17) (v_orT (v_ix d_ix (v_own (o_lst (a_cons v_non (a_cons (v_tup (a_cons (v_stx [115, 116, 97, 116, 101]) (a_cons (v_ix d_ix (v_op d_add (v_nm 14) (v_own (o_lst (a_cons v_int a_nil)))) v_int) a_nil))) a_nil)))) (v_ct c_int T.b_int (a_cons (v_cmp (d_ne (hu64 hr)) (v_nm 14) (v_own (o_lst a_nil))) a_nil))) (v_one (v_ix d_ix (v_own (o_lst (a_cons (v_tup (a_cons (v_stx [115, 116, 97, 116, 101]) (a_cons (v_cb c_len T.b_len (a_cons (v_ix d_ix (v_nm 8) v_int) a_nil)) a_nil))) (a_cons v_non a_nil)))) (v_ct c_int T.b_int (a_cons (v_cmp (d_eq (hu64 hr)) (v_cb c_len T.b_len (a_cons (v_ix d_ix (v_nm 8) v_int) a_nil)) (v_cb c_len T.b_len (a_cons (v_nm 7) a_nil))) a_nil))))))) (s_cons (O1 := []) (s_lcV (O' := []) 19 [("k", 24)] rfl sc_law.nd (i_lst (v_nm 14)) (blkOk_by (N := N_law) (sc := (defScope st_law)) (by decide +kernel)) (fun _ _ _ _ _ => (g_nm 24 sc_law.nd)) (fun _ _ _ _ _ => t_one (w_cmp d_gt (v_nm 24) v_int)) (fun _ _ _ _ _ => (v_nm 24))) (s_cons (O1 := []) (s_set (O' := []) 20 sc_law.nd (v_orT (v_nm 17) (v_orT (v_ix d_ix (v_own (o_lst (a_cons v_non (a_cons (v_tup (a_cons (v_stx [115, 116, 97, 116, 101]) (a_cons (v_ix d_ix (v_op d_add (v_nm 19) (v_own (o_lst (a_cons v_int a_nil)))) v_int) a_nil))) a_nil)))) (v_ct c_int T.b_int (a_cons (v_cmp (d_ne (hu64 hr)) (v_nm 19) (v_own (o_lst a_nil))) a_nil))) (v_one (v_ix d_ix (v_own (o_lst (a_cons (v_tup (a_cons (v_stx [115, 116, 97, 116, 101]) (a_cons (v_cb c_len T.b_len (a_cons (v_ix d_ix (v_nm 8) v_int) a_nil)) a_nil))) (a_cons v_non a_nil)))) (v_ct c_int T.b_int (a_cons (v_cmp (d_eq (hu64 hr)) (v_cb c_len T.b_len (a_cons (v_ix d_ix (v_nm 8) v_int) a_nil)) (v_cb c_len T.b_len (a_cons (v_nm 7) a_nil))) a_nil))))))) (s_cons (O1 := []) (s_set (O' := []) 21 sc_law.nd (v_orT (v_nm 18) (v_one (v_ix d_ix (v_own (o_lst (a_cons (v_tup (a_cons (v_stx [109, 111, 118, 101]) (a_cons v_int a_nil))) (a_cons v_non a_nil)))) (v_ct c_int T.b_int (a_cons (v_cmp (d_in (hu65 hr)) (v_nm 9) (v_own (o_lst (a_cons (v_stx [117]) (a_cons (v_stx [115]) a_nil))))) a_nil)))))) (s_cons (O1 := []) (s_lcV (O' := []) 22 [("k", 24)] rfl sc_law.nd (i_rg1 T.b_range (a_cons (v_cb c_len T.b_len (a_cons (v_nm 9) a_nil)) a_nil)) (blkOk_by (N := N_law) (sc := (defScope st_law)) (by decide +kernel)) (fun _ _ _ _ _ => (g_nm 24 sc_law.nd)) (fun _ _ _ _ _ => t_one (w_cmp (d_nin (hu65 hr)) (v_ix d_ix (v_nm 9) (v_nm 24)) (v_stx [100, 108, 114, 115, 117]))) (fun _ _ _ _ _ => (v_nm 24))) (s_cons (O1 := []) (s_set (O' := []) 23 sc_law.nd (v_orT (v_nm 18) (v_orT (v_ix d_ix (v_own (o_lst (a_cons v_non (a_cons (v_tup (a_cons (v_stx [109, 97, 110, 121]) (a_cons (v_cb c_len T.b_len (a_cons (v_nm 9) a_nil)) a_nil))) a_nil)))) (v_ct c_int T.b_int (a_cons (v_cmp d_gt (v_cb c_len T.b_len (a_cons (v_nm 9) a_nil)) v_int) a_nil))) (v_one (v_ix d_ix (v_own (o_lst (a_cons v_non (a_cons (v_tup (a_cons (v_stx [109, 111, 118, 101]) (a_cons (v_ix d_ix (v_op d_add (v_nm 22) (v_own (o_lst (a_cons v_int a_nil)))) v_int) a_nil))) a_nil)))) (v_ct c_int T.b_int (a_cons (v_cmp (d_ne (hu64 hr)) (v_nm 22) (v_own (o_lst a_nil))) a_nil))))))) (s_one (s_if (w_or (w_cmp (d_ne (hu64 hr)) (v_own (o_lc [("which", 26)] rfl sc_law.nd (i_rg1 T.b_range (a_cons v_int a_nil)) (blkOk_by (N := N_law) (sc := (defScope st_law)) (by decide +kernel)) (fun _ _ _ _ _ => (g_nm 26 sc_law.nd)) (fun _ _ _ _ _ => t_no) (fun _ _ _ _ _ => (v_fn (c__law_of T) hr pass0 wish0 (a_cons (v_nm 26) (a_cons (v_nm 5) (a_cons (v_nm 7) (a_cons (v_nm 8) (a_cons (v_nm 9) a_nil))))))))) (v_own (o_lst (a_cons (v_nm 15) (a_cons (v_nm 21) (a_cons (v_nm 23) (a_cons (v_nm 18) (a_cons (v_nm 18) (a_cons (v_nm 18) (a_cons (v_nm 20) a_nil)))))))))) (w_or1 (w_cmp (d_ne (hu64 hr)) (v_cb (c_repr rfl (hu65 hr)) T.b_repr (a_cons (v_tup (a_cons (v_nm 7) (a_cons (v_nm 8) a_nil))) a_nil)) (v_nm 10)))).pt (s_one (s_ret v_bl)) s_nil)))))))))))))))))))))) (s_one (s_ret v_bl)))))
theorem o_law (T : Fx P w K mg cl Dp fI) {a : Addr} {fd : FuncData} (F : Fun K "law" "law" st_law a fd) (hb : ∀ (s : Shared) (u : Value), BindsTo s fd ⟨[u], []⟩ [("script", u)]) : TopOk P w K mg base a fd "script" f_law :=
  top_of (k := 10) F sc_law ⟨rfl, by decide, by decide⟩ hb fun _ _ _ _ hr => b_law T hr
end
end Gk51

set_option Elab.async false
set_option linter.all false
set_option maxRecDepth 100000

namespace Gk51
open PySem PySem.Spec PyProof.Rows L2 Vs Vt
open En (en)

abbrev E := Option (Tx × Int)
abbrev St := (Int × Int) × List (Int × Int)
def pl0 : List Tx × E := ([[46, 46]], none)
def pl1 : List Tx × E := ([[46, 46], [46, 35]], none)
def pl2 : List Tx × E := ([[46, 46, 46, 46, 46], [35, 46, 35, 35, 35]], none)
def pl3 : List Tx × E := ([], some ([115, 105, 122, 101], 0))
def pl4 : List Tx × E := ([[46, 46], [46]], some ([114, 111, 119], 1))
def pl5 : List Tx × E := ([[120, 46]], some ([114, 111, 119], 0))
def pl6 : List Tx × E := ([[46, 46, 46, 46, 46, 46], [46, 46, 46, 46, 46, 46], [46, 46, 46, 46, 46, 46]], some ([109, 97, 110, 121], 18))
def PL : List (List Tx × E) := [pl0, pl1, pl2, pl3, pl4, pl5, pl6]
def RU : List (List Tx) := [[[110, 101, 97, 114]], [[114, 111, 119], [119, 97, 105, 116]], [], [[110, 101, 97, 114], [110, 101, 97, 114], [110, 101, 97, 114]], [[119, 97, 105, 116], [78, 101, 97, 114]], [[]]]
def ST : List St := [((0, 0), [(0, 1)]), ((0, 1), [(0, 0), (0, 1)]), ((9, 9), []), ((0, 0), [(1, 1)]), ((0, 0), [(0, 1), (-1, 0)]), ((0, 0), [])]
def s101 : Tx := [115, 115, 115, 115, 115, 115, 115, 115, 115, 115, 115, 115, 115, 115, 115, 115, 115, 115, 115, 115, 115, 115, 115, 115, 115, 115, 115, 115, 115, 115, 115, 115, 115, 115, 115, 115, 115, 115, 115, 115, 115, 115, 115, 115, 115, 115, 115, 115, 115, 115, 115, 115, 115, 115, 115, 115, 115, 115, 115, 115, 115, 115, 115, 115, 115, 115, 115, 115, 115, 115, 115, 115, 115, 115, 115, 115, 115, 115, 115, 115, 115, 115, 115, 115, 115, 115, 115, 115, 115, 115, 115, 115, 115, 115, 115, 115, 115, 115, 115, 115, 115]
def MV : List Tx := [[117], [115], [], [117, 100], [113], [115, 120], s101]
def spc (v_8 : List Tx × E) (v_14 : List Tx) (v_16 : St) (v_20 : Tx) : R (E × E × E × E × E) := addL ([v_16.1] : (List (Int × Int))) v_16.2 >>= fun l_22 => .ok (([] : (List (Int × Int))) : (List (Int × Int))) >>= fun free__23 => rgR1 (v_8.1.length : Int) >>= fun l_24 => forS (fun (x : Int) (s : (List (Int × Int))) => p_law_b1 v_8.1 s x) l_24 free__23 >>= fun s_35 => rgR1 (l_22.length : Int) >>= fun l_37 => filG (fun (a_38 : Int) => atR l_22 a_38 >>= fun v_39 => .ok (!hasT s_35 v_39)) (fun (a_38 : Int) => .ok a_38) l_37 >>= fun l_40 => (if v_8.2.isSome then .ok v_8.2 else atR ([(none : (Option (Tx × Int))), (some (([115, 116, 97, 116, 101] : Tx), (0 : Int)))] : (List (Option (Tx × Int)))) (if (!hasT s_35 v_16.1) then (1 : Int) else 0) >>= fun v_42 => .ok v_42) >>= fun o_43 => rgR1 (v_14.length : Int) >>= fun l_44 => filG (fun (a_45 : Int) => atR v_14 a_45 >>= fun v_46 => .ok (!hasT ([([110, 101, 97, 114] : Tx), ([114, 111, 119] : Tx), ([119, 97, 105, 116] : Tx)] : (List Tx)) v_46)) (fun (a_45 : Int) => .ok a_45) l_44 >>= fun l_47 => (if v_8.2.isSome then .ok v_8.2 else atR ([(some (([115, 105, 122, 101] : Tx), (v_14.length : Int))), (none : (Option (Tx × Int)))] : (List (Option (Tx × Int)))) (if (decide ((1 : Int) ≤ (v_14.length : Int)) && decide ((v_14.length : Int) ≤ (2 : Int))) then (1 : Int) else 0) >>= fun v_54 => (if v_54.isSome then .ok v_54 else addL l_47 ([(0 : Int)] : (List Int)) >>= fun l_57 => atR l_57 (0 : Int) >>= fun v_58 => atR ([(none : (Option (Tx × Int))), (some (([114, 117, 108, 101] : Tx), v_58))] : (List (Option (Tx × Int)))) (if (!decide (l_47 = ([] : (List Int)))) then (1 : Int) else 0) >>= fun v_59 => .ok v_59) >>= fun o_60 => .ok o_60) >>= fun o_61 => (if o_61.isSome then .ok o_61 else addL l_40 ([(0 : Int)] : (List Int)) >>= fun l_70 => atR l_70 (0 : Int) >>= fun v_71 => atR ([(none : (Option (Tx × Int))), (some (([115, 116, 97, 116, 101] : Tx), v_71))] : (List (Option (Tx × Int)))) (if (!decide (l_40 = ([] : (List Int)))) then (1 : Int) else 0) >>= fun v_72 => (if v_72.isSome then .ok v_72 else atR ([(some (([115, 116, 97, 116, 101] : Tx), (v_16.2.length : Int))), (none : (Option (Tx × Int)))] : (List (Option (Tx × Int)))) (if decide ((v_16.2.length : Int) = (v_14.length : Int)) then (1 : Int) else 0) >>= fun v_73 => .ok v_73) >>= fun o_74 => .ok o_74) >>= fun o_75 => filG (fun (a_76 : Int) => .ok (decide ((0 : Int) < a_76))) (fun (a_76 : Int) => .ok a_76) l_40 >>= fun l_77 => (if o_61.isSome then .ok o_61 else addL l_77 ([(0 : Int)] : (List Int)) >>= fun l_86 => atR l_86 (0 : Int) >>= fun v_87 => atR ([(none : (Option (Tx × Int))), (some (([115, 116, 97, 116, 101] : Tx), v_87))] : (List (Option (Tx × Int)))) (if (!decide (l_77 = ([] : (List Int)))) then (1 : Int) else 0) >>= fun v_88 => (if v_88.isSome then .ok v_88 else atR ([(some (([115, 116, 97, 116, 101] : Tx), (v_16.2.length : Int))), (none : (Option (Tx × Int)))] : (List (Option (Tx × Int)))) (if decide ((v_16.2.length : Int) = (v_14.length : Int)) then (1 : Int) else 0) >>= fun v_89 => .ok v_89) >>= fun o_90 => .ok o_90) >>= fun o_91 => (if o_75.isSome then .ok o_75 else atR ([(some (([109, 111, 118, 101] : Tx), (0 : Int))), (none : (Option (Tx × Int)))] : (List (Option (Tx × Int)))) (if (hasT ([([117] : Tx), ([115] : Tx)] : (List Tx)) v_20) then (1 : Int) else 0) >>= fun v_93 => .ok v_93) >>= fun o_94 => lenS v_20 >>= fun n_95 => rgR1 n_95 >>= fun l_96 => filG (fun (a_97 : Int) => atS v_20 a_97 >>= fun v_98 => .ok (!inS v_98 ([100, 108, 114, 115, 117] : Tx))) (fun (a_97 : Int) => .ok a_97) l_96 >>= fun l_99 => (if o_75.isSome then .ok o_75 else lenS v_20 >>= fun n_111 => lenS v_20 >>= fun n_113 => atR ([(none : (Option (Tx × Int))), (some (([109, 97, 110, 121] : Tx), n_111))] : (List (Option (Tx × Int)))) (if decide ((100 : Int) < n_113) then (1 : Int) else 0) >>= fun v_114 => (if v_114.isSome then .ok v_114 else addL l_99 ([(0 : Int)] : (List Int)) >>= fun l_117 => atR l_117 (0 : Int) >>= fun v_118 => atR ([(none : (Option (Tx × Int))), (some (([109, 111, 118, 101] : Tx), v_118))] : (List (Option (Tx × Int)))) (if (!decide (l_99 = ([] : (List Int)))) then (1 : Int) else 0) >>= fun v_119 => .ok v_119) >>= fun o_120 => .ok o_120) >>= fun o_121 => .ok (o_43, o_94, o_121, o_75, o_91)
def spD (p : List Tx × E) (r : List Tx) (s : St) (v : Tx) : E × E × E × E × E := match spc p r s v with
  | .ok x => x
  | _ => (none, none, none, none, none)
def fE (p : List Tx × E) (r : List Tx) (s : St) : E := (spD p r s []).1
def hE (p : List Tx × E) (r : List Tx) (s : St) : E := (spD p r s []).2.2.2.1
def sE (p : List Tx × E) (r : List Tx) (s : St) : E := (spD p r s []).2.2.2.2
def oE (p : List Tx × E) (r : List Tx) (s : St) (v : Tx) : E := (spD p r s v).2.1
def rE (p : List Tx × E) (r : List Tx) (s : St) (v : Tx) : E := (spD p r s v).2.2.1
def allE (p : List Tx × E) (r : List Tx) (s : St) (v : Tx) (k : Int) : E := if k = 0 then fE p r s else if k = 1 then oE p r s v else if k = 2 then rE p r s v else if k < 6 then hE p r s else sE p r s
def lst (p : List Tx × E) (r : List Tx) (s : St) (v : Tx) : List E := [fE p r s, oE p r s v, rE p r s v, hE p r s, hE p r s, hE p r s, sE p r s]
def chk (r : R D) (o : E) : Bool := match decO r with
  | .ok x => decide (x = o)
  | _ => false
theorem chk_is {r : R D} {o : E} (h : chk r o = true) : decO r = .ok o := by
  unfold chk at h
  split at h
  · rename_i x e
    rw [e, of_decide_eq_true h]
  · cases h
def spk (p : List Tx × E) (r : List Tx) (s : St) (v : Tx) : Bool := match spc p r s v with
  | .ok x => decide (x.1 = fE p r s) && (decide (x.2.1 = oE p r s v) && (decide (x.2.2.1 = rE p r s v) && (decide (x.2.2.2.1 = hE p r s) && decide (x.2.2.2.2 = sE p r s))))
  | _ => false
theorem spk_is {p : List Tx × E} {r : List Tx} {s : St} {v : Tx} (h : spk p r s v = true) : spc p r s v = .ok (fE p r s, oE p r s v, rE p r s v, hE p r s, sE p r s) := by
  unfold spk at h
  split at h
  · rename_i x e
    obtain ⟨x1, x2, x3, x4, x5⟩ := x
    rw [Bool.and_eq_true, Bool.and_eq_true, Bool.and_eq_true, Bool.and_eq_true] at h
    obtain ⟨h1, h2, h3, h4, h5⟩ := h
    rw [e, ← of_decide_eq_true h1, ← of_decide_eq_true h2, ← of_decide_eq_true h3, ← of_decide_eq_true h4, ← of_decide_eq_true h5]
  · cases h
def rpk (r : List Tx) (s : St) : Bool := match rprG (en (r, s)) with
  | .ok _ => true
  | _ => false
theorem rpk_is {r : List Tx} {s : St} (h : rpk r s = true) : ∃ z, rprG (en (r, s)) = .ok z := by
  unfold rpk at h
  split at h
  · exact ⟨_, by assumption⟩
  · cases h
def ca (k : Int) (x : E) (p : List Tx × E) (r : List Tx) (s : St) (mv : D) : Bool := chk (f__law_of [en k, en p.1, en r, en s, mv]) x
def cb (k : Int) (x : E) (p : List Tx × E) (r : List Tx) (s : St) (v : Tx) : Bool := chk (f__law_of [en k, en p.1, en r, en s, en v]) x
set_option maxHeartbeats 0 in
theorem a0_0 (mv : D) : (RU.all fun r => ST.all fun s => ca 0 (fE pl0 r s) pl0 r s mv) = true := by kernel_rfl
set_option maxHeartbeats 0 in
theorem a0_3 (mv : D) : (RU.all fun r => ST.all fun s => ca 3 (hE pl0 r s) pl0 r s mv) = true := by kernel_rfl
set_option maxHeartbeats 0 in
theorem a0_4 (mv : D) : (RU.all fun r => ST.all fun s => ca 4 (hE pl0 r s) pl0 r s mv) = true := by kernel_rfl
set_option maxHeartbeats 0 in
theorem a0_5 (mv : D) : (RU.all fun r => ST.all fun s => ca 5 (hE pl0 r s) pl0 r s mv) = true := by kernel_rfl
set_option maxHeartbeats 0 in
theorem a0_6 (mv : D) : (RU.all fun r => ST.all fun s => ca 6 (sE pl0 r s) pl0 r s mv) = true := by kernel_rfl
set_option maxHeartbeats 0 in
theorem b0_1 : (RU.all fun r => ST.all fun s => MV.all fun v => cb 1 (oE pl0 r s v) pl0 r s v) = true := by kernel_rfl
set_option maxHeartbeats 0 in
theorem b0_2 : (RU.all fun r => ST.all fun s => MV.all fun v => cb 2 (rE pl0 r s v) pl0 r s v) = true := by kernel_rfl
set_option maxHeartbeats 0 in
theorem t0 : (RU.all fun r => ST.all fun s => MV.all fun v => spk pl0 r s v) = true := by kernel_rfl
set_option maxHeartbeats 0 in
theorem a1_0 (mv : D) : (RU.all fun r => ST.all fun s => ca 0 (fE pl1 r s) pl1 r s mv) = true := by kernel_rfl
set_option maxHeartbeats 0 in
theorem a1_3 (mv : D) : (RU.all fun r => ST.all fun s => ca 3 (hE pl1 r s) pl1 r s mv) = true := by kernel_rfl
set_option maxHeartbeats 0 in
theorem a1_4 (mv : D) : (RU.all fun r => ST.all fun s => ca 4 (hE pl1 r s) pl1 r s mv) = true := by kernel_rfl
set_option maxHeartbeats 0 in
theorem a1_5 (mv : D) : (RU.all fun r => ST.all fun s => ca 5 (hE pl1 r s) pl1 r s mv) = true := by kernel_rfl
set_option maxHeartbeats 0 in
theorem a1_6 (mv : D) : (RU.all fun r => ST.all fun s => ca 6 (sE pl1 r s) pl1 r s mv) = true := by kernel_rfl
set_option maxHeartbeats 0 in
theorem b1_1 : (RU.all fun r => ST.all fun s => MV.all fun v => cb 1 (oE pl1 r s v) pl1 r s v) = true := by kernel_rfl
set_option maxHeartbeats 0 in
theorem b1_2 : (RU.all fun r => ST.all fun s => MV.all fun v => cb 2 (rE pl1 r s v) pl1 r s v) = true := by kernel_rfl
set_option maxHeartbeats 0 in
theorem t1 : (RU.all fun r => ST.all fun s => MV.all fun v => spk pl1 r s v) = true := by kernel_rfl
set_option maxHeartbeats 0 in
theorem a2_0 (mv : D) : (RU.all fun r => ST.all fun s => ca 0 (fE pl2 r s) pl2 r s mv) = true := by kernel_rfl
set_option maxHeartbeats 0 in
theorem a2_3 (mv : D) : (RU.all fun r => ST.all fun s => ca 3 (hE pl2 r s) pl2 r s mv) = true := by kernel_rfl
set_option maxHeartbeats 0 in
theorem a2_4 (mv : D) : (RU.all fun r => ST.all fun s => ca 4 (hE pl2 r s) pl2 r s mv) = true := by kernel_rfl
set_option maxHeartbeats 0 in
theorem a2_5 (mv : D) : (RU.all fun r => ST.all fun s => ca 5 (hE pl2 r s) pl2 r s mv) = true := by kernel_rfl
set_option maxHeartbeats 0 in
theorem a2_6 (mv : D) : (RU.all fun r => ST.all fun s => ca 6 (sE pl2 r s) pl2 r s mv) = true := by kernel_rfl
set_option maxHeartbeats 0 in
theorem b2_1 : (RU.all fun r => ST.all fun s => MV.all fun v => cb 1 (oE pl2 r s v) pl2 r s v) = true := by kernel_rfl
set_option maxHeartbeats 0 in
theorem b2_2 : (RU.all fun r => ST.all fun s => MV.all fun v => cb 2 (rE pl2 r s v) pl2 r s v) = true := by kernel_rfl
set_option maxHeartbeats 0 in
theorem t2 : (RU.all fun r => ST.all fun s => MV.all fun v => spk pl2 r s v) = true := by kernel_rfl
set_option maxHeartbeats 0 in
theorem a3_0 (mv : D) : (RU.all fun r => ST.all fun s => ca 0 (fE pl3 r s) pl3 r s mv) = true := by kernel_rfl
set_option maxHeartbeats 0 in
theorem a3_3 (mv : D) : (RU.all fun r => ST.all fun s => ca 3 (hE pl3 r s) pl3 r s mv) = true := by kernel_rfl
set_option maxHeartbeats 0 in
theorem a3_4 (mv : D) : (RU.all fun r => ST.all fun s => ca 4 (hE pl3 r s) pl3 r s mv) = true := by kernel_rfl
set_option maxHeartbeats 0 in
theorem a3_5 (mv : D) : (RU.all fun r => ST.all fun s => ca 5 (hE pl3 r s) pl3 r s mv) = true := by kernel_rfl
set_option maxHeartbeats 0 in
theorem a3_6 (mv : D) : (RU.all fun r => ST.all fun s => ca 6 (sE pl3 r s) pl3 r s mv) = true := by kernel_rfl
set_option maxHeartbeats 0 in
theorem b3_1 : (RU.all fun r => ST.all fun s => MV.all fun v => cb 1 (oE pl3 r s v) pl3 r s v) = true := by kernel_rfl
set_option maxHeartbeats 0 in
theorem b3_2 : (RU.all fun r => ST.all fun s => MV.all fun v => cb 2 (rE pl3 r s v) pl3 r s v) = true := by kernel_rfl
set_option maxHeartbeats 0 in
theorem t3 : (RU.all fun r => ST.all fun s => MV.all fun v => spk pl3 r s v) = true := by kernel_rfl
set_option maxHeartbeats 0 in
theorem a4_0 (mv : D) : (RU.all fun r => ST.all fun s => ca 0 (fE pl4 r s) pl4 r s mv) = true := by kernel_rfl
set_option maxHeartbeats 0 in
theorem a4_3 (mv : D) : (RU.all fun r => ST.all fun s => ca 3 (hE pl4 r s) pl4 r s mv) = true := by kernel_rfl
set_option maxHeartbeats 0 in
theorem a4_4 (mv : D) : (RU.all fun r => ST.all fun s => ca 4 (hE pl4 r s) pl4 r s mv) = true := by kernel_rfl
set_option maxHeartbeats 0 in
theorem a4_5 (mv : D) : (RU.all fun r => ST.all fun s => ca 5 (hE pl4 r s) pl4 r s mv) = true := by kernel_rfl
set_option maxHeartbeats 0 in
theorem a4_6 (mv : D) : (RU.all fun r => ST.all fun s => ca 6 (sE pl4 r s) pl4 r s mv) = true := by kernel_rfl
set_option maxHeartbeats 0 in
theorem b4_1 : (RU.all fun r => ST.all fun s => MV.all fun v => cb 1 (oE pl4 r s v) pl4 r s v) = true := by kernel_rfl
set_option maxHeartbeats 0 in
theorem b4_2 : (RU.all fun r => ST.all fun s => MV.all fun v => cb 2 (rE pl4 r s v) pl4 r s v) = true := by kernel_rfl
set_option maxHeartbeats 0 in
theorem t4 : (RU.all fun r => ST.all fun s => MV.all fun v => spk pl4 r s v) = true := by kernel_rfl
set_option maxHeartbeats 0 in
theorem a5_0 (mv : D) : (RU.all fun r => ST.all fun s => ca 0 (fE pl5 r s) pl5 r s mv) = true := by kernel_rfl
set_option maxHeartbeats 0 in
theorem a5_3 (mv : D) : (RU.all fun r => ST.all fun s => ca 3 (hE pl5 r s) pl5 r s mv) = true := by kernel_rfl
set_option maxHeartbeats 0 in
theorem a5_4 (mv : D) : (RU.all fun r => ST.all fun s => ca 4 (hE pl5 r s) pl5 r s mv) = true := by kernel_rfl
set_option maxHeartbeats 0 in
theorem a5_5 (mv : D) : (RU.all fun r => ST.all fun s => ca 5 (hE pl5 r s) pl5 r s mv) = true := by kernel_rfl
set_option maxHeartbeats 0 in
theorem a5_6 (mv : D) : (RU.all fun r => ST.all fun s => ca 6 (sE pl5 r s) pl5 r s mv) = true := by kernel_rfl
set_option maxHeartbeats 0 in
theorem b5_1 : (RU.all fun r => ST.all fun s => MV.all fun v => cb 1 (oE pl5 r s v) pl5 r s v) = true := by kernel_rfl
set_option maxHeartbeats 0 in
theorem b5_2 : (RU.all fun r => ST.all fun s => MV.all fun v => cb 2 (rE pl5 r s v) pl5 r s v) = true := by kernel_rfl
set_option maxHeartbeats 0 in
theorem t5 : (RU.all fun r => ST.all fun s => MV.all fun v => spk pl5 r s v) = true := by kernel_rfl
set_option maxHeartbeats 0 in
theorem a6_0 (mv : D) : (RU.all fun r => ST.all fun s => ca 0 (fE pl6 r s) pl6 r s mv) = true := by kernel_rfl
set_option maxHeartbeats 0 in
theorem a6_3 (mv : D) : (RU.all fun r => ST.all fun s => ca 3 (hE pl6 r s) pl6 r s mv) = true := by kernel_rfl
set_option maxHeartbeats 0 in
theorem a6_4 (mv : D) : (RU.all fun r => ST.all fun s => ca 4 (hE pl6 r s) pl6 r s mv) = true := by kernel_rfl
set_option maxHeartbeats 0 in
theorem a6_5 (mv : D) : (RU.all fun r => ST.all fun s => ca 5 (hE pl6 r s) pl6 r s mv) = true := by kernel_rfl
set_option maxHeartbeats 0 in
theorem a6_6 (mv : D) : (RU.all fun r => ST.all fun s => ca 6 (sE pl6 r s) pl6 r s mv) = true := by kernel_rfl
set_option maxHeartbeats 0 in
theorem b6_1 : (RU.all fun r => ST.all fun s => MV.all fun v => cb 1 (oE pl6 r s v) pl6 r s v) = true := by kernel_rfl
set_option maxHeartbeats 0 in
theorem b6_2 : (RU.all fun r => ST.all fun s => MV.all fun v => cb 2 (rE pl6 r s v) pl6 r s v) = true := by kernel_rfl
set_option maxHeartbeats 0 in
theorem t6 : (RU.all fun r => ST.all fun s => MV.all fun v => spk pl6 r s v) = true := by kernel_rfl
set_option maxHeartbeats 0 in
theorem rp : (RU.all fun r => ST.all fun s => rpk r s) = true := by kernel_rfl
end Gk51

set_option Elab.async false
set_option linter.all false
set_option maxRecDepth 100000

namespace Gk51
open PySem PySem.Spec PyProof.Rows L2 Vs Vt
open En (en)

theorem pl_cases {φ : List Tx × E → Prop} (h : φ pl0 ∧ φ pl1 ∧ φ pl2 ∧ φ pl3 ∧ φ pl4 ∧ φ pl5 ∧ φ pl6) {s : List Tx × E} (hs : s ∈ PL) : φ s := by
  unfold PL at hs
  simp only [List.mem_cons, List.not_mem_nil, or_false] at hs
  obtain ⟨h0, h1, h2, h3, h4, h5, h6⟩ := h
  rcases hs with rfl | rfl | rfl | rfl | rfl | rfl | rfl
  · exact h0
  · exact h1
  · exact h2
  · exact h3
  · exact h4
  · exact h5
  · exact h6
section
variable {p : List Tx × E} {r : List Tx} {s : St} {v : Tx}
theorem al2 {α β : Type} {p : List α} {q : List β} {f : α → β → Bool} (h : (p.all fun a => q.all fun b => f a b) = true) {a : α} {b : β} (ha : a ∈ p) (hb : b ∈ q) : f a b = true := List.all_eq_true.mp (List.all_eq_true.mp h a ha) b hb
theorem a_0 (hp : p ∈ PL) (hr : r ∈ RU) (hs : s ∈ ST) (mv : D) : ca 0 (fE p r s) p r s mv = true := al2 (pl_cases (φ := fun p => (RU.all fun r => ST.all fun s => ca 0 (fE p r s) p r s mv) = true) ⟨a0_0 mv, a1_0 mv, a2_0 mv, a3_0 mv, a4_0 mv, a5_0 mv, a6_0 mv⟩ hp) hr hs
theorem a_3 (hp : p ∈ PL) (hr : r ∈ RU) (hs : s ∈ ST) (mv : D) : ca 3 (hE p r s) p r s mv = true := al2 (pl_cases (φ := fun p => (RU.all fun r => ST.all fun s => ca 3 (hE p r s) p r s mv) = true) ⟨a0_3 mv, a1_3 mv, a2_3 mv, a3_3 mv, a4_3 mv, a5_3 mv, a6_3 mv⟩ hp) hr hs
theorem a_4 (hp : p ∈ PL) (hr : r ∈ RU) (hs : s ∈ ST) (mv : D) : ca 4 (hE p r s) p r s mv = true := al2 (pl_cases (φ := fun p => (RU.all fun r => ST.all fun s => ca 4 (hE p r s) p r s mv) = true) ⟨a0_4 mv, a1_4 mv, a2_4 mv, a3_4 mv, a4_4 mv, a5_4 mv, a6_4 mv⟩ hp) hr hs
theorem a_5 (hp : p ∈ PL) (hr : r ∈ RU) (hs : s ∈ ST) (mv : D) : ca 5 (hE p r s) p r s mv = true := al2 (pl_cases (φ := fun p => (RU.all fun r => ST.all fun s => ca 5 (hE p r s) p r s mv) = true) ⟨a0_5 mv, a1_5 mv, a2_5 mv, a3_5 mv, a4_5 mv, a5_5 mv, a6_5 mv⟩ hp) hr hs
theorem a_6 (hp : p ∈ PL) (hr : r ∈ RU) (hs : s ∈ ST) (mv : D) : ca 6 (sE p r s) p r s mv = true := al2 (pl_cases (φ := fun p => (RU.all fun r => ST.all fun s => ca 6 (sE p r s) p r s mv) = true) ⟨a0_6 mv, a1_6 mv, a2_6 mv, a3_6 mv, a4_6 mv, a5_6 mv, a6_6 mv⟩ hp) hr hs
theorem b_1 (hp : p ∈ PL) (hr : r ∈ RU) (hs : s ∈ ST) (hv : v ∈ MV) : cb 1 (oE p r s v) p r s v = true := List.all_eq_true.mp (al2 (pl_cases (φ := fun p => (RU.all fun r => ST.all fun s => MV.all fun v => cb 1 (oE p r s v) p r s v) = true) ⟨b0_1, b1_1, b2_1, b3_1, b4_1, b5_1, b6_1⟩ hp) hr hs) v hv
theorem b_2 (hp : p ∈ PL) (hr : r ∈ RU) (hs : s ∈ ST) (hv : v ∈ MV) : cb 2 (rE p r s v) p r s v = true := List.all_eq_true.mp (al2 (pl_cases (φ := fun p => (RU.all fun r => ST.all fun s => MV.all fun v => cb 2 (rE p r s v) p r s v) = true) ⟨b0_2, b1_2, b2_2, b3_2, b4_2, b5_2, b6_2⟩ hp) hr hs) v hv
theorem t_ok (hp : p ∈ PL) (hr : r ∈ RU) (hs : s ∈ ST) (hv : v ∈ MV) : spc p r s v = .ok (fE p r s, oE p r s v, rE p r s v, hE p r s, sE p r s) := spk_is (List.all_eq_true.mp (al2 (pl_cases (φ := fun p => (RU.all fun r => ST.all fun s => MV.all fun v => spk p r s v) = true) ⟨t0, t1, t2, t3, t4, t5, t6⟩ hp) hr hs) v hv)
end
theorem call_ok {p : List Tx × E} {r : List Tx} {s : St} {v : Tx} (hp : p ∈ PL) (hr : r ∈ RU) (hs : s ∈ ST) (hv : v ∈ MV) {k : Int} (hk : k ∈ rgI 0 7) : p__law_of k p.1 r s v = .ok (allE p r s v k) := by
  have e : rgI 0 7 = [0, 1, 2, 3, 4, 5, 6] := rfl
  rw [e] at hk
  simp only [List.mem_cons, List.not_mem_nil, or_false] at hk
  rcases hk with rfl | rfl | rfl | rfl | rfl | rfl | rfl
  · exact chk_is (a_0 hp hr hs (en v))
  · exact chk_is (b_1 hp hr hs hv)
  · exact chk_is (b_2 hp hr hs hv)
  · exact chk_is (a_3 hp hr hs (en v))
  · exact chk_is (a_4 hp hr hs (en v))
  · exact chk_is (a_5 hp hr hs (en v))
  · exact chk_is (a_6 hp hr hs (en v))
theorem pickT {α : Type} {l : List α} {zs : List Int} {k m : Int} (hk : 0 ≤ k) (hm : 0 < m) (hl : m ≤ l.length) : ∃ r a, a ∈ l ∧ p__law_mix zs k m = .ok r ∧ atR l r = .ok a := by
  obtain ⟨r, h0, h1, e⟩ := mixT (zs := zs) hk hm
  obtain ⟨a, ha, e2⟩ := atR_ok (l := l) h0 (by omega)
  exact ⟨r, a, ha, e, e2⟩
theorem end_ok {x y : List E} {q : R Bool} (h : x = y) (hq : q = .ok false) : ((if (!decide (x = y)) then .ok true else q) >>= fun b => if b then .ok (.inr false) else .ok (.inl ())) = (.ok (.inl ()) : R (Unit ⊕ Bool)) := by
  rw [decide_eq_true h, if_neg (by decide), hq]
  rfl
theorem turn_ok {zs : List Int} {t : Int} (h : 0 ≤ t) : p_law_b0 zs PL t = .ok (.inl ()) := by
  obtain ⟨r1, v1, m1, e1, f1⟩ := pickT (l := [(3 : Int), 7]) (zs := zs) (k := 10 + 8 * t + 1) (m := 2) (by omega) (by decide) (by decide)
  have b1 : 0 < v1 ∧ v1 ≤ 7 := by
    simp only [List.mem_cons, List.not_mem_nil, or_false] at m1
    omega
  obtain ⟨r2, p, hp, e2, f2⟩ := pickT (l := PL) (zs := zs) (k := 10 + 8 * t) (m := v1) (by omega) b1.1 (show v1 ≤ 7 from b1.2)
  obtain ⟨r3, v3, m3, e3, f3⟩ := pickT (l := [(2 : Int), 6]) (zs := zs) (k := 10 + 8 * t + 3) (m := 2) (by omega) (by decide) (by decide)
  have b3 : 0 < v3 ∧ v3 ≤ 6 := by
    simp only [List.mem_cons, List.not_mem_nil, or_false] at m3
    omega
  obtain ⟨r4, r, hr, e4, f4⟩ := pickT (l := RU) (zs := zs) (k := 10 + 8 * t + 2) (m := v3) (by omega) b3.1 (show v3 ≤ 6 from b3.2)
  obtain ⟨r5, s, hs, e5, f5⟩ := pickT (l := ST) (zs := zs) (k := 10 + 8 * t + 4) (m := 6) (by omega) (by decide) (by decide)
  obtain ⟨r6, v, hv, e6, f6⟩ := pickT (l := MV) (zs := zs) (k := 10 + 8 * t + 5) (m := 7) (by omega) (by decide) (by decide)
  have all : mapG (fun (k : Int) => p__law_of k p.1 r s v >>= fun r => .ok r) (rgI 0 7) = .ok (lst p r s v) :=
    (mapG_ok (g := allE p r s v) (fun k hk => by rw [call_ok hp hr hs hv hk]; rfl) (by decide)).trans rfl
  have g3 : repG ([[110, 101, 97, 114]] : List Tx) 3 = .ok [[110, 101, 97, 114], [110, 101, 97, 114], [110, 101, 97, 114]] := rfl
  have g101 : repT ([115] : Tx) 101 = .ok s101 := rfl
  have s7 : rgR1 7 = .ok (rgI 0 7) := rfl
  obtain ⟨z, ez⟩ := rpk_is (al2 rp hr hs)
  have sp := t_ok hp hr hs hv
  unfold spc at sp
  unfold p_law_b0
  rw [okb, e1, okb, f1, okb, e2, okb, f2, okb, g3, okb, e3, okb, f3, okb, e4, okb, show atR ([[[110, 101, 97, 114]], [[114, 111, 119], [119, 97, 105, 116]], [], [[110, 101, 97, 114], [110, 101, 97, 114], [110, 101, 97, 114]], [[119, 97, 105, 116], [78, 101, 97, 114]], [[]]] : List (List Tx)) r4 = .ok r from f4, okb, e5, okb, show atR ([((0, 0), [(0, 1)]), ((0, 1), [(0, 0), (0, 1)]), ((9, 9), []), ((0, 0), [(1, 1)]), ((0, 0), [(0, 1), (-1, 0)]), ((0, 0), [])] : List St) r5 = .ok s from f5, okb, g101, okb, e6, okb, show atR ([[117], [115], [], [117, 100], [113], [115, 120], s101] : List Tx) r6 = .ok v from f6, okb, ez, okb]
  obtain ⟨y0, g0, sp⟩ := bind_ok sp
  rw [g0, okb]
  obtain ⟨y1, g1, sp⟩ := bind_ok sp
  rw [g1, okb]
  obtain ⟨y2, g2, sp⟩ := bind_ok sp
  rw [g2, okb]
  obtain ⟨y3, g3, sp⟩ := bind_ok sp
  rw [g3, okb]
  obtain ⟨y4, g4, sp⟩ := bind_ok sp
  rw [g4, okb]
  obtain ⟨y5, g5, sp⟩ := bind_ok sp
  rw [g5, okb]
  obtain ⟨y6, g6, sp⟩ := bind_ok sp
  rw [g6, okb]
  obtain ⟨y7, g7, sp⟩ := bind_ok sp
  rw [g7, okb]
  obtain ⟨y8, g8, sp⟩ := bind_ok sp
  rw [g8, okb]
  obtain ⟨y9, g9, sp⟩ := bind_ok sp
  rw [g9, okb]
  obtain ⟨y10, g10, sp⟩ := bind_ok sp
  rw [g10, okb]
  obtain ⟨y11, g11, sp⟩ := bind_ok sp
  rw [g11, okb]
  obtain ⟨y12, g12, sp⟩ := bind_ok sp
  rw [g12, okb]
  obtain ⟨y13, g13, sp⟩ := bind_ok sp
  rw [g13, okb]
  obtain ⟨y14, g14, sp⟩ := bind_ok sp
  rw [g14, okb]
  rw [g14] at sp
  obtain ⟨y15, g15, sp⟩ := bind_ok sp
  rw [g15, okb]
  obtain ⟨y16, g16, sp⟩ := bind_ok sp
  rw [g16, okb]
  obtain ⟨y17, g17, sp⟩ := bind_ok sp
  rw [g17, okb]
  cases sp
  rw [s7, okb, all, okb]
  exact end_ok rfl (by rw [okb, decide_eq_true rfl]; rfl)
theorem p_true (zs : List Int) : p_law zs = .ok true := by
  have s12 : rgR1 12 = .ok (rgI 0 12) := rfl
  have g3 : repG ([[46, 46, 46, 46, 46, 46]] : List Tx) 3 = .ok [[46, 46, 46, 46, 46, 46], [46, 46, 46, 46, 46, 46], [46, 46, 46, 46, 46, 46]] := rfl
  unfold p_law
  rw [g3, okb, okb, s12, okb]
  show onR (forR (fun (x : Int) (s : Unit) => p_law_b0 zs PL x) (rgI 0 12) ()) _ _ = _
  rw [forR_inl _ fun x hx => turn_ok (mem_rgI hx).1]
  rfl
theorem law_true (ns : List Int) (hl : ns.length ≤ 63) : f_law [.dict [(.none, .list (ns.map .int)), (.none, .none)]] = .ok (.bool true) := by
  obtain ⟨zs, hd⟩ := draws_ok ns
  exact t_law (ns := ns) hd true (p_true zs)
end Gk51

set_option Elab.async false
set_option linter.all false
set_option maxRecDepth 100000
namespace Gk51
open PySem PySem.Spec PyProof.Rows L2 Vs
set_option maxHeartbeats 0 in
theorem all_mk {l : PySem.W.OpenLaw} {w : World} {K : PySem.W.Frag} {h : Heap} {mg : Str → Option Value} {fa : Addr} (X : K.In h) (G : h.Ns mainGlobals mg) (hfa : mg "law" = some (.ref fa))
    {f0 f1 f2 f3 f4 f5 f6 f7 f8 f9 f10 f11 f12 f13 f14 f15 f16 f17 f18 f19 f20 f21 f22 f23 f24 f25 f26 f27 f28 f29 f30 f31 f32 : Addr} {od0 an0 od1 an1 od2 an2 od3 an3 od4 an4 od5 an5 od6 an6 od7 an7 od8 an8 od9 an9 od10 an10 od11 an11 od12 an12 od13 an13 od14 an14 od15 an15 od16 an16 od17 an17 od18 an18 od19 an19 od20 an20 od21 an21 od22 an22 od23 an23 od24 an24 od25 an25 od26 an26 od27 an27 od28 an28 od29 an29 od30 an30 od31 an31 od32 an32 : Option Addr} {sl0 sl1 sl2 sl3 sl4 sl5 sl6 sl7 sl8 sl9 sl10 sl11 sl12 sl13 sl14 sl15 sl16 sl17 sl18 sl19 sl20 sl21 sl22 sl23 sl24 sl25 sl26 sl27 sl28 sl29 sl30 sl31 sl32 : Array (Option Value)} {oc0 kV0 dc0 pm0 cd0 ct0 oc1 kV1 dc1 pm1 cd1 ct1 oc2 kV2 dc2 pm2 cd2 ct2 oc3 kV3 dc3 pm3 cd3 ct3 oc4 kV4 dc4 pm4 cd4 ct4 oc5 kV5 dc5 pm5 cd5 ct5 oc6 kV6 dc6 pm6 cd6 ct6 oc7 kV7 dc7 pm7 cd7 ct7 oc8 kV8 dc8 pm8 cd8 ct8 oc9 kV9 dc9 pm9 cd9 ct9 oc10 kV10 dc10 pm10 cd10 ct10 oc11 kV11 dc11 pm11 cd11 ct11 oc12 kV12 dc12 pm12 cd12 ct12 oc13 kV13 dc13 pm13 cd13 ct13 oc14 kV14 dc14 pm14 cd14 ct14 oc15 kV15 dc15 pm15 cd15 ct15 oc16 kV16 dc16 pm16 cd16 ct16 oc17 kV17 dc17 pm17 cd17 ct17 oc18 kV18 dc18 pm18 cd18 ct18 oc19 kV19 dc19 pm19 cd19 ct19 oc20 kV20 dc20 pm20 cd20 ct20 oc21 kV21 dc21 pm21 cd21 ct21 oc22 kV22 dc22 pm22 cd22 ct22 oc23 kV23 dc23 pm23 cd23 ct23 oc24 kV24 dc24 pm24 cd24 ct24 oc25 kV25 dc25 pm25 cd25 ct25 oc26 kV26 dc26 pm26 cd26 ct26 oc27 kV27 dc27 pm27 cd27 ct27 oc28 kV28 dc28 pm28 cd28 ct28 oc29 kV29 dc29 pm29 cd29 ct29 oc30 kV30 dc30 pm30 cd30 ct30 oc31 kV31 dc31 pm31 cd31 ct31 oc32 kV32 dc32 pm32 cd32 ct32 : Value} {x_i x_c x_cc x_b x_0 x_1 x_2 x_3 x_4 x_5 xN_b xN_0 xN_1 xN_2 xN_3 xN_4 xN_5 : Addr} {xnm_b xnm_0 xnm_1 xnm_2 xnm_3 xnm_4 xnm_5 xq_b xq_0 xq_1 xq_2 xq_3 xq_4 xq_5 : Str} {xbs_b xbs_0 xbs_1 xbs_2 xbs_3 xbs_4 xbs_5 xsub_b xsub_0 xsub_1 xsub_2 xsub_3 xsub_4 xsub_5 : List Value} {xsn_b xsn_0 xsn_1 xsn_2 xsn_3 xsn_4 xsn_5 : List Str} {xab_b xab_0 xab_1 xab_2 xab_3 xab_4 xab_5 : Bool} {xcol_b xcol_0 xcol_1 xcol_2 xcol_3 xcol_4 xcol_5 : Option Bool} {xdd_b xdd_0 xdd_1 xdd_2 xdd_3 xdd_4 xdd_5 : Option Addr} {xk0_b xk1_b xk2_b xk3_b xk5_b xk0_0 xk1_0 xk2_0 xk3_0 xk5_0 xk0_1 xk1_1 xk2_1 xk3_1 xk5_1 xk0_2 xk1_2 xk2_2 xk3_2 xk5_2 xk0_3 xk1_3 xk2_3 xk3_3 xk5_3 xk0_4 xk1_4 xk2_4 xk3_4 xk5_4 xk0_5 xk1_5 xk2_5 xk3_5 xk5_5 : Option Value} {i_oc i_doc i_pm i_ct i_cl i_ccl : Value} {i_od i_an i_cld i_cdd : Option Addr} {i_sl i_csl i_ccs : Array (Option Value)} {i_vs : Array Value} {i_file : Str} {i_tf : Tok} {t_FREE : Tok} {t_MOST_CHASERS : Tok} {t_MOST_FREE : Tok} {t_MOST_MOVES : Tok} {t_MOST_SIDE : Tok} {t_MOVES_grids_2 : Tok} {t_MOVES_grids_4 : Tok} {t_MOVES_grids_5 : Tok} {a_MOVES_grids_3 : Addr} {d_MOVES_grids_3 : Option Addr} {n_MOVES_grids_3 : Nat} {s_MOVES_grids_3 : Array (Option Value)} {h_MOVES_grids_1_0 : Int} {t_MOVES_grids_6 : Tok} {t_MOVES_grids_8 : Tok} {t_MOVES_grids_9 : Tok} {a_MOVES_grids_7 : Addr} {d_MOVES_grids_7 : Option Addr} {n_MOVES_grids_7 : Nat} {s_MOVES_grids_7 : Array (Option Value)} {h_MOVES_grids_1_1 : Int} {t_MOVES_grids_10 : Tok} {t_MOVES_grids_12 : Tok} {t_MOVES_grids_13 : Tok} {a_MOVES_grids_11 : Addr} {d_MOVES_grids_11 : Option Addr} {n_MOVES_grids_11 : Nat} {s_MOVES_grids_11 : Array (Option Value)} {h_MOVES_grids_1_2 : Int} {t_MOVES_grids_14 : Tok} {t_MOVES_grids_16 : Tok} {t_MOVES_grids_17 : Tok} {a_MOVES_grids_15 : Addr} {d_MOVES_grids_15 : Option Addr} {n_MOVES_grids_15 : Nat} {s_MOVES_grids_15 : Array (Option Value)} {h_MOVES_grids_1_3 : Int} {a_MOVES_grids_1 : Addr} {n_MOVES_grids_1 : Nat} {t_MOVES_ticks : Tok} {t_RULES_2 : Tok} {t_RULES_3 : Tok} {t_RULES_4 : Tok} {a_RULES_1 : Addr} {d_RULES_1 : Option Addr} {n_RULES_1 : Nat} {s_RULES_1 : Array (Option Value)} {t_SIGNS : Tok} {t_STAY : Tok}
    (nx_b : PySem.W.nsIn K mainGlobals "PlayError" = some (some (.ref x_b)))
    (lx_b : K.lookup x_b = some (excClassObj xnm_b xq_b x_b xN_b xbs_b [.type "ValueError", .type "Exception", .type "BaseException", .type "object"] true xsn_b xsub_b xab_b xcol_b xdd_b xk0_b xk1_b xk2_b xk3_b xk5_b "ValueError.__new__"))
    (nx_0 : PySem.W.nsIn K mainGlobals "TooMany" = some (some (.ref x_0)))
    (lx_0 : K.lookup x_0 = some (excClassObj xnm_0 xq_0 x_0 xN_0 xbs_0 [.ref x_b, .type "ValueError", .type "Exception", .type "BaseException", .type "object"] true xsn_0 xsub_0 xab_0 xcol_0 xdd_0 xk0_0 xk1_0 xk2_0 xk3_0 xk5_0 "ValueError.__new__"))
    (nx_1 : PySem.W.nsIn K mainGlobals "WrongSize" = some (some (.ref x_1)))
    (lx_1 : K.lookup x_1 = some (excClassObj xnm_1 xq_1 x_1 xN_1 xbs_1 [.ref x_b, .type "ValueError", .type "Exception", .type "BaseException", .type "object"] true xsn_1 xsub_1 xab_1 xcol_1 xdd_1 xk0_1 xk1_1 xk2_1 xk3_1 xk5_1 "ValueError.__new__"))
    (nx_2 : PySem.W.nsIn K mainGlobals "BadRow" = some (some (.ref x_2)))
    (lx_2 : K.lookup x_2 = some (excClassObj xnm_2 xq_2 x_2 xN_2 xbs_2 [.ref x_b, .type "ValueError", .type "Exception", .type "BaseException", .type "object"] true xsn_2 xsub_2 xab_2 xcol_2 xdd_2 xk0_2 xk1_2 xk2_2 xk3_2 xk5_2 "ValueError.__new__"))
    (nx_3 : PySem.W.nsIn K mainGlobals "BadMove" = some (some (.ref x_3)))
    (lx_3 : K.lookup x_3 = some (excClassObj xnm_3 xq_3 x_3 xN_3 xbs_3 [.ref x_b, .type "ValueError", .type "Exception", .type "BaseException", .type "object"] true xsn_3 xsub_3 xab_3 xcol_3 xdd_3 xk0_3 xk1_3 xk2_3 xk3_3 xk5_3 "ValueError.__new__"))
    (nx_4 : PySem.W.nsIn K mainGlobals "BadRule" = some (some (.ref x_4)))
    (lx_4 : K.lookup x_4 = some (excClassObj xnm_4 xq_4 x_4 xN_4 xbs_4 [.ref x_b, .type "ValueError", .type "Exception", .type "BaseException", .type "object"] true xsn_4 xsub_4 xab_4 xcol_4 xdd_4 xk0_4 xk1_4 xk2_4 xk3_4 xk5_4 "ValueError.__new__"))
    (nx_5 : PySem.W.nsIn K mainGlobals "BadState" = some (some (.ref x_5)))
    (lx_5 : K.lookup x_5 = some (excClassObj xnm_5 xq_5 x_5 xN_5 xbs_5 [.ref x_b, .type "ValueError", .type "Exception", .type "BaseException", .type "object"] true xsn_5 xsub_5 xab_5 xcol_5 xdd_5 xk0_5 xk1_5 xk2_5 xk3_5 xk5_5 "ValueError.__new__"))
    (ic_0 : PySem.W.findIn K (.ref x_0) "__init__" = some (some (.ref x_i)))
    (li : K.lookup x_i = some ⟨i_oc, i_od, .func (PySem.W.ksFn "__init__" "PlayError.__init__" (PySem.PlayX.iA ⟨4, 17, 4, 21⟩ ⟨4, 23, 4, 25⟩) (PySem.PlayX.iB 5 6) PySem.PlayX.iS .none .none i_doc i_pm i_an (.ref x_c) i_ct x_cc), i_sl⟩)
    (ci : PySem.W.codeIn K (.ref x_c) "PlayError.__init__" = true)
    (lcc : K.lookup x_cc = some ⟨i_cl, i_cld, .cell (some (.ref x_b)), i_csl⟩)
    (lcd : K.lookup x_c = some ⟨i_ccl, i_cdd, .fields i_vs, i_ccs⟩)
    (vs2 : i_vs[2]? = some (.str i_file i_tf))
    (vfile : ((l.prog.main.file : Str) == i_file) = true)
    (tCi : PySem.W.typeIn K (.ref x_i) = some (.type "function"))
    (xany : PySem.W.nsIn K cStatics "thirdparty.any" = some none)
    (xhn : PySem.W.specialIn K (.builtin "object.__class__") "__get__" = some (some (.builtin "getset_descriptor.__get__")))
    (xht : PySem.W.takesIn K (.builtin "object.__class__") = some true)
    (xtop : (l.prog.main.scope.names.lookup ("super" : Str)).isSome = false)
    (ysa_0 : PySem.W.findIn K (.ref x_0) "__setattr__" = some (some (.builtin "object.__setattr__")))
    (yga_0 : PySem.W.findIn K (.ref x_0) "__getattribute__" = some (some (.builtin "BaseException.__getattribute__")))
    (ygg_0 : PySem.W.findIn K (.ref x_0) "__getattr__" = some none)
    (ynoN_0 : PySem.W.findIn K (.ref x_0) "at" = some none)
    (yiC_0 : PySem.W.findIn K (.ref x_0) "__init__" = some (some (.ref x_i)))
    (ykC_0 : PySem.W.keepIn K (.ref x_0) = true)
    (yexC_0 : PySem.W.subIn K (.ref x_0) (.type "BaseException") = some true)
    (yveC_0 : PySem.W.subIn K (.ref x_0) (.type "ValueError") = some true)
    (ytyC_0 : PySem.W.typeIn K (.ref x_0) = some (.type "type"))
    (yhdC_0 : PySem.W.hasDictIn K x_0 = true)
    (yte_0 : PySem.W.exmOne K (.ref x_0) (.ref x_b) = some true)
    (yinD_0 : PySem.W.mroIn K x_0 (.ref x_b) = some true)
    (yca_0 : PySem.W.findIn K (.ref x_0) "__class__" = some (some (.builtin "object.__class__")))
    (yhm_0 : PySem.W.mroIn K x_0 (.type "object") = some true)
    (yei_0 : PySem.W.excInitIn K x_0 [.type "ValueError", .type "Exception", .type "BaseException", .type "object"] "ValueError.__new__" = true)
    (ysi_0 : PySem.W.ks_superIn K x_0 x_b "__init__" = some (some (.builtin "ValueError.__init__")))
    (ysa_1 : PySem.W.findIn K (.ref x_1) "__setattr__" = some (some (.builtin "object.__setattr__")))
    (yga_1 : PySem.W.findIn K (.ref x_1) "__getattribute__" = some (some (.builtin "BaseException.__getattribute__")))
    (ygg_1 : PySem.W.findIn K (.ref x_1) "__getattr__" = some none)
    (ynoN_1 : PySem.W.findIn K (.ref x_1) "at" = some none)
    (yiC_1 : PySem.W.findIn K (.ref x_1) "__init__" = some (some (.ref x_i)))
    (ykC_1 : PySem.W.keepIn K (.ref x_1) = true)
    (yexC_1 : PySem.W.subIn K (.ref x_1) (.type "BaseException") = some true)
    (yveC_1 : PySem.W.subIn K (.ref x_1) (.type "ValueError") = some true)
    (ytyC_1 : PySem.W.typeIn K (.ref x_1) = some (.type "type"))
    (yhdC_1 : PySem.W.hasDictIn K x_1 = true)
    (yte_1 : PySem.W.exmOne K (.ref x_1) (.ref x_b) = some true)
    (yinD_1 : PySem.W.mroIn K x_1 (.ref x_b) = some true)
    (yca_1 : PySem.W.findIn K (.ref x_1) "__class__" = some (some (.builtin "object.__class__")))
    (yhm_1 : PySem.W.mroIn K x_1 (.type "object") = some true)
    (yei_1 : PySem.W.excInitIn K x_1 [.type "ValueError", .type "Exception", .type "BaseException", .type "object"] "ValueError.__new__" = true)
    (ysi_1 : PySem.W.ks_superIn K x_1 x_b "__init__" = some (some (.builtin "ValueError.__init__")))
    (ysa_2 : PySem.W.findIn K (.ref x_2) "__setattr__" = some (some (.builtin "object.__setattr__")))
    (yga_2 : PySem.W.findIn K (.ref x_2) "__getattribute__" = some (some (.builtin "BaseException.__getattribute__")))
    (ygg_2 : PySem.W.findIn K (.ref x_2) "__getattr__" = some none)
    (ynoN_2 : PySem.W.findIn K (.ref x_2) "at" = some none)
    (yiC_2 : PySem.W.findIn K (.ref x_2) "__init__" = some (some (.ref x_i)))
    (ykC_2 : PySem.W.keepIn K (.ref x_2) = true)
    (yexC_2 : PySem.W.subIn K (.ref x_2) (.type "BaseException") = some true)
    (yveC_2 : PySem.W.subIn K (.ref x_2) (.type "ValueError") = some true)
    (ytyC_2 : PySem.W.typeIn K (.ref x_2) = some (.type "type"))
    (yhdC_2 : PySem.W.hasDictIn K x_2 = true)
    (yte_2 : PySem.W.exmOne K (.ref x_2) (.ref x_b) = some true)
    (yinD_2 : PySem.W.mroIn K x_2 (.ref x_b) = some true)
    (yca_2 : PySem.W.findIn K (.ref x_2) "__class__" = some (some (.builtin "object.__class__")))
    (yhm_2 : PySem.W.mroIn K x_2 (.type "object") = some true)
    (yei_2 : PySem.W.excInitIn K x_2 [.type "ValueError", .type "Exception", .type "BaseException", .type "object"] "ValueError.__new__" = true)
    (ysi_2 : PySem.W.ks_superIn K x_2 x_b "__init__" = some (some (.builtin "ValueError.__init__")))
    (ysa_3 : PySem.W.findIn K (.ref x_3) "__setattr__" = some (some (.builtin "object.__setattr__")))
    (yga_3 : PySem.W.findIn K (.ref x_3) "__getattribute__" = some (some (.builtin "BaseException.__getattribute__")))
    (ygg_3 : PySem.W.findIn K (.ref x_3) "__getattr__" = some none)
    (ynoN_3 : PySem.W.findIn K (.ref x_3) "at" = some none)
    (yiC_3 : PySem.W.findIn K (.ref x_3) "__init__" = some (some (.ref x_i)))
    (ykC_3 : PySem.W.keepIn K (.ref x_3) = true)
    (yexC_3 : PySem.W.subIn K (.ref x_3) (.type "BaseException") = some true)
    (yveC_3 : PySem.W.subIn K (.ref x_3) (.type "ValueError") = some true)
    (ytyC_3 : PySem.W.typeIn K (.ref x_3) = some (.type "type"))
    (yhdC_3 : PySem.W.hasDictIn K x_3 = true)
    (yte_3 : PySem.W.exmOne K (.ref x_3) (.ref x_b) = some true)
    (yinD_3 : PySem.W.mroIn K x_3 (.ref x_b) = some true)
    (yca_3 : PySem.W.findIn K (.ref x_3) "__class__" = some (some (.builtin "object.__class__")))
    (yhm_3 : PySem.W.mroIn K x_3 (.type "object") = some true)
    (yei_3 : PySem.W.excInitIn K x_3 [.type "ValueError", .type "Exception", .type "BaseException", .type "object"] "ValueError.__new__" = true)
    (ysi_3 : PySem.W.ks_superIn K x_3 x_b "__init__" = some (some (.builtin "ValueError.__init__")))
    (ysa_4 : PySem.W.findIn K (.ref x_4) "__setattr__" = some (some (.builtin "object.__setattr__")))
    (yga_4 : PySem.W.findIn K (.ref x_4) "__getattribute__" = some (some (.builtin "BaseException.__getattribute__")))
    (ygg_4 : PySem.W.findIn K (.ref x_4) "__getattr__" = some none)
    (ynoN_4 : PySem.W.findIn K (.ref x_4) "at" = some none)
    (yiC_4 : PySem.W.findIn K (.ref x_4) "__init__" = some (some (.ref x_i)))
    (ykC_4 : PySem.W.keepIn K (.ref x_4) = true)
    (yexC_4 : PySem.W.subIn K (.ref x_4) (.type "BaseException") = some true)
    (yveC_4 : PySem.W.subIn K (.ref x_4) (.type "ValueError") = some true)
    (ytyC_4 : PySem.W.typeIn K (.ref x_4) = some (.type "type"))
    (yhdC_4 : PySem.W.hasDictIn K x_4 = true)
    (yte_4 : PySem.W.exmOne K (.ref x_4) (.ref x_b) = some true)
    (yinD_4 : PySem.W.mroIn K x_4 (.ref x_b) = some true)
    (yca_4 : PySem.W.findIn K (.ref x_4) "__class__" = some (some (.builtin "object.__class__")))
    (yhm_4 : PySem.W.mroIn K x_4 (.type "object") = some true)
    (yei_4 : PySem.W.excInitIn K x_4 [.type "ValueError", .type "Exception", .type "BaseException", .type "object"] "ValueError.__new__" = true)
    (ysi_4 : PySem.W.ks_superIn K x_4 x_b "__init__" = some (some (.builtin "ValueError.__init__")))
    (ysa_5 : PySem.W.findIn K (.ref x_5) "__setattr__" = some (some (.builtin "object.__setattr__")))
    (yga_5 : PySem.W.findIn K (.ref x_5) "__getattribute__" = some (some (.builtin "BaseException.__getattribute__")))
    (ygg_5 : PySem.W.findIn K (.ref x_5) "__getattr__" = some none)
    (ynoN_5 : PySem.W.findIn K (.ref x_5) "at" = some none)
    (yiC_5 : PySem.W.findIn K (.ref x_5) "__init__" = some (some (.ref x_i)))
    (ykC_5 : PySem.W.keepIn K (.ref x_5) = true)
    (yexC_5 : PySem.W.subIn K (.ref x_5) (.type "BaseException") = some true)
    (yveC_5 : PySem.W.subIn K (.ref x_5) (.type "ValueError") = some true)
    (ytyC_5 : PySem.W.typeIn K (.ref x_5) = some (.type "type"))
    (yhdC_5 : PySem.W.hasDictIn K x_5 = true)
    (yte_5 : PySem.W.exmOne K (.ref x_5) (.ref x_b) = some true)
    (yinD_5 : PySem.W.mroIn K x_5 (.ref x_b) = some true)
    (yca_5 : PySem.W.findIn K (.ref x_5) "__class__" = some (some (.builtin "object.__class__")))
    (yhm_5 : PySem.W.mroIn K x_5 (.type "object") = some true)
    (yei_5 : PySem.W.excInitIn K x_5 [.type "ValueError", .type "Exception", .type "BaseException", .type "object"] "ValueError.__new__" = true)
    (ysi_5 : PySem.W.ks_superIn K x_5 x_b "__init__" = some (some (.builtin "ValueError.__init__")))
    (kk_0_0 : PySem.W.kitOne K (.ref x_0) (.ref x_0) = some true)
    (kk_0_1 : PySem.W.kitOne K (.ref x_0) (.ref x_1) = some false)
    (kk_0_2 : PySem.W.kitOne K (.ref x_0) (.ref x_2) = some false)
    (kk_0_3 : PySem.W.kitOne K (.ref x_0) (.ref x_3) = some false)
    (kk_0_4 : PySem.W.kitOne K (.ref x_0) (.ref x_4) = some false)
    (kk_0_5 : PySem.W.kitOne K (.ref x_0) (.ref x_5) = some false)
    (kk_1_0 : PySem.W.kitOne K (.ref x_1) (.ref x_0) = some false)
    (kk_1_1 : PySem.W.kitOne K (.ref x_1) (.ref x_1) = some true)
    (kk_1_2 : PySem.W.kitOne K (.ref x_1) (.ref x_2) = some false)
    (kk_1_3 : PySem.W.kitOne K (.ref x_1) (.ref x_3) = some false)
    (kk_1_4 : PySem.W.kitOne K (.ref x_1) (.ref x_4) = some false)
    (kk_1_5 : PySem.W.kitOne K (.ref x_1) (.ref x_5) = some false)
    (kk_2_0 : PySem.W.kitOne K (.ref x_2) (.ref x_0) = some false)
    (kk_2_1 : PySem.W.kitOne K (.ref x_2) (.ref x_1) = some false)
    (kk_2_2 : PySem.W.kitOne K (.ref x_2) (.ref x_2) = some true)
    (kk_2_3 : PySem.W.kitOne K (.ref x_2) (.ref x_3) = some false)
    (kk_2_4 : PySem.W.kitOne K (.ref x_2) (.ref x_4) = some false)
    (kk_2_5 : PySem.W.kitOne K (.ref x_2) (.ref x_5) = some false)
    (kk_3_0 : PySem.W.kitOne K (.ref x_3) (.ref x_0) = some false)
    (kk_3_1 : PySem.W.kitOne K (.ref x_3) (.ref x_1) = some false)
    (kk_3_2 : PySem.W.kitOne K (.ref x_3) (.ref x_2) = some false)
    (kk_3_3 : PySem.W.kitOne K (.ref x_3) (.ref x_3) = some true)
    (kk_3_4 : PySem.W.kitOne K (.ref x_3) (.ref x_4) = some false)
    (kk_3_5 : PySem.W.kitOne K (.ref x_3) (.ref x_5) = some false)
    (kk_4_0 : PySem.W.kitOne K (.ref x_4) (.ref x_0) = some false)
    (kk_4_1 : PySem.W.kitOne K (.ref x_4) (.ref x_1) = some false)
    (kk_4_2 : PySem.W.kitOne K (.ref x_4) (.ref x_2) = some false)
    (kk_4_3 : PySem.W.kitOne K (.ref x_4) (.ref x_3) = some false)
    (kk_4_4 : PySem.W.kitOne K (.ref x_4) (.ref x_4) = some true)
    (kk_4_5 : PySem.W.kitOne K (.ref x_4) (.ref x_5) = some false)
    (kk_5_0 : PySem.W.kitOne K (.ref x_5) (.ref x_0) = some false)
    (kk_5_1 : PySem.W.kitOne K (.ref x_5) (.ref x_1) = some false)
    (kk_5_2 : PySem.W.kitOne K (.ref x_5) (.ref x_2) = some false)
    (kk_5_3 : PySem.W.kitOne K (.ref x_5) (.ref x_3) = some false)
    (kk_5_4 : PySem.W.kitOne K (.ref x_5) (.ref x_4) = some false)
    (kk_5_5 : PySem.W.kitOne K (.ref x_5) (.ref x_5) = some true)
    (z_abs : PySem.W.nsIn K mainGlobals "abs" = some none)
    (z_all : PySem.W.nsIn K mainGlobals "all" = some none)
    (z_enumerate : PySem.W.nsIn K mainGlobals "enumerate" = some none)
    (z_int : PySem.W.nsIn K mainGlobals "int" = some none)
    (z_isinstance : PySem.W.nsIn K mainGlobals "isinstance" = some none)
    (z_len : PySem.W.nsIn K mainGlobals "len" = some none)
    (z_list : PySem.W.nsIn K mainGlobals "list" = some none)
    (z_min : PySem.W.nsIn K mainGlobals "min" = some none)
    (z_range : PySem.W.nsIn K mainGlobals "range" = some none)
    (z_repr : PySem.W.nsIn K mainGlobals "repr" = some none)
    (z_super : PySem.W.nsIn K mainGlobals "super" = some none)
    (z_tuple : PySem.W.nsIn K mainGlobals "tuple" = some none)
    (q_FREE : PySem.W.nsIn K mainGlobals "FREE" = some (some (.str "." t_FREE)))
    (q_MOST_CHASERS : PySem.W.nsIn K mainGlobals "MOST_CHASERS" = some (some (.int 2 t_MOST_CHASERS)))
    (q_MOST_FREE : PySem.W.nsIn K mainGlobals "MOST_FREE" = some (some (.int 16 t_MOST_FREE)))
    (q_MOST_MOVES : PySem.W.nsIn K mainGlobals "MOST_MOVES" = some (some (.int 100 t_MOST_MOVES)))
    (q_MOST_SIDE : PySem.W.nsIn K mainGlobals "MOST_SIDE" = some (some (.int 8 t_MOST_SIDE)))
    (q_MOVES_grids : PySem.W.nsIn K mainGlobals "MOVES_grids" = some (some (Value.ref a_MOVES_grids_1)))
    (l_MOVES_grids_1 : K.lookup a_MOVES_grids_1 = some ⟨.type "dict", none, .dict #[⟨h_MOVES_grids_1_0, Value.str "u" t_MOVES_grids_2, Value.ref a_MOVES_grids_3⟩, ⟨h_MOVES_grids_1_1, Value.str "d" t_MOVES_grids_6, Value.ref a_MOVES_grids_7⟩, ⟨h_MOVES_grids_1_2, Value.str "l" t_MOVES_grids_10, Value.ref a_MOVES_grids_11⟩, ⟨h_MOVES_grids_1_3, Value.str "r" t_MOVES_grids_14, Value.ref a_MOVES_grids_15⟩] n_MOVES_grids_1, #[]⟩)
    (l_MOVES_grids_3 : K.lookup a_MOVES_grids_3 = some ⟨.type "tuple", d_MOVES_grids_3, .seq #[Value.int (-1) t_MOVES_grids_4, Value.int 0 t_MOVES_grids_5] n_MOVES_grids_3, s_MOVES_grids_3⟩)
    (l_MOVES_grids_7 : K.lookup a_MOVES_grids_7 = some ⟨.type "tuple", d_MOVES_grids_7, .seq #[Value.int 1 t_MOVES_grids_8, Value.int 0 t_MOVES_grids_9] n_MOVES_grids_7, s_MOVES_grids_7⟩)
    (l_MOVES_grids_11 : K.lookup a_MOVES_grids_11 = some ⟨.type "tuple", d_MOVES_grids_11, .seq #[Value.int 0 t_MOVES_grids_12, Value.int (-1) t_MOVES_grids_13] n_MOVES_grids_11, s_MOVES_grids_11⟩)
    (l_MOVES_grids_15 : K.lookup a_MOVES_grids_15 = some ⟨.type "tuple", d_MOVES_grids_15, .seq #[Value.int 0 t_MOVES_grids_16, Value.int 1 t_MOVES_grids_17] n_MOVES_grids_15, s_MOVES_grids_15⟩)
    (m_MOVES_grids_1 : (a_MOVES_grids_1 == sysModules) = false)
    (q_h_MOVES_grids_1_3 : h_MOVES_grids_1_3 = hashD w (.str (tx [114])))
    (q_h_MOVES_grids_1_2 : h_MOVES_grids_1_2 = hashD w (.str (tx [108])))
    (q_h_MOVES_grids_1_1 : h_MOVES_grids_1_1 = hashD w (.str (tx [100])))
    (q_h_MOVES_grids_1_0 : h_MOVES_grids_1_0 = hashD w (.str (tx [117])))
    (q_MOVES_ticks : PySem.W.nsIn K mainGlobals "MOVES_ticks" = some (some (.str "dlrsu" t_MOVES_ticks)))
    (q_RULES : PySem.W.nsIn K mainGlobals "RULES" = some (some (Value.ref a_RULES_1)))
    (l_RULES_1 : K.lookup a_RULES_1 = some ⟨.type "tuple", d_RULES_1, .seq #[Value.str "near" t_RULES_2, Value.str "row" t_RULES_3, Value.str "wait" t_RULES_4] n_RULES_1, s_RULES_1⟩)
    (q_SIGNS : PySem.W.nsIn K mainGlobals "SIGNS" = some (some (.str "#." t_SIGNS)))
    (q_STAY : PySem.W.nsIn K mainGlobals "STAY" = some (some (.str "s" t_STAY)))
    (a_check_grid : PySem.W.nsIn K mainGlobals "check_grid" = some (some (.ref f0)))
    (l_0 : K.lookup f0 = some ⟨oc0, od0, .func (PySem.W.fnOf "check_grid" "check_grid" (defArgs st_check_grid) (defBody st_check_grid) (defScope st_check_grid) .none kV0 dc0 pm0 an0 cd0 ct0), sl0⟩)
    (c_0 : PySem.W.codeIn K cd0 "check_grid" = true)
    (k_0 : PySem.W.keepIn K (.ref f0) = true)
    (a_cells_of : PySem.W.nsIn K mainGlobals "cells_of" = some (some (.ref f1)))
    (l_1 : K.lookup f1 = some ⟨oc1, od1, .func (PySem.W.fnOf "cells_of" "cells_of" (defArgs st_cells_of) (defBody st_cells_of) (defScope st_cells_of) .none kV1 dc1 pm1 an1 cd1 ct1), sl1⟩)
    (c_1 : PySem.W.codeIn K cd1 "cells_of" = true)
    (k_1 : PySem.W.keepIn K (.ref f1) = true)
    (a_is_cell : PySem.W.nsIn K mainGlobals "is_cell" = some (some (.ref f2)))
    (l_2 : K.lookup f2 = some ⟨oc2, od2, .func (PySem.W.fnOf "is_cell" "is_cell" (defArgs st_is_cell) (defBody st_is_cell) (defScope st_is_cell) .none kV2 dc2 pm2 an2 cd2 ct2), sl2⟩)
    (c_2 : PySem.W.codeIn K cd2 "is_cell" = true)
    (k_2 : PySem.W.keepIn K (.ref f2) = true)
    (a_sign_at : PySem.W.nsIn K mainGlobals "sign_at" = some (some (.ref f3)))
    (l_3 : K.lookup f3 = some ⟨oc3, od3, .func (PySem.W.fnOf "sign_at" "sign_at" (defArgs st_sign_at) (defBody st_sign_at) (defScope st_sign_at) .none kV3 dc3 pm3 an3 cd3 ct3), sl3⟩)
    (c_3 : PySem.W.codeIn K cd3 "sign_at" = true)
    (k_3 : PySem.W.keepIn K (.ref f3) = true)
    (a_moved : PySem.W.nsIn K mainGlobals "moved" = some (some (.ref f4)))
    (l_4 : K.lookup f4 = some ⟨oc4, od4, .func (PySem.W.fnOf "moved" "moved" (defArgs st_moved) (defBody st_moved) (defScope st_moved) .none kV4 dc4 pm4 an4 cd4 ct4), sl4⟩)
    (c_4 : PySem.W.codeIn K cd4 "moved" = true)
    (k_4 : PySem.W.keepIn K (.ref f4) = true)
    (a_gap : PySem.W.nsIn K mainGlobals "gap" = some (some (.ref f5)))
    (l_5 : K.lookup f5 = some ⟨oc5, od5, .func (PySem.W.fnOf "gap" "gap" (defArgs st_gap) (defBody st_gap) (defScope st_gap) .none kV5 dc5 pm5 an5 cd5 ct5), sl5⟩)
    (c_5 : PySem.W.codeIn K cd5 "gap" = true)
    (k_5 : PySem.W.keepIn K (.ref f5) = true)
    (a_key_of : PySem.W.nsIn K mainGlobals "key_of" = some (some (.ref f6)))
    (l_6 : K.lookup f6 = some ⟨oc6, od6, .func (PySem.W.fnOf "key_of" "key_of" (defArgs st_key_of) (defBody st_key_of) (defScope st_key_of) .none kV6 dc6 pm6 an6 cd6 ct6), sl6⟩)
    (c_6 : PySem.W.codeIn K cd6 "key_of" = true)
    (k_6 : PySem.W.keepIn K (.ref f6) = true)
    (a_lengths_of : PySem.W.nsIn K mainGlobals "lengths_of" = some (some (.ref f7)))
    (l_7 : K.lookup f7 = some ⟨oc7, od7, .func (PySem.W.fnOf "lengths_of" "lengths_of" (defArgs st_lengths_of) (defBody st_lengths_of) (defScope st_lengths_of) .none kV7 dc7 pm7 an7 cd7 ct7), sl7⟩)
    (c_7 : PySem.W.codeIn K cd7 "lengths_of" = true)
    (k_7 : PySem.W.keepIn K (.ref f7) = true)
    (a__law_draws : PySem.W.nsIn K mainGlobals "_law_draws" = some (some (.ref f8)))
    (l_8 : K.lookup f8 = some ⟨oc8, od8, .func (PySem.W.fnOf "_law_draws" "_law_draws" (defArgs st__law_draws) (defBody st__law_draws) (defScope st__law_draws) .none kV8 dc8 pm8 an8 cd8 ct8), sl8⟩)
    (c_8 : PySem.W.codeIn K cd8 "_law_draws" = true)
    (k_8 : PySem.W.keepIn K (.ref f8) = true)
    (a__law_mix : PySem.W.nsIn K mainGlobals "_law_mix" = some (some (.ref f9)))
    (l_9 : K.lookup f9 = some ⟨oc9, od9, .func (PySem.W.fnOf "_law_mix" "_law_mix" (defArgs st__law_mix) (defBody st__law_mix) (defScope st__law_mix) .none kV9 dc9 pm9 an9 cd9 ct9), sl9⟩)
    (c_9 : PySem.W.codeIn K cd9 "_law_mix" = true)
    (k_9 : PySem.W.keepIn K (.ref f9) = true)
    (a__law_name : PySem.W.nsIn K mainGlobals "_law_name" = some (some (.ref f10)))
    (l_10 : K.lookup f10 = some ⟨oc10, od10, .func (PySem.W.fnOf "_law_name" "_law_name" (defArgs st__law_name) (defBody st__law_name) (defScope st__law_name) .none kV10 dc10 pm10 an10 cd10 ct10), sl10⟩)
    (c_10 : PySem.W.codeIn K cd10 "_law_name" = true)
    (k_10 : PySem.W.keepIn K (.ref f10) = true)
    (a_beside : PySem.W.nsIn K mainGlobals "beside" = some (some (.ref f11)))
    (l_11 : K.lookup f11 = some ⟨oc11, od11, .func (PySem.W.fnOf "beside" "beside" (defArgs st_beside) (defBody st_beside) (defScope st_beside) .none kV11 dc11 pm11 an11 cd11 ct11), sl11⟩)
    (c_11 : PySem.W.codeIn K cd11 "beside" = true)
    (k_11 : PySem.W.keepIn K (.ref f11) = true)
    (a_free_of : PySem.W.nsIn K mainGlobals "free_of" = some (some (.ref f12)))
    (l_12 : K.lookup f12 = some ⟨oc12, od12, .func (PySem.W.fnOf "free_of" "free_of" (defArgs st_free_of) (defBody st_free_of) (defScope st_free_of) .none kV12 dc12 pm12 an12 cd12 ct12), sl12⟩)
    (c_12 : PySem.W.codeIn K cd12 "free_of" = true)
    (k_12 : PySem.W.keepIn K (.ref f12) = true)
    (a_is_free : PySem.W.nsIn K mainGlobals "is_free" = some (some (.ref f13)))
    (l_13 : K.lookup f13 = some ⟨oc13, od13, .func (PySem.W.fnOf "is_free" "is_free" (defArgs st_is_free) (defBody st_is_free) (defScope st_is_free) .none kV13 dc13 pm13 an13 cd13 ct13), sl13⟩)
    (c_13 : PySem.W.codeIn K cd13 "is_free" = true)
    (k_13 : PySem.W.keepIn K (.ref f13) = true)
    (a_check_maze : PySem.W.nsIn K mainGlobals "check_maze" = some (some (.ref f14)))
    (l_14 : K.lookup f14 = some ⟨oc14, od14, .func (PySem.W.fnOf "check_maze" "check_maze" (defArgs st_check_maze) (defBody st_check_maze) (defScope st_check_maze) .none kV14 dc14 pm14 an14 cd14 ct14), sl14⟩)
    (c_14 : PySem.W.codeIn K cd14 "check_maze" = true)
    (k_14 : PySem.W.keepIn K (.ref f14) = true)
    (a_far_from : PySem.W.nsIn K mainGlobals "far_from" = some (some (.ref f15)))
    (l_15 : K.lookup f15 = some ⟨oc15, od15, .func (PySem.W.fnOf "far_from" "far_from" (defArgs st_far_from) (defBody st_far_from) (defScope st_far_from) .none kV15 dc15 pm15 an15 cd15 ct15), sl15⟩)
    (c_15 : PySem.W.codeIn K cd15 "far_from" = true)
    (k_15 : PySem.W.keepIn K (.ref f15) = true)
    (a_ran : PySem.W.nsIn K mainGlobals "ran" = some (some (.ref f16)))
    (l_16 : K.lookup f16 = some ⟨oc16, od16, .func (PySem.W.fnOf "ran" "ran" (defArgs st_ran) (defBody st_ran) (defScope st_ran) .none kV16 dc16 pm16 an16 cd16 ct16), sl16⟩)
    (c_16 : PySem.W.codeIn K cd16 "ran" = true)
    (k_16 : PySem.W.keepIn K (.ref f16) = true)
    (a_check_rules : PySem.W.nsIn K mainGlobals "check_rules" = some (some (.ref f17)))
    (l_17 : K.lookup f17 = some ⟨oc17, od17, .func (PySem.W.fnOf "check_rules" "check_rules" (defArgs st_check_rules) (defBody st_check_rules) (defScope st_check_rules) .none kV17 dc17 pm17 an17 cd17 ct17), sl17⟩)
    (c_17 : PySem.W.codeIn K cd17 "check_rules" = true)
    (k_17 : PySem.W.keepIn K (.ref f17) = true)
    (a_steps_to : PySem.W.nsIn K mainGlobals "steps_to" = some (some (.ref f18)))
    (l_18 : K.lookup f18 = some ⟨oc18, od18, .func (PySem.W.fnOf "steps_to" "steps_to" (defArgs st_steps_to) (defBody st_steps_to) (defScope st_steps_to) .none kV18 dc18 pm18 an18 cd18 ct18), sl18⟩)
    (c_18 : PySem.W.codeIn K cd18 "steps_to" = true)
    (k_18 : PySem.W.keepIn K (.ref f18) = true)
    (a_chased : PySem.W.nsIn K mainGlobals "chased" = some (some (.ref f19)))
    (l_19 : K.lookup f19 = some ⟨oc19, od19, .func (PySem.W.fnOf "chased" "chased" (defArgs st_chased) (defBody st_chased) (defScope st_chased) .none kV19 dc19 pm19 an19 cd19 ct19), sl19⟩)
    (c_19 : PySem.W.codeIn K cd19 "chased" = true)
    (k_19 : PySem.W.keepIn K (.ref f19) = true)
    (a_check_state : PySem.W.nsIn K mainGlobals "check_state" = some (some (.ref f20)))
    (l_20 : K.lookup f20 = some ⟨oc20, od20, .func (PySem.W.fnOf "check_state" "check_state" (defArgs st_check_state) (defBody st_check_state) (defScope st_check_state) .none kV20 dc20 pm20 an20 cd20 ct20), sl20⟩)
    (c_20 : PySem.W.codeIn K cd20 "check_state" = true)
    (k_20 : PySem.W.keepIn K (.ref f20) = true)
    (a_tick_of : PySem.W.nsIn K mainGlobals "tick_of" = some (some (.ref f21)))
    (l_21 : K.lookup f21 = some ⟨oc21, od21, .func (PySem.W.fnOf "tick_of" "tick_of" (defArgs st_tick_of) (defBody st_tick_of) (defScope st_tick_of) .none kV21 dc21 pm21 an21 cd21 ct21), sl21⟩)
    (c_21 : PySem.W.codeIn K cd21 "tick_of" = true)
    (k_21 : PySem.W.keepIn K (.ref f21) = true)
    (a_tick : PySem.W.nsIn K mainGlobals "tick" = some (some (.ref f22)))
    (l_22 : K.lookup f22 = some ⟨oc22, od22, .func (PySem.W.fnOf "tick" "tick" (defArgs st_tick) (defBody st_tick) (defScope st_tick) .none kV22 dc22 pm22 an22 cd22 ct22), sl22⟩)
    (c_22 : PySem.W.codeIn K cd22 "tick" = true)
    (k_22 : PySem.W.keepIn K (.ref f22) = true)
    (a_run : PySem.W.nsIn K mainGlobals "run" = some (some (.ref f23)))
    (l_23 : K.lookup f23 = some ⟨oc23, od23, .func (PySem.W.fnOf "run" "run" (defArgs st_run) (defBody st_run) (defScope st_run) .none kV23 dc23 pm23 an23 cd23 ct23), sl23⟩)
    (c_23 : PySem.W.codeIn K cd23 "run" = true)
    (k_23 : PySem.W.keepIn K (.ref f23) = true)
    (a_nexts_of : PySem.W.nsIn K mainGlobals "nexts_of" = some (some (.ref f24)))
    (l_24 : K.lookup f24 = some ⟨oc24, od24, .func (PySem.W.fnOf "nexts_of" "nexts_of" (defArgs st_nexts_of) (defBody st_nexts_of) (defScope st_nexts_of) .none kV24 dc24 pm24 an24 cd24 ct24), sl24⟩)
    (c_24 : PySem.W.codeIn K cd24 "nexts_of" = true)
    (k_24 : PySem.W.keepIn K (.ref f24) = true)
    (a_map_of : PySem.W.nsIn K mainGlobals "map_of" = some (some (.ref f25)))
    (l_25 : K.lookup f25 = some ⟨oc25, od25, .func (PySem.W.fnOf "map_of" "map_of" (defArgs st_map_of) (defBody st_map_of) (defScope st_map_of) .none kV25 dc25 pm25 an25 cd25 ct25), sl25⟩)
    (c_25 : PySem.W.codeIn K cd25 "map_of" = true)
    (k_25 : PySem.W.keepIn K (.ref f25) = true)
    (a_told_of : PySem.W.nsIn K mainGlobals "told_of" = some (some (.ref f26)))
    (l_26 : K.lookup f26 = some ⟨oc26, od26, .func (PySem.W.fnOf "told_of" "told_of" (defArgs st_told_of) (defBody st_told_of) (defScope st_told_of) .none kV26 dc26 pm26 an26 cd26 ct26), sl26⟩)
    (c_26 : PySem.W.codeIn K cd26 "told_of" = true)
    (k_26 : PySem.W.keepIn K (.ref f26) = true)
    (a_safe_cells : PySem.W.nsIn K mainGlobals "safe_cells" = some (some (.ref f27)))
    (l_27 : K.lookup f27 = some ⟨oc27, od27, .func (PySem.W.fnOf "safe_cells" "safe_cells" (defArgs st_safe_cells) (defBody st_safe_cells) (defScope st_safe_cells) .none kV27 dc27 pm27 an27 cd27 ct27), sl27⟩)
    (c_27 : PySem.W.codeIn K cd27 "safe_cells" = true)
    (k_27 : PySem.W.keepIn K (.ref f27) = true)
    (a_is_safe : PySem.W.nsIn K mainGlobals "is_safe" = some (some (.ref f28)))
    (l_28 : K.lookup f28 = some ⟨oc28, od28, .func (PySem.W.fnOf "is_safe" "is_safe" (defArgs st_is_safe) (defBody st_is_safe) (defScope st_is_safe) .none kV28 dc28 pm28 an28 cd28 ct28), sl28⟩)
    (c_28 : PySem.W.codeIn K cd28 "is_safe" = true)
    (k_28 : PySem.W.keepIn K (.ref f28) = true)
    (a_safe_move : PySem.W.nsIn K mainGlobals "safe_move" = some (some (.ref f29)))
    (l_29 : K.lookup f29 = some ⟨oc29, od29, .func (PySem.W.fnOf "safe_move" "safe_move" (defArgs st_safe_move) (defBody st_safe_move) (defScope st_safe_move) .none kV29 dc29 pm29 an29 cd29 ct29), sl29⟩)
    (c_29 : PySem.W.codeIn K cd29 "safe_move" = true)
    (k_29 : PySem.W.keepIn K (.ref f29) = true)
    (a_longest : PySem.W.nsIn K mainGlobals "longest" = some (some (.ref f30)))
    (l_30 : K.lookup f30 = some ⟨oc30, od30, .func (PySem.W.fnOf "longest" "longest" (defArgs st_longest) (defBody st_longest) (defScope st_longest) .none kV30 dc30 pm30 an30 cd30 ct30), sl30⟩)
    (c_30 : PySem.W.codeIn K cd30 "longest" = true)
    (k_30 : PySem.W.keepIn K (.ref f30) = true)
    (a__law_of : PySem.W.nsIn K mainGlobals "_law_of" = some (some (.ref f31)))
    (l_31 : K.lookup f31 = some ⟨oc31, od31, .func (PySem.W.fnOf "_law_of" "_law_of" (defArgs st__law_of) (defBody st__law_of) (defScope st__law_of) .none kV31 dc31 pm31 an31 cd31 ct31), sl31⟩)
    (c_31 : PySem.W.codeIn K cd31 "_law_of" = true)
    (k_31 : PySem.W.keepIn K (.ref f31) = true)
    (a_law : PySem.W.nsIn K mainGlobals "law" = some (some (.ref f32)))
    (l_32 : K.lookup f32 = some ⟨oc32, od32, .func (PySem.W.fnOf "law" "law" (defArgs st_law) (defBody st_law) (defScope st_law) .none kV32 dc32 pm32 an32 cd32 ct32), sl32⟩)
    (c_32 : PySem.W.codeIn K cd32 "law" = true)
    (k_32 : PySem.W.keepIn K (.ref f32) = true) :
    ∃ fd : FuncData, ∀ base : Heap, K.In base → base.Ns mainGlobals mg → TopOk l.prog w K mg base fa fd "script" f_law := by
  have e := hfa.symm.trans (PySem.W.mg_of X G a_law)
  cases e
  have F0 := fun_mk (st := st_check_grid) l_0 c_0 k_0
  have F1 := fun_mk (st := st_cells_of) l_1 c_1 k_1
  have F2 := fun_mk (st := st_is_cell) l_2 c_2 k_2
  have F3 := fun_mk (st := st_sign_at) l_3 c_3 k_3
  have F4 := fun_mk (st := st_moved) l_4 c_4 k_4
  have F5 := fun_mk (st := st_gap) l_5 c_5 k_5
  have F6 := fun_mk (st := st_key_of) l_6 c_6 k_6
  have F7 := fun_mk (st := st_lengths_of) l_7 c_7 k_7
  have F8 := fun_mk (st := st__law_draws) l_8 c_8 k_8
  have F9 := fun_mk (st := st__law_mix) l_9 c_9 k_9
  have F10 := fun_mk (st := st__law_name) l_10 c_10 k_10
  have F11 := fun_mk (st := st_beside) l_11 c_11 k_11
  have F12 := fun_mk (st := st_free_of) l_12 c_12 k_12
  have F13 := fun_mk (st := st_is_free) l_13 c_13 k_13
  have F14 := fun_mk (st := st_check_maze) l_14 c_14 k_14
  have F15 := fun_mk (st := st_far_from) l_15 c_15 k_15
  have F16 := fun_mk (st := st_ran) l_16 c_16 k_16
  have F17 := fun_mk (st := st_check_rules) l_17 c_17 k_17
  have F18 := fun_mk (st := st_steps_to) l_18 c_18 k_18
  have F19 := fun_mk (st := st_chased) l_19 c_19 k_19
  have F20 := fun_mk (st := st_check_state) l_20 c_20 k_20
  have F21 := fun_mk (st := st_tick_of) l_21 c_21 k_21
  have F22 := fun_mk (st := st_tick) l_22 c_22 k_22
  have F23 := fun_mk (st := st_run) l_23 c_23 k_23
  have F24 := fun_mk (st := st_nexts_of) l_24 c_24 k_24
  have F25 := fun_mk (st := st_map_of) l_25 c_25 k_25
  have F26 := fun_mk (st := st_told_of) l_26 c_26 k_26
  have F27 := fun_mk (st := st_safe_cells) l_27 c_27 k_27
  have F28 := fun_mk (st := st_is_safe) l_28 c_28 k_28
  have F29 := fun_mk (st := st_safe_move) l_29 c_29 k_29
  have F30 := fun_mk (st := st_longest) l_30 c_30 k_30
  have F31 := fun_mk (st := st__law_of) l_31 c_31 k_31
  have F32 := fun_mk (st := st_law) l_32 c_32 k_32
  let cl : Nat → Addr := fun n => match n with | 0 => x_0 | 1 => x_1 | 2 => x_2 | 3 => x_3 | 4 => x_4 | 5 => x_5 | _ => 0
  have Y0 : PySem.PlayX.PlayTxt K x_0 x_b x_i := { cls := ⟨_, _, _, _, _, _, _, _, _, _, _, _, _, _, _, lx_0, by first | rfl | decide +kernel⟩, sa := ysa_0, ga := yga_0, gg := ygg_0, noN := ynoN_0, iC := yiC_0, kC := ykC_0, exC := yexC_0, veC := yveC_0, tyC := ytyC_0, hdC := yhdC_0, te := yte_0, inD := yinD_0, ca := yca_0, hm := yhm_0, ei := yei_0, si := ysi_0 }
  have Y1 : PySem.PlayX.PlayTxt K x_1 x_b x_i := { cls := ⟨_, _, _, _, _, _, _, _, _, _, _, _, _, _, _, lx_1, by first | rfl | decide +kernel⟩, sa := ysa_1, ga := yga_1, gg := ygg_1, noN := ynoN_1, iC := yiC_1, kC := ykC_1, exC := yexC_1, veC := yveC_1, tyC := ytyC_1, hdC := yhdC_1, te := yte_1, inD := yinD_1, ca := yca_1, hm := yhm_1, ei := yei_1, si := ysi_1 }
  have Y2 : PySem.PlayX.PlayTxt K x_2 x_b x_i := { cls := ⟨_, _, _, _, _, _, _, _, _, _, _, _, _, _, _, lx_2, by first | rfl | decide +kernel⟩, sa := ysa_2, ga := yga_2, gg := ygg_2, noN := ynoN_2, iC := yiC_2, kC := ykC_2, exC := yexC_2, veC := yveC_2, tyC := ytyC_2, hdC := yhdC_2, te := yte_2, inD := yinD_2, ca := yca_2, hm := yhm_2, ei := yei_2, si := ysi_2 }
  have Y3 : PySem.PlayX.PlayTxt K x_3 x_b x_i := { cls := ⟨_, _, _, _, _, _, _, _, _, _, _, _, _, _, _, lx_3, by first | rfl | decide +kernel⟩, sa := ysa_3, ga := yga_3, gg := ygg_3, noN := ynoN_3, iC := yiC_3, kC := ykC_3, exC := yexC_3, veC := yveC_3, tyC := ytyC_3, hdC := yhdC_3, te := yte_3, inD := yinD_3, ca := yca_3, hm := yhm_3, ei := yei_3, si := ysi_3 }
  have Y4 : PySem.PlayX.PlayTxt K x_4 x_b x_i := { cls := ⟨_, _, _, _, _, _, _, _, _, _, _, _, _, _, _, lx_4, by first | rfl | decide +kernel⟩, sa := ysa_4, ga := yga_4, gg := ygg_4, noN := ynoN_4, iC := yiC_4, kC := ykC_4, exC := yexC_4, veC := yveC_4, tyC := ytyC_4, hdC := yhdC_4, te := yte_4, inD := yinD_4, ca := yca_4, hm := yhm_4, ei := yei_4, si := ysi_4 }
  have Y5 : PySem.PlayX.PlayTxt K x_5 x_b x_i := { cls := ⟨_, _, _, _, _, _, _, _, _, _, _, _, _, _, _, lx_5, by first | rfl | decide +kernel⟩, sa := ysa_5, ga := yga_5, gg := ygg_5, noN := ynoN_5, iC := yiC_5, kC := ykC_5, exC := yexC_5, veC := yveC_5, tyC := ytyC_5, hdC := yhdC_5, te := yte_5, inD := yinD_5, ca := yca_5, hm := yhm_5, ei := yei_5, si := ysi_5 }
  have B : PySem.PlayX.PlayBase l.prog K x_b x_i := { tC := tCi, clD := ⟨_, by unfold PySem.W.clsIn; rw [lx_b] <;> rfl⟩, any := xany, sup := z_super, hn := xhn, ht := xht, top := xtop, fn := ⟨_, _, _, _, _, _, _, _, _, _, _, _, _, _, _, _, _, _, _, _, _, _, li, ci, lcc, lcd, vs2, vfile, by first | exact .inl ⟨rfl, rfl⟩ | exact .inr ⟨rfl, rfl⟩⟩ }
  have T : Fx l.prog w K mg cl x_b x_i := {
    xb := B
    xt := fun c h => match c, h with | 0, _ => Y0 | 1, _ => Y1 | 2, _ => Y2 | 3, _ => Y3 | 4, _ => Y4 | 5, _ => Y5
    xk := fun c j h1 h2 => match c, j, h1, h2 with | 0, 0, _, _ => kk_0_0 | 0, 1, _, _ => kk_0_1 | 0, 2, _, _ => kk_0_2 | 0, 3, _, _ => kk_0_3 | 0, 4, _, _ => kk_0_4 | 0, 5, _, _ => kk_0_5 | 1, 0, _, _ => kk_1_0 | 1, 1, _, _ => kk_1_1 | 1, 2, _, _ => kk_1_2 | 1, 3, _, _ => kk_1_3 | 1, 4, _, _ => kk_1_4 | 1, 5, _, _ => kk_1_5 | 2, 0, _, _ => kk_2_0 | 2, 1, _, _ => kk_2_1 | 2, 2, _, _ => kk_2_2 | 2, 3, _, _ => kk_2_3 | 2, 4, _, _ => kk_2_4 | 2, 5, _, _ => kk_2_5 | 3, 0, _, _ => kk_3_0 | 3, 1, _, _ => kk_3_1 | 3, 2, _, _ => kk_3_2 | 3, 3, _, _ => kk_3_3 | 3, 4, _, _ => kk_3_4 | 3, 5, _, _ => kk_3_5 | 4, 0, _, _ => kk_4_0 | 4, 1, _, _ => kk_4_1 | 4, 2, _, _ => kk_4_2 | 4, 3, _, _ => kk_4_3 | 4, 4, _, _ => kk_4_4 | 4, 5, _, _ => kk_4_5 | 5, 0, _, _ => kk_5_0 | 5, 1, _, _ => kk_5_1 | 5, 2, _, _ => kk_5_2 | 5, 3, _, _ => kk_5_3 | 5, 4, _, _ => kk_5_4 | 5, 5, _, _ => kk_5_5
    m_PlayError := PySem.W.mg_of X G nx_b
    m_TooMany := PySem.W.mg_of X G nx_0
    m_WrongSize := PySem.W.mg_of X G nx_1
    m_BadRow := PySem.W.mg_of X G nx_2
    m_BadMove := PySem.W.mg_of X G nx_3
    m_BadRule := PySem.W.mg_of X G nx_4
    m_BadState := PySem.W.mg_of X G nx_5
    b_abs := PySem.W.mg_none_of X G z_abs
    b_all := PySem.W.mg_none_of X G z_all
    b_enumerate := PySem.W.mg_none_of X G z_enumerate
    b_int := PySem.W.mg_none_of X G z_int
    b_isinstance := PySem.W.mg_none_of X G z_isinstance
    b_len := PySem.W.mg_none_of X G z_len
    b_list := PySem.W.mg_none_of X G z_list
    b_min := PySem.W.mg_none_of X G z_min
    b_range := PySem.W.mg_none_of X G z_range
    b_repr := PySem.W.mg_none_of X G z_repr
    b_super := PySem.W.mg_none_of X G z_super
    b_tuple := PySem.W.mg_none_of X G z_tuple
    k_FREE := Kon.stx (PySem.W.mg_of X G q_FREE)
    k_MOST_CHASERS := Kon.int (PySem.W.mg_of X G q_MOST_CHASERS)
    k_MOST_FREE := Kon.int (PySem.W.mg_of X G q_MOST_FREE)
    k_MOST_MOVES := Kon.int (PySem.W.mg_of X G q_MOST_MOVES)
    k_MOST_SIDE := Kon.int (PySem.W.mg_of X G q_MOST_SIDE)
    k_MOVES_grids := Kon.of (PySem.W.mg_of X G q_MOVES_grids) ((.dct l_MOVES_grids_1 m_MOVES_grids_1 (.cons ((.stx (l := [117]))) q_h_MOVES_grids_1_0 ((.tup l_MOVES_grids_3 (Nat.le_of_ble_eq_true rfl) (.cons (.int _ _) (.cons (.int _ _) .nil)))) (.cons ((.stx (l := [100]))) q_h_MOVES_grids_1_1 ((.tup l_MOVES_grids_7 (Nat.le_of_ble_eq_true rfl) (.cons (.int _ _) (.cons (.int _ _) .nil)))) (.cons ((.stx (l := [108]))) q_h_MOVES_grids_1_2 ((.tup l_MOVES_grids_11 (Nat.le_of_ble_eq_true rfl) (.cons (.int _ _) (.cons (.int _ _) .nil)))) (.cons ((.stx (l := [114]))) q_h_MOVES_grids_1_3 ((.tup l_MOVES_grids_15 (Nat.le_of_ble_eq_true rfl) (.cons (.int _ _) (.cons (.int _ _) .nil)))) .nil)))) (kds_nd (by decide +kernel))))
    k_MOVES_ticks := Kon.stx (PySem.W.mg_of X G q_MOVES_ticks)
    k_RULES := Kon.of (PySem.W.mg_of X G q_RULES) ((.tup l_RULES_1 (Nat.le_of_ble_eq_true rfl) (.cons ((.stx (l := [110, 101, 97, 114]))) (.cons ((.stx (l := [114, 111, 119]))) (.cons ((.stx (l := [119, 97, 105, 116]))) .nil)))))
    k_SIGNS := Kon.stx (PySem.W.mg_of X G q_SIGNS)
    k_STAY := Kon.stx (PySem.W.mg_of X G q_STAY)
    g_check_grid := ⟨_, _, F0, PySem.W.mg_of X G a_check_grid, F0.binds (ps := ["grid", "signs"]) fun _ _ _ _ _ _ us hl => match us, hl with | [_, _], _ => rfl⟩
    g_cells_of := ⟨_, _, F1, PySem.W.mg_of X G a_cells_of, F1.binds (ps := ["grid"]) fun _ _ _ _ _ _ us hl => match us, hl with | [_], _ => rfl⟩
    g_is_cell := ⟨_, _, F2, PySem.W.mg_of X G a_is_cell, F2.binds (ps := ["grid", "cell"]) fun _ _ _ _ _ _ us hl => match us, hl with | [_, _], _ => rfl⟩
    g_sign_at := ⟨_, _, F3, PySem.W.mg_of X G a_sign_at, F3.binds (ps := ["grid", "cell"]) fun _ _ _ _ _ _ us hl => match us, hl with | [_, _], _ => rfl⟩
    g_moved := ⟨_, _, F4, PySem.W.mg_of X G a_moved, F4.binds (ps := ["cell", "move"]) fun _ _ _ _ _ _ us hl => match us, hl with | [_, _], _ => rfl⟩
    g_gap := ⟨_, _, F5, PySem.W.mg_of X G a_gap, F5.binds (ps := ["one", "two"]) fun _ _ _ _ _ _ us hl => match us, hl with | [_, _], _ => rfl⟩
    g_key_of := ⟨_, _, F6, PySem.W.mg_of X G a_key_of, F6.binds (ps := ["state"]) fun _ _ _ _ _ _ us hl => match us, hl with | [_], _ => rfl⟩
    g_lengths_of := ⟨_, _, F7, PySem.W.mg_of X G a_lengths_of, F7.binds (ps := ["table"]) fun _ _ _ _ _ _ us hl => match us, hl with | [_], _ => rfl⟩
    g__law_draws := ⟨_, _, F8, PySem.W.mg_of X G a__law_draws, F8.binds (ps := ["script"]) fun _ _ _ _ _ _ us hl => match us, hl with | [_], _ => rfl⟩
    g__law_mix := ⟨_, _, F9, PySem.W.mg_of X G a__law_mix, F9.binds (ps := ["draws", "k", "many"]) fun _ _ _ _ _ _ us hl => match us, hl with | [_, _, _], _ => rfl⟩
    g__law_name := ⟨_, _, F10, PySem.W.mg_of X G a__law_name, F10.binds (ps := ["e"]) fun _ _ _ _ _ _ us hl => match us, hl with | [_], _ => rfl⟩
    g_beside := ⟨_, _, F11, PySem.W.mg_of X G a_beside, F11.binds (ps := ["grid", "cell"]) fun _ _ _ _ _ _ us hl => match us, hl with | [_, _], _ => rfl⟩
    g_free_of := ⟨_, _, F12, PySem.W.mg_of X G a_free_of, F12.binds (ps := ["maze"]) fun _ _ _ _ _ _ us hl => match us, hl with | [_], _ => rfl⟩
    g_is_free := ⟨_, _, F13, PySem.W.mg_of X G a_is_free, F13.binds (ps := ["maze", "cell"]) fun _ _ _ _ _ _ us hl => match us, hl with | [_, _], _ => rfl⟩
    g_check_maze := ⟨_, _, F14, PySem.W.mg_of X G a_check_maze, F14.binds (ps := ["maze"]) fun _ _ _ _ _ _ us hl => match us, hl with | [_], _ => rfl⟩
    g_far_from := ⟨_, _, F15, PySem.W.mg_of X G a_far_from, F15.binds (ps := ["maze", "cell"]) fun _ _ _ _ _ _ us hl => match us, hl with | [_, _], _ => rfl⟩
    g_ran := ⟨_, _, F16, PySem.W.mg_of X G a_ran, F16.binds (ps := ["maze", "cell", "move"]) fun _ _ _ _ _ _ us hl => match us, hl with | [_, _, _], _ => rfl⟩
    g_check_rules := ⟨_, _, F17, PySem.W.mg_of X G a_check_rules, F17.binds (ps := ["maze", "rules"]) fun _ _ _ _ _ _ us hl => match us, hl with | [_, _], _ => rfl⟩
    g_steps_to := ⟨_, _, F18, PySem.W.mg_of X G a_steps_to, F18.binds (ps := ["maze", "one", "two"]) fun _ _ _ _ _ _ us hl => match us, hl with | [_, _, _], _ => rfl⟩
    g_chased := ⟨_, _, F19, PySem.W.mg_of X G a_chased, F19.binds (ps := ["maze", "rule", "cell", "runner"]) fun _ _ _ _ _ _ us hl => match us, hl with | [_, _, _, _], _ => rfl⟩
    g_check_state := ⟨_, _, F20, PySem.W.mg_of X G a_check_state, F20.binds (ps := ["maze", "rules", "state"]) fun _ _ _ _ _ _ us hl => match us, hl with | [_, _, _], _ => rfl⟩
    g_tick_of := ⟨_, _, F21, PySem.W.mg_of X G a_tick_of, F21.binds (ps := ["maze", "rules", "state", "move"]) fun _ _ _ _ _ _ us hl => match us, hl with | [_, _, _, _], _ => rfl⟩
    g_tick := ⟨_, _, F22, PySem.W.mg_of X G a_tick, F22.binds (ps := ["maze", "rules", "state", "move"]) fun _ _ _ _ _ _ us hl => match us, hl with | [_, _, _, _], _ => rfl⟩
    g_run := ⟨_, _, F23, PySem.W.mg_of X G a_run, F23.binds (ps := ["maze", "rules", "state", "moves"]) fun _ _ _ _ _ _ us hl => match us, hl with | [_, _, _, _], _ => rfl⟩
    g_nexts_of := ⟨_, _, F24, PySem.W.mg_of X G a_nexts_of, F24.binds (ps := ["maze", "rules", "key"]) fun _ _ _ _ _ _ us hl => match us, hl with | [_, _, _], _ => rfl⟩
    g_map_of := ⟨_, _, F25, PySem.W.mg_of X G a_map_of, F25.binds (ps := ["maze", "rules", "starts"]) fun _ _ _ _ _ _ us hl => match us, hl with | [_, _, _], _ => rfl⟩
    g_told_of := ⟨_, _, F26, PySem.W.mg_of X G a_told_of, F26.binds (ps := ["maze", "rules", "state"]) fun _ _ _ _ _ _ us hl => match us, hl with | [_, _, _], _ => rfl⟩
    g_safe_cells := ⟨_, _, F27, PySem.W.mg_of X G a_safe_cells, F27.binds (ps := ["maze", "rules", "chasers"]) fun _ _ _ _ _ _ us hl => match us, hl with | [_, _, _], _ => rfl⟩
    g_is_safe := ⟨_, _, F28, PySem.W.mg_of X G a_is_safe, F28.binds (ps := ["maze", "rules", "state"]) fun _ _ _ _ _ _ us hl => match us, hl with | [_, _, _], _ => rfl⟩
    g_safe_move := ⟨_, _, F29, PySem.W.mg_of X G a_safe_move, F29.binds (ps := ["maze", "rules", "state"]) fun _ _ _ _ _ _ us hl => match us, hl with | [_, _, _], _ => rfl⟩
    g_longest := ⟨_, _, F30, PySem.W.mg_of X G a_longest, F30.binds (ps := ["maze", "rules", "state"]) fun _ _ _ _ _ _ us hl => match us, hl with | [_, _, _], _ => rfl⟩
    g__law_of := ⟨_, _, F31, PySem.W.mg_of X G a__law_of, F31.binds (ps := ["which", "maze", "rules", "state", "moves"]) fun _ _ _ _ _ _ us hl => match us, hl with | [_, _, _, _, _], _ => rfl⟩
    g_law := ⟨_, _, F32, PySem.W.mg_of X G a_law, F32.binds (ps := ["script"]) fun _ _ _ _ _ _ us hl => match us, hl with | [_], _ => rfl⟩
  }
  exact ⟨PySem.W.fnOf "law" "law" (defArgs st_law) (defBody st_law) (defScope st_law) .none kV32 dc32 pm32 an32 cd32 ct32, fun base _ _ => o_law T F32 fun s u => .of_eq rfl⟩
end Gk51
open PySem PySem.W PyProof.Rows
set_option maxHeartbeats 0 in
theorem PySem.Challenge.cw_arcadeheld_k51_errors_of_chasers_holds : PySem.Challenge.rw_arcadeheld_k51_errors_of_chasers.Holds := by
  w_on; o_law; k_head; (case hw => w_witness2)
  k_fill
  refine Vs.walk_top (l := PySem.Challenge.rw_arcadeheld_k51_errors_of_chasers) (n := 63) (k := 0) (x := "script") (g := Gk51.f_law) rfl (by decide) rfl (fun w h Y => PySem.W.kIn_of Y) ?F (fun ns hl => Gk51.law_true ns hl)
  case F =>
    intro w mg fa h KX G hmg
    refine' Gk51.all_mk KX G hmg ?nx_b ?lx_b ?nx_0 ?lx_0 ?nx_1 ?lx_1 ?nx_2 ?lx_2 ?nx_3 ?lx_3 ?nx_4 ?lx_4 ?nx_5 ?lx_5 ?ic_0 ?li ?ci ?lcc ?lcd ?vs2 ?vfile ?tCi ?xany ?xhn ?xht ?xtop ?ysa_0 ?yga_0 ?ygg_0 ?ynoN_0 ?yiC_0 ?ykC_0 ?yexC_0 ?yveC_0 ?ytyC_0 ?yhdC_0 ?yte_0 ?yinD_0 ?yca_0 ?yhm_0 ?yei_0 ?ysi_0 ?ysa_1 ?yga_1 ?ygg_1 ?ynoN_1 ?yiC_1 ?ykC_1 ?yexC_1 ?yveC_1 ?ytyC_1 ?yhdC_1 ?yte_1 ?yinD_1 ?yca_1 ?yhm_1 ?yei_1 ?ysi_1 ?ysa_2 ?yga_2 ?ygg_2 ?ynoN_2 ?yiC_2 ?ykC_2 ?yexC_2 ?yveC_2 ?ytyC_2 ?yhdC_2 ?yte_2 ?yinD_2 ?yca_2 ?yhm_2 ?yei_2 ?ysi_2 ?ysa_3 ?yga_3 ?ygg_3 ?ynoN_3 ?yiC_3 ?ykC_3 ?yexC_3 ?yveC_3 ?ytyC_3 ?yhdC_3 ?yte_3 ?yinD_3 ?yca_3 ?yhm_3 ?yei_3 ?ysi_3 ?ysa_4 ?yga_4 ?ygg_4 ?ynoN_4 ?yiC_4 ?ykC_4 ?yexC_4 ?yveC_4 ?ytyC_4 ?yhdC_4 ?yte_4 ?yinD_4 ?yca_4 ?yhm_4 ?yei_4 ?ysi_4 ?ysa_5 ?yga_5 ?ygg_5 ?ynoN_5 ?yiC_5 ?ykC_5 ?yexC_5 ?yveC_5 ?ytyC_5 ?yhdC_5 ?yte_5 ?yinD_5 ?yca_5 ?yhm_5 ?yei_5 ?ysi_5 ?kk_0_0 ?kk_0_1 ?kk_0_2 ?kk_0_3 ?kk_0_4 ?kk_0_5 ?kk_1_0 ?kk_1_1 ?kk_1_2 ?kk_1_3 ?kk_1_4 ?kk_1_5 ?kk_2_0 ?kk_2_1 ?kk_2_2 ?kk_2_3 ?kk_2_4 ?kk_2_5 ?kk_3_0 ?kk_3_1 ?kk_3_2 ?kk_3_3 ?kk_3_4 ?kk_3_5 ?kk_4_0 ?kk_4_1 ?kk_4_2 ?kk_4_3 ?kk_4_4 ?kk_4_5 ?kk_5_0 ?kk_5_1 ?kk_5_2 ?kk_5_3 ?kk_5_4 ?kk_5_5 ?z_abs ?z_all ?z_enumerate ?z_int ?z_isinstance ?z_len ?z_list ?z_min ?z_range ?z_repr ?z_super ?z_tuple ?q_FREE ?q_MOST_CHASERS ?q_MOST_FREE ?q_MOST_MOVES ?q_MOST_SIDE ?q_MOVES_grids ?l_MOVES_grids_1 ?l_MOVES_grids_3 ?l_MOVES_grids_7 ?l_MOVES_grids_11 ?l_MOVES_grids_15 ?m_MOVES_grids_1 ?q_h_MOVES_grids_1_3 ?q_h_MOVES_grids_1_2 ?q_h_MOVES_grids_1_1 ?q_h_MOVES_grids_1_0 ?q_MOVES_ticks ?q_RULES ?l_RULES_1 ?q_SIGNS ?q_STAY ?a_check_grid ?l_0 ?c_0 ?k_0 ?a_cells_of ?l_1 ?c_1 ?k_1 ?a_is_cell ?l_2 ?c_2 ?k_2 ?a_sign_at ?l_3 ?c_3 ?k_3 ?a_moved ?l_4 ?c_4 ?k_4 ?a_gap ?l_5 ?c_5 ?k_5 ?a_key_of ?l_6 ?c_6 ?k_6 ?a_lengths_of ?l_7 ?c_7 ?k_7 ?a__law_draws ?l_8 ?c_8 ?k_8 ?a__law_mix ?l_9 ?c_9 ?k_9 ?a__law_name ?l_10 ?c_10 ?k_10 ?a_beside ?l_11 ?c_11 ?k_11 ?a_free_of ?l_12 ?c_12 ?k_12 ?a_is_free ?l_13 ?c_13 ?k_13 ?a_check_maze ?l_14 ?c_14 ?k_14 ?a_far_from ?l_15 ?c_15 ?k_15 ?a_ran ?l_16 ?c_16 ?k_16 ?a_check_rules ?l_17 ?c_17 ?k_17 ?a_steps_to ?l_18 ?c_18 ?k_18 ?a_chased ?l_19 ?c_19 ?k_19 ?a_check_state ?l_20 ?c_20 ?k_20 ?a_tick_of ?l_21 ?c_21 ?k_21 ?a_tick ?l_22 ?c_22 ?k_22 ?a_run ?l_23 ?c_23 ?k_23 ?a_nexts_of ?l_24 ?c_24 ?k_24 ?a_map_of ?l_25 ?c_25 ?k_25 ?a_told_of ?l_26 ?c_26 ?k_26 ?a_safe_cells ?l_27 ?c_27 ?k_27 ?a_is_safe ?l_28 ?c_28 ?k_28 ?a_safe_move ?l_29 ?c_29 ?k_29 ?a_longest ?l_30 ?c_30 ?k_30 ?a__law_of ?l_31 ?c_31 ?k_31 ?a_law ?l_32 ?c_32 ?k_32
    (case nx_b => k_is)
    (case lx_b => k_is)
    (case nx_0 => k_is)
    (case lx_0 => k_is)
    (case nx_1 => k_is)
    (case lx_1 => k_is)
    (case nx_2 => k_is)
    (case lx_2 => k_is)
    (case nx_3 => k_is)
    (case lx_3 => k_is)
    (case nx_4 => k_is)
    (case lx_4 => k_is)
    (case nx_5 => k_is)
    (case lx_5 => k_is)
    (case ic_0 => k_is)
    (case li => k_is)
    (case ci => k_is)
    (case lcc => k_is)
    (case lcd => k_is)
    (case vs2 => rfl)
    (case vfile => first | rfl | decide +kernel)
    (case tCi => k_is)
    (case xany => first | k_is | k_exc | rfl | decide +kernel)
    (case xhn => first | k_is | k_exc | rfl | decide +kernel)
    (case xht => first | k_is | k_exc | rfl | decide +kernel)
    (case xtop => first | rfl | decide +kernel)
    (case ysa_0 => first | k_is | k_exc | rfl | decide +kernel)
    (case yga_0 => first | k_is | k_exc | rfl | decide +kernel)
    (case ygg_0 => first | k_is | k_exc | rfl | decide +kernel)
    (case ynoN_0 => first | k_is | k_exc | rfl | decide +kernel)
    (case yiC_0 => first | k_is | k_exc | rfl | decide +kernel)
    (case ykC_0 => first | k_is | k_exc | rfl | decide +kernel)
    (case yexC_0 => first | k_is | k_exc | rfl | decide +kernel)
    (case yveC_0 => first | k_is | k_exc | rfl | decide +kernel)
    (case ytyC_0 => first | k_is | k_exc | rfl | decide +kernel)
    (case yhdC_0 => first | k_is | k_exc | rfl | decide +kernel)
    (case yte_0 => first | k_is | k_exc | rfl | decide +kernel)
    (case yinD_0 => first | k_is | k_exc | rfl | decide +kernel)
    (case yca_0 => first | k_is | k_exc | rfl | decide +kernel)
    (case yhm_0 => first | k_is | k_exc | rfl | decide +kernel)
    (case yei_0 => first | k_is | k_exc | rfl | decide +kernel)
    (case ysi_0 => first | k_is | k_exc | rfl | decide +kernel)
    (case ysa_1 => first | k_is | k_exc | rfl | decide +kernel)
    (case yga_1 => first | k_is | k_exc | rfl | decide +kernel)
    (case ygg_1 => first | k_is | k_exc | rfl | decide +kernel)
    (case ynoN_1 => first | k_is | k_exc | rfl | decide +kernel)
    (case yiC_1 => first | k_is | k_exc | rfl | decide +kernel)
    (case ykC_1 => first | k_is | k_exc | rfl | decide +kernel)
    (case yexC_1 => first | k_is | k_exc | rfl | decide +kernel)
    (case yveC_1 => first | k_is | k_exc | rfl | decide +kernel)
    (case ytyC_1 => first | k_is | k_exc | rfl | decide +kernel)
    (case yhdC_1 => first | k_is | k_exc | rfl | decide +kernel)
    (case yte_1 => first | k_is | k_exc | rfl | decide +kernel)
    (case yinD_1 => first | k_is | k_exc | rfl | decide +kernel)
    (case yca_1 => first | k_is | k_exc | rfl | decide +kernel)
    (case yhm_1 => first | k_is | k_exc | rfl | decide +kernel)
    (case yei_1 => first | k_is | k_exc | rfl | decide +kernel)
    (case ysi_1 => first | k_is | k_exc | rfl | decide +kernel)
    (case ysa_2 => first | k_is | k_exc | rfl | decide +kernel)
    (case yga_2 => first | k_is | k_exc | rfl | decide +kernel)
    (case ygg_2 => first | k_is | k_exc | rfl | decide +kernel)
    (case ynoN_2 => first | k_is | k_exc | rfl | decide +kernel)
    (case yiC_2 => first | k_is | k_exc | rfl | decide +kernel)
    (case ykC_2 => first | k_is | k_exc | rfl | decide +kernel)
    (case yexC_2 => first | k_is | k_exc | rfl | decide +kernel)
    (case yveC_2 => first | k_is | k_exc | rfl | decide +kernel)
    (case ytyC_2 => first | k_is | k_exc | rfl | decide +kernel)
    (case yhdC_2 => first | k_is | k_exc | rfl | decide +kernel)
    (case yte_2 => first | k_is | k_exc | rfl | decide +kernel)
    (case yinD_2 => first | k_is | k_exc | rfl | decide +kernel)
    (case yca_2 => first | k_is | k_exc | rfl | decide +kernel)
    (case yhm_2 => first | k_is | k_exc | rfl | decide +kernel)
    (case yei_2 => first | k_is | k_exc | rfl | decide +kernel)
    (case ysi_2 => first | k_is | k_exc | rfl | decide +kernel)
    (case ysa_3 => first | k_is | k_exc | rfl | decide +kernel)
    (case yga_3 => first | k_is | k_exc | rfl | decide +kernel)
    (case ygg_3 => first | k_is | k_exc | rfl | decide +kernel)
    (case ynoN_3 => first | k_is | k_exc | rfl | decide +kernel)
    (case yiC_3 => first | k_is | k_exc | rfl | decide +kernel)
    (case ykC_3 => first | k_is | k_exc | rfl | decide +kernel)
    (case yexC_3 => first | k_is | k_exc | rfl | decide +kernel)
    (case yveC_3 => first | k_is | k_exc | rfl | decide +kernel)
    (case ytyC_3 => first | k_is | k_exc | rfl | decide +kernel)
    (case yhdC_3 => first | k_is | k_exc | rfl | decide +kernel)
    (case yte_3 => first | k_is | k_exc | rfl | decide +kernel)
    (case yinD_3 => first | k_is | k_exc | rfl | decide +kernel)
    (case yca_3 => first | k_is | k_exc | rfl | decide +kernel)
    (case yhm_3 => first | k_is | k_exc | rfl | decide +kernel)
    (case yei_3 => first | k_is | k_exc | rfl | decide +kernel)
    (case ysi_3 => first | k_is | k_exc | rfl | decide +kernel)
    (case ysa_4 => first | k_is | k_exc | rfl | decide +kernel)
    (case yga_4 => first | k_is | k_exc | rfl | decide +kernel)
    (case ygg_4 => first | k_is | k_exc | rfl | decide +kernel)
    (case ynoN_4 => first | k_is | k_exc | rfl | decide +kernel)
    (case yiC_4 => first | k_is | k_exc | rfl | decide +kernel)
    (case ykC_4 => first | k_is | k_exc | rfl | decide +kernel)
    (case yexC_4 => first | k_is | k_exc | rfl | decide +kernel)
    (case yveC_4 => first | k_is | k_exc | rfl | decide +kernel)
    (case ytyC_4 => first | k_is | k_exc | rfl | decide +kernel)
    (case yhdC_4 => first | k_is | k_exc | rfl | decide +kernel)
    (case yte_4 => first | k_is | k_exc | rfl | decide +kernel)
    (case yinD_4 => first | k_is | k_exc | rfl | decide +kernel)
    (case yca_4 => first | k_is | k_exc | rfl | decide +kernel)
    (case yhm_4 => first | k_is | k_exc | rfl | decide +kernel)
    (case yei_4 => first | k_is | k_exc | rfl | decide +kernel)
    (case ysi_4 => first | k_is | k_exc | rfl | decide +kernel)
    (case ysa_5 => first | k_is | k_exc | rfl | decide +kernel)
    (case yga_5 => first | k_is | k_exc | rfl | decide +kernel)
    (case ygg_5 => first | k_is | k_exc | rfl | decide +kernel)
    (case ynoN_5 => first | k_is | k_exc | rfl | decide +kernel)
    (case yiC_5 => first | k_is | k_exc | rfl | decide +kernel)
    (case ykC_5 => first | k_is | k_exc | rfl | decide +kernel)
    (case yexC_5 => first | k_is | k_exc | rfl | decide +kernel)
    (case yveC_5 => first | k_is | k_exc | rfl | decide +kernel)
    (case ytyC_5 => first | k_is | k_exc | rfl | decide +kernel)
    (case yhdC_5 => first | k_is | k_exc | rfl | decide +kernel)
    (case yte_5 => first | k_is | k_exc | rfl | decide +kernel)
    (case yinD_5 => first | k_is | k_exc | rfl | decide +kernel)
    (case yca_5 => first | k_is | k_exc | rfl | decide +kernel)
    (case yhm_5 => first | k_is | k_exc | rfl | decide +kernel)
    (case yei_5 => first | k_is | k_exc | rfl | decide +kernel)
    (case ysi_5 => first | k_is | k_exc | rfl | decide +kernel)
    (case kk_0_0 => first | k_is | k_exc | rfl | decide +kernel)
    (case kk_0_1 => first | k_is | k_exc | rfl | decide +kernel)
    (case kk_0_2 => first | k_is | k_exc | rfl | decide +kernel)
    (case kk_0_3 => first | k_is | k_exc | rfl | decide +kernel)
    (case kk_0_4 => first | k_is | k_exc | rfl | decide +kernel)
    (case kk_0_5 => first | k_is | k_exc | rfl | decide +kernel)
    (case kk_1_0 => first | k_is | k_exc | rfl | decide +kernel)
    (case kk_1_1 => first | k_is | k_exc | rfl | decide +kernel)
    (case kk_1_2 => first | k_is | k_exc | rfl | decide +kernel)
    (case kk_1_3 => first | k_is | k_exc | rfl | decide +kernel)
    (case kk_1_4 => first | k_is | k_exc | rfl | decide +kernel)
    (case kk_1_5 => first | k_is | k_exc | rfl | decide +kernel)
    (case kk_2_0 => first | k_is | k_exc | rfl | decide +kernel)
    (case kk_2_1 => first | k_is | k_exc | rfl | decide +kernel)
    (case kk_2_2 => first | k_is | k_exc | rfl | decide +kernel)
    (case kk_2_3 => first | k_is | k_exc | rfl | decide +kernel)
    (case kk_2_4 => first | k_is | k_exc | rfl | decide +kernel)
    (case kk_2_5 => first | k_is | k_exc | rfl | decide +kernel)
    (case kk_3_0 => first | k_is | k_exc | rfl | decide +kernel)
    (case kk_3_1 => first | k_is | k_exc | rfl | decide +kernel)
    (case kk_3_2 => first | k_is | k_exc | rfl | decide +kernel)
    (case kk_3_3 => first | k_is | k_exc | rfl | decide +kernel)
    (case kk_3_4 => first | k_is | k_exc | rfl | decide +kernel)
    (case kk_3_5 => first | k_is | k_exc | rfl | decide +kernel)
    (case kk_4_0 => first | k_is | k_exc | rfl | decide +kernel)
    (case kk_4_1 => first | k_is | k_exc | rfl | decide +kernel)
    (case kk_4_2 => first | k_is | k_exc | rfl | decide +kernel)
    (case kk_4_3 => first | k_is | k_exc | rfl | decide +kernel)
    (case kk_4_4 => first | k_is | k_exc | rfl | decide +kernel)
    (case kk_4_5 => first | k_is | k_exc | rfl | decide +kernel)
    (case kk_5_0 => first | k_is | k_exc | rfl | decide +kernel)
    (case kk_5_1 => first | k_is | k_exc | rfl | decide +kernel)
    (case kk_5_2 => first | k_is | k_exc | rfl | decide +kernel)
    (case kk_5_3 => first | k_is | k_exc | rfl | decide +kernel)
    (case kk_5_4 => first | k_is | k_exc | rfl | decide +kernel)
    (case kk_5_5 => first | k_is | k_exc | rfl | decide +kernel)
    (case z_abs => k_is)
    (case z_all => k_is)
    (case z_enumerate => k_is)
    (case z_int => k_is)
    (case z_isinstance => k_is)
    (case z_len => k_is)
    (case z_list => k_is)
    (case z_min => k_is)
    (case z_range => k_is)
    (case z_repr => k_is)
    (case z_super => k_is)
    (case z_tuple => k_is)
    (case q_FREE => k_is)
    (case q_MOST_CHASERS => k_is)
    (case q_MOST_FREE => k_is)
    (case q_MOST_MOVES => k_is)
    (case q_MOST_SIDE => k_is)
    (case q_MOVES_grids => k_is)
    (case l_MOVES_grids_1 => k_is)
    (case l_MOVES_grids_3 => k_is)
    (case l_MOVES_grids_7 => k_is)
    (case l_MOVES_grids_11 => k_is)
    (case l_MOVES_grids_15 => k_is)
    (case m_MOVES_grids_1 => decide)
    (case q_h_MOVES_grids_1_3 => exact Vs.hash_kh)
    (case q_h_MOVES_grids_1_2 => exact Vs.hash_kh)
    (case q_h_MOVES_grids_1_1 => exact Vs.hash_kh)
    (case q_h_MOVES_grids_1_0 => exact Vs.hash_kh)
    (case q_MOVES_ticks => k_is)
    (case q_RULES => k_is)
    (case l_RULES_1 => k_is)
    (case q_SIGNS => k_is)
    (case q_STAY => k_is)
    (case a_check_grid => k_is)
    (case l_0 => k_is)
    (case c_0 => k_is)
    (case k_0 => k_is)
    (case a_cells_of => k_is)
    (case l_1 => k_is)
    (case c_1 => k_is)
    (case k_1 => k_is)
    (case a_is_cell => k_is)
    (case l_2 => k_is)
    (case c_2 => k_is)
    (case k_2 => k_is)
    (case a_sign_at => k_is)
    (case l_3 => k_is)
    (case c_3 => k_is)
    (case k_3 => k_is)
    (case a_moved => k_is)
    (case l_4 => k_is)
    (case c_4 => k_is)
    (case k_4 => k_is)
    (case a_gap => k_is)
    (case l_5 => k_is)
    (case c_5 => k_is)
    (case k_5 => k_is)
    (case a_key_of => k_is)
    (case l_6 => k_is)
    (case c_6 => k_is)
    (case k_6 => k_is)
    (case a_lengths_of => k_is)
    (case l_7 => k_is)
    (case c_7 => k_is)
    (case k_7 => k_is)
    (case a__law_draws => k_is)
    (case l_8 => k_is)
    (case c_8 => k_is)
    (case k_8 => k_is)
    (case a__law_mix => k_is)
    (case l_9 => k_is)
    (case c_9 => k_is)
    (case k_9 => k_is)
    (case a__law_name => k_is)
    (case l_10 => k_is)
    (case c_10 => k_is)
    (case k_10 => k_is)
    (case a_beside => k_is)
    (case l_11 => k_is)
    (case c_11 => k_is)
    (case k_11 => k_is)
    (case a_free_of => k_is)
    (case l_12 => k_is)
    (case c_12 => k_is)
    (case k_12 => k_is)
    (case a_is_free => k_is)
    (case l_13 => k_is)
    (case c_13 => k_is)
    (case k_13 => k_is)
    (case a_check_maze => k_is)
    (case l_14 => k_is)
    (case c_14 => k_is)
    (case k_14 => k_is)
    (case a_far_from => k_is)
    (case l_15 => k_is)
    (case c_15 => k_is)
    (case k_15 => k_is)
    (case a_ran => k_is)
    (case l_16 => k_is)
    (case c_16 => k_is)
    (case k_16 => k_is)
    (case a_check_rules => k_is)
    (case l_17 => k_is)
    (case c_17 => k_is)
    (case k_17 => k_is)
    (case a_steps_to => k_is)
    (case l_18 => k_is)
    (case c_18 => k_is)
    (case k_18 => k_is)
    (case a_chased => k_is)
    (case l_19 => k_is)
    (case c_19 => k_is)
    (case k_19 => k_is)
    (case a_check_state => k_is)
    (case l_20 => k_is)
    (case c_20 => k_is)
    (case k_20 => k_is)
    (case a_tick_of => k_is)
    (case l_21 => k_is)
    (case c_21 => k_is)
    (case k_21 => k_is)
    (case a_tick => k_is)
    (case l_22 => k_is)
    (case c_22 => k_is)
    (case k_22 => k_is)
    (case a_run => k_is)
    (case l_23 => k_is)
    (case c_23 => k_is)
    (case k_23 => k_is)
    (case a_nexts_of => k_is)
    (case l_24 => k_is)
    (case c_24 => k_is)
    (case k_24 => k_is)
    (case a_map_of => k_is)
    (case l_25 => k_is)
    (case c_25 => k_is)
    (case k_25 => k_is)
    (case a_told_of => k_is)
    (case l_26 => k_is)
    (case c_26 => k_is)
    (case k_26 => k_is)
    (case a_safe_cells => k_is)
    (case l_27 => k_is)
    (case c_27 => k_is)
    (case k_27 => k_is)
    (case a_is_safe => k_is)
    (case l_28 => k_is)
    (case c_28 => k_is)
    (case k_28 => k_is)
    (case a_safe_move => k_is)
    (case l_29 => k_is)
    (case c_29 => k_is)
    (case k_29 => k_is)
    (case a_longest => k_is)
    (case l_30 => k_is)
    (case c_30 => k_is)
    (case k_30 => k_is)
    (case a__law_of => k_is)
    (case l_31 => k_is)
    (case c_31 => k_is)
    (case k_31 => k_is)
    (case a_law => k_is)
    (case l_32 => k_is)
    (case c_32 => k_is)
    (case k_32 => k_is)
