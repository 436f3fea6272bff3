import PyProof.Rows.All
import Wide.All
import OpenK.AllK
import Wide.FinOn
import HandS.ForMost
import HandS.Deep
import HandS.Flow
import HandS.Style
import HandS.TupAny
import HandS.Star
import HandS.TupMul
import KE.SortData
import HandS.ExcValue
import HandS.ExcOwn
import PyProof.Rows.SetFrom
import HandS.SetKeys
import PyProof.StrBlock2
import PyProof.Rows.StrCountLaw
import KE.KeyNested
import HandS.Iter
import HandS.TupLen
import HandS.Conv
import KE.DataMinMax
import KE.DataCmp
import KE.GoesEnum
import PyProof.SumAny
import KE.GoesMore
import HandS.Gcd
import HandS.Wide
import HandS.DictComp
import HandS.TryOnly
import HandS.Strs
import KE.DataFind
import PySem.Challenge.RW_arcadeheld_k92_whole_reels_as_guesses
set_option Elab.async false
set_option linter.all false
set_option maxRecDepth 100000
/-! Values as data: a def's meaning as a plain Lean function over data, and the rules that carry it to the model. -/
namespace Vs
open PySem PySem.Spec PyProof.Rows L2

abbrev D := PyData
/-- the text of these signs -/
def tx (l : List Nat) : Str := ⟨l.toArray⟩
/-- no answer: the code comes to what is not told here; or an own error, by its number and what it bears -/
inductive Er where
  | stuck
  | exc (c : Nat) (a : D)
abbrev R (α : Type) := Except Er α
abbrev stk {α : Type} : R α := .error .stuck
def gd {α : Type} (r : R α) (q : α → Prop) (e : Nat → D → Prop) : Prop := match r with
  | .ok a => q a
  | .error .stuck => False
  | .error (.exc c a) => e c a
theorem gd_bind {α β : Type} {x : R α} {f : α → R β} {q : β → Prop} {e : Nat → D → Prop} : gd (x >>= f) q e ↔ gd x (fun a => gd (f a) q e) e := by
  cases x with
  | ok a => exact Iff.rfl
  | error er => cases er <;> exact Iff.rfl
theorem gd_ok {α : Type} {a : α} {q : α → Prop} {e : Nat → D → Prop} : gd (.ok a) q e ↔ q a := Iff.rfl
theorem gd_pure {α : Type} {a : α} {q : α → Prop} {e : Nat → D → Prop} : gd (pure a) q e ↔ q a := Iff.rfl
theorem gd_mono {α : Type} {x : R α} {q q' : α → Prop} {e : Nat → D → Prop} (h : gd x q e) (hq : ∀ a, q a → q' a) : gd x q' e := by
  cases x with
  | ok a => exact hq a h
  | error er => cases er <;> exact h
theorem gd_mono2 {α : Type} {x : R α} {q q' : α → Prop} {e e' : Nat → D → Prop} (h : gd x q e) (hq : ∀ a, q a → q' a) (he : ∀ c a, e c a → e' c a) : gd x q' e' := by
  cases x with
  | ok a => exact hq a h
  | error er =>
    cases er with
    | stuck => exact h
    | exc c a => exact he c a h

abbrev Env' := List (Option D)
def gv (ρ : Env') (i : Nat) : R D := match ρ[i]? with
  | some (some d) => .ok d
  | _ => stk

/-! ### data in the abstract heap -/
/-- a dict whose object is known -/
def dO (a : Addr) (o : Obj) : HO := .ext fun h => h.get? a = some o
def DcA (K : PySem.W.Frag) (G : Hp) (a : Addr) (o : Obj) : Prop := G a = some (dO a o) ∨ K.lookup a = some o
mutual
def hashD (w : World) : D → Int
  | .int i => hashInt i
  | .str x => hashStr w x
  | .tuple xs => reduceHash (Builtin.Tuple.tupleHashOf (hashAll w xs))
  | _ => 0
def hashAll (w : World) : List D → List Int
  | [] => []
  | d :: ds => hashD w d :: hashAll w ds
end
mutual
inductive Dt (w : World) (K : PySem.W.Frag) (G : Hp) : V → D → Prop
  | non : Dt w K G .non .none
  | bl (b : Bool) : Dt w K G (.bl b) (.bool b)
  | int (i : Int) : Dt w K G (.int i) (.int i)
  | str (x : Str) : Dt w K G (.str x) (.str x)
  | lst {a : Addr} {xs : List V} {ds : List D} : Rd G a (.lst xs) → DtAll w K G xs ds → Dt w K G (.ref a) (.list ds)
  | tup {a : Addr} {xs : List V} {ds : List D} : SqT K G a xs → DtAll w K G xs ds → Dt w K G (.ref a) (.tuple ds)
  | dct {a : Addr} {o : Obj} {es : Array DictEntry} {ep : Nat} {kvs : List (D × D)} : DcA K G a o → (a == sysModules) = false → o.ExactDict → o.data = .dict es ep → DtEs w K G es.toList kvs → (kvs.map (·.1)).Nodup → Dt w K G (.ref a) (.dict kvs)
  | scr {a : Addr} {xs : List V} {ds : List D} : SqL K G a xs → DtAll w K G xs ds → Dt w K G (.ref a) (.dict [(.none, .list ds), (.none, .none)])
inductive DtAll (w : World) (K : PySem.W.Frag) (G : Hp) : List V → List D → Prop
  | nil : DtAll w K G [] []
  | cons {v : V} {vs : List V} {d : D} {ds : List D} : Dt w K G v d → DtAll w K G vs ds → DtAll w K G (v :: vs) (d :: ds)
inductive DtEs (w : World) (K : PySem.W.Frag) (G : Hp) : List DictEntry → List (D × D) → Prop
  | nil : DtEs w K G [] []
  | cons {e : DictEntry} {kv vv : V} {dk dv : D} {es : List DictEntry} {kvs : List (D × D)} : RelV kv e.key → Dt w K G kv dk → e.hash = hashD w dk → RelV vv e.val → Dt w K G vv dv → DtEs w K G es kvs → DtEs w K G (e :: es) ((dk, dv) :: kvs)
end

/-- a part of the heap in another -/
def Sub (G H : Hp) : Prop := ∀ a o, G a = some o → H a = some o
theorem Sub.refl (G : Hp) : Sub G G := fun _ _ h => h
theorem Sub.trans {G H H' : Hp} (a : Sub G H) (b : Sub H H') : Sub G H' := fun c o h => b c o (a c o h)
theorem SqL.sub {K : PySem.W.Frag} {G G' : Hp} {a : Addr} {xs : List V} (s : Sub G G') (h : SqL K G a xs) : SqL K G' a xs := by
  rcases h with (h | ⟨o, h⟩) | h
  · exact .inl (.inl (s _ _ h))
  · exact .inl (.inr ⟨o, s _ _ h⟩)
  · exact .inr h
theorem Rd.sub {G G' : Hp} {a : Addr} {u : HO} (s : Sub G G') (h : Rd G a u) : Rd G' a u := by
  rcases h with h | ⟨o, h⟩
  · exact .inl (s _ _ h)
  · exact .inr ⟨o, s _ _ h⟩
theorem Rd.sq {K : PySem.W.Frag} {G : Hp} {a : Addr} {xs : List V} (h : Rd G a (.lst xs)) : SqL K G a xs := .inl h
theorem SqT.sub {K : PySem.W.Frag} {G G' : Hp} {a : Addr} {xs : List V} (s : Sub G G') (h : SqT K G a xs) : SqT K G' a xs := by
  rcases h with (h | ⟨o, h⟩) | h
  · exact .inl (.inl (s _ _ h))
  · exact .inl (.inr ⟨o, s _ _ h⟩)
  · exact .inr h
theorem DcA.sub {K : PySem.W.Frag} {G G' : Hp} {a : Addr} {o : Obj} (s : Sub G G') (h : DcA K G a o) : DcA K G' a o := h.imp (s _ _) id
section
variable {w : World} {K : PySem.W.Frag} {G G' : Hp}
mutual
theorem Dt.sub (s : Sub G G') : ∀ {v : V} {d : D}, Dt w K G v d → Dt w K G' v d
  | _, _, .non => .non
  | _, _, .bl b => .bl b
  | _, _, .int i => .int i
  | _, _, .str x => .str x
  | _, _, .lst h t => .lst (Rd.sub s h) (DtAll.sub s t)
  | _, _, .tup h t => .tup (SqT.sub s h) (DtAll.sub s t)
  | _, _, .dct h n x e t u => .dct (DcA.sub s h) n x e (DtEs.sub s t) u
  | _, _, .scr h t => .scr (SqL.sub s h) (DtAll.sub s t)
theorem DtAll.sub (s : Sub G G') : ∀ {vs : List V} {ds : List D}, DtAll w K G vs ds → DtAll w K G' vs ds
  | _, _, .nil => .nil
  | _, _, .cons h t => .cons (Dt.sub s h) (DtAll.sub s t)
theorem DtEs.sub (s : Sub G G') : ∀ {es : List DictEntry} {kvs : List (D × D)}, DtEs w K G es kvs → DtEs w K G' es kvs
  | _, _, .nil => .nil
  | _, _, .cons a b c d e t => .cons a (Dt.sub s b) c d (Dt.sub s e) (DtEs.sub s t)
end
theorem DtAll.length : ∀ {vs : List V} {ds : List D}, DtAll w K G vs ds → vs.length = ds.length
  | _, _, .nil => rfl
  | _, _, .cons _ t => by rw [List.length_cons, List.length_cons, t.length]
theorem DtAll.get : ∀ {vs : List V} {ds : List D} {i : Nat} {v : V}, DtAll w K G vs ds → vs[i]? = some v → ∃ d, ds[i]? = some d ∧ Dt w K G v d
  | _, _, _, _, .nil, h => by simp at h
  | _, _, 0, _, .cons h _, e => by simp at e; subst e; exact ⟨_, rfl, h⟩
  | _, _, i + 1, v, .cons _ t, e => by
    obtain ⟨d, h1, h2⟩ := DtAll.get (i := i) (v := v) t (by simpa using e)
    exact ⟨d, by simpa using h1, h2⟩
theorem DtAll.get' : ∀ {vs : List V} {ds : List D} {i : Nat} {d : D}, DtAll w K G vs ds → ds[i]? = some d → ∃ v, vs[i]? = some v ∧ Dt w K G v d
  | _, _, _, _, .nil, h => by simp at h
  | _, _, 0, _, .cons h _, e => by simp at e; subst e; exact ⟨_, rfl, h⟩
  | _, _, i + 1, v, .cons _ t, e => by
    obtain ⟨d, h1, h2⟩ := DtAll.get' (i := i) (d := v) t (by simpa using e)
    exact ⟨d, by simpa using h1, h2⟩
theorem DtAll.append : ∀ {vs vs' : List V} {ds ds' : List D}, DtAll w K G vs ds → DtAll w K G vs' ds' → DtAll w K G (vs ++ vs') (ds ++ ds')
  | _, _, _, _, .nil, s => s
  | _, _, _, _, .cons h t, s => .cons h (t.append s)
theorem DtAll.take : ∀ {vs : List V} {ds : List D} (n : Nat), DtAll w K G vs ds → DtAll w K G (vs.take n) (ds.take n)
  | _, _, 0, _ => .nil
  | _, _, _ + 1, .nil => .nil
  | _, _, n + 1, .cons h t => .cons h (t.take n)
theorem DtAll.drop : ∀ {vs : List V} {ds : List D} (n : Nat), DtAll w K G vs ds → DtAll w K G (vs.drop n) (ds.drop n)
  | _, _, 0, r => r
  | _, _, _ + 1, .nil => .nil
  | _, _, n + 1, .cons _ t => t.drop n
theorem DtAll.set {v : V} {d : D} (h : Dt w K G v d) : ∀ {vs : List V} {ds : List D} (i : Nat), DtAll w K G vs ds → DtAll w K G (vs.set i v) (ds.set i d)
  | _, _, _, .nil => .nil
  | _, _, 0, .cons _ t => .cons h t
  | _, _, i + 1, .cons q t => .cons q (DtAll.set h i t)
theorem DtAll.one {v : V} {d : D} (h : Dt w K G v d) : DtAll w K G [v] [d] := .cons h .nil
end

/-- the tracked heap grows, and the frozen part in it; what was tracked stays as it was, in both -/
structure Gr (G H G' H' : Hp) : Prop where
  sub : Sub G' H'
  keep : Sub H H'
  fix : ∀ a, H a ≠ none → G' a = G a
theorem Gr.refl {G H : Hp} (s : Sub G H) : Gr G H G H := ⟨s, Sub.refl _, fun _ _ => rfl⟩
theorem Gr.trans {G H G1 H1 G2 H2 : Hp} (a : Gr G H G1 H1) (b : Gr G1 H1 G2 H2) : Gr G H G2 H2 where
  sub := b.sub
  keep := a.keep.trans b.keep
  fix := fun x n => by
    rw [b.fix x fun z => ?_, a.fix x n]
    cases q : H x with
    | none => exact n q
    | some o => rw [a.keep x o q] at z; cases z
theorem Gr.up {G H G' H' : Hp} (g : Gr G H G' H') (s : Sub G H) : Sub G G' := fun a o h => by
  rw [g.fix a fun z => ?_]
  · exact h
  · rw [s a o h] at z; cases z
/-- a new object, frozen at once -/
theorem Gr.new {G H : Hp} {a : Addr} {o : HO} (s : Sub G H) (n : H a = none) : Gr G H (upd G a o) (upd H a o) where
  sub := fun b u h => by
    by_cases e : b = a
    · subst e; rw [upd_same] at h ⊢; exact h
    · rw [upd_ne e] at h ⊢; exact s b u h
  keep := fun b u h => by rw [upd_ne (ne_of_none h n)]; exact h
  fix := fun b h => upd_ne fun e => h (e ▸ n)
/-- a new object, not frozen -/
theorem Gr.own {G H : Hp} {a : Addr} {o : HO} (s : Sub G H) (n : H a = none) : Gr G H G (upd H a o) where
  sub := fun b u h => by rw [upd_ne (ne_of_none (s b u h) n)]; exact s b u h
  keep := fun b u h => by rw [upd_ne (ne_of_none h n)]; exact h
  fix := fun _ _ => rfl
/-- what is new is frozen -/
theorem Gr.frz {G H G' H' : Hp} {a : Addr} {o : HO} (g : Gr G H G' H') (n : H a = none) (h : H' a = some o) : Gr G H (upd G' a o) H' where
  sub := fun b u q => by
    by_cases e : b = a
    · subst e; rw [upd_same] at q; cases q; exact h
    · rw [upd_ne e] at q; exact g.sub b u q
  keep := g.keep
  fix := fun b q => by rw [upd_ne (fun e => q (by rw [e]; exact n))]; exact g.fix b q

theorem Gr.wr {G H G' H' : Hp} {a : Addr} {o : HO} (g : Gr G H G' H') (n : H a = none) (n' : G' a = none) : Gr G H G' (upd H' a o) where
  sub := fun b u q => by rw [upd_ne (ne_of_none q n')]; exact g.sub b u q
  keep := fun b u q => by rw [upd_ne (ne_of_none q n)]; exact g.keep b u q
  fix := g.fix
structure Bas where
  G : Hp
  H : Hp
/-- what stands at a of one's own: a list, a dict -/
def Own (w : World) (K : PySem.W.Frag) (G H : Hp) (a : Addr) (d : D) : Prop :=
  (∃ vs ds, d = .list ds ∧ H a = some (.lst vs) ∧ DtAll w K G vs ds) ∨
  ∃ (o : Obj) (es : Array DictEntry) (ep : Nat) (kvs : List (D × D)), d = .dict kvs ∧ H a = some (dO a o) ∧ (a == sysModules) = false ∧ o.ExactDict ∧ o.data = .dict es ep ∧ DtEs w K G es.toList kvs ∧ (kvs.map (·.1)).Nodup
theorem Own.there {w : World} {K : PySem.W.Frag} {G H : Hp} {a : Addr} {d : D} (o : Own w K G H a d) : ∃ u, H a = some u := by
  rcases o with ⟨_, _, _, h, _⟩ | ⟨_, _, _, _, _, h, _⟩
  · exact ⟨_, h⟩
  · exact ⟨_, h⟩
theorem Own.grow {w : World} {K : PySem.W.Frag} {G H G' H' : Hp} {a : Addr} {d : D} (o : Own w K G H a d) (s : Sub G G') (e : H' a = H a) : Own w K G' H' a d := by
  rcases o with ⟨vs, ds, e1, h, t⟩ | ⟨o, es, ep, kvs, e1, h, q⟩
  · exact .inl ⟨vs, ds, e1, e.trans h, t.sub s⟩
  · exact .inr ⟨o, es, ep, kvs, e1, e.trans h, q.1, q.2.1, q.2.2.1, q.2.2.2.1.sub s, q.2.2.2.2⟩
/-- frozen, it is data -/
theorem Own.dt {w : World} {K : PySem.W.Frag} {G H : Hp} {a : Addr} {d : D} {u : HO} (o : Own w K G H a d) (n : G a = none) (h : H a = some u) : Dt w K (upd G a u) (.ref a) d := by
  have s : Sub G (upd G a u) := fun b v q => by rw [upd_ne (ne_of_none q n)]; exact q
  rcases o with ⟨vs, ds, rfl, h1, t⟩ | ⟨o, es, ep, kvs, rfl, h1, q⟩
  · rw [h1] at h; cases h
    exact .lst (.inl upd_same) (t.sub s)
  · rw [h1] at h; cases h
    exact .dct (.inl upd_same) q.1 q.2.1 q.2.2.1 (q.2.2.2.1.sub s) q.2.2.2.2

/-- slots and heap as the data in ρ say; the slots in O are one's own (they may be written), the others frozen -/
structure Rp (w : World) (K : PySem.W.Frag) (B : Bas) (O : List Nat) (ρ : Env') (σ : L2.St) (G H : Hp) : Prop where
  len : σ.length = ρ.length
  gr : Gr B.G B.H G H
  dat : ∀ (i : Nat) (d : D), ρ[i]? = some (some d) → i ∉ O → ∃ v, σ[i]? = some (some v) ∧ Dt w K G v d
  own : ∀ (i : Nat) (d : D), ρ[i]? = some (some d) → i ∈ O → ∃ a, σ[i]? = some (some (.ref a)) ∧ Own w K G H a d ∧ G a = none ∧ B.H a = none
  sep : ∀ (i j : Nat) (a : Addr) (di dj : D), i ∈ O → j ∈ O → ρ[i]? = some (some di) → ρ[j]? = some (some dj) → σ[i]? = some (some (.ref a)) → σ[j]? = some (some (.ref a)) → i = j
section
variable {w : World} {K : PySem.W.Frag} {B : Bas} {O : List Nat} {ρ : Env'} {σ : L2.St} {G H G' H' : Hp}
theorem Rp.sub (r : Rp w K B O ρ σ G H) : Sub G H := r.gr.sub
theorem Rp.grow (r : Rp w K B O ρ σ G H) (g : Gr G H G' H') : Rp w K B O ρ σ G' H' where
  len := r.len
  gr := r.gr.trans g
  dat := fun i d e n => let ⟨v, h1, h2⟩ := r.dat i d e n; ⟨v, h1, h2.sub (g.up r.sub)⟩
  own := fun i d e n => by
    obtain ⟨a, h1, h2, h3, h4⟩ := r.own i d e n
    obtain ⟨u, hu⟩ := h2.there
    have ne : H a ≠ none := by rw [hu]; exact fun z => nomatch z
    exact ⟨a, h1, h2.grow (g.up r.sub) ((g.keep a u hu).trans hu.symm), (g.fix a ne).trans h3, h4⟩
  sep := r.sep
end
end Vs

set_option Elab.async false
set_option linter.all false
set_option maxRecDepth 100000
/-! Expressions: readings by data, names, constants, operators, comparisons, subscripts, slices, calls. -/
namespace Vs
open PySem PySem.Spec PyProof.Rows L2

/-- an expression that gives the datum f ρ -/
def tV (w : World) (K : PySem.W.Frag) (e : Nat → D → Prop) (O : List Nat) (f : Env' → R D) : TE := fun σ H Q => ∃ B ρ G, Rp w K B O ρ σ G H ∧
  gd (f ρ) (fun d => ∀ v G' H', Gr G H G' H' → Dt w K G' v d → Q v H') e
/-- .. that makes a new list or dict of one's own -/
def tO (w : World) (K : PySem.W.Frag) (e : Nat → D → Prop) (O : List Nat) (f : Env' → R D) : TE := fun σ H Q => ∃ B ρ G, Rp w K B O ρ σ G H ∧
  gd (f ρ) (fun d => ∀ a G' H', Gr G H G' H' → H a = none → G' a = none → Own w K G' H' a d → Q (.ref a) H') e
def tW (w : World) (K : PySem.W.Frag) (e : Nat → D → Prop) (O : List Nat) (f : Env' → R Bool) : TT := fun σ H Q => ∃ B ρ G, Rp w K B O ρ σ G H ∧
  gd (f ρ) (fun b => ∀ G' H', Gr G H G' H' → Q b H') e
def tA (w : World) (K : PySem.W.Frag) (e : Nat → D → Prop) (O : List Nat) (f : Env' → R (List D)) : TA := fun σ H Q => ∃ B ρ G, Rp w K B O ρ σ G H ∧
  gd (f ρ) (fun ds => ∀ vs G' H', Gr G H G' H' → DtAll w K G' vs ds → Q vs H') e

section
variable {X : Cx} {a b : Expr} {es : List Expr} {pos : Pos} {e : Nat → D → Prop} {O : List Nat} {fa fb : Env' → R D} {fs : Env' → R (List D)} {fw : Env' → R Bool}
theorem pe_imp {t t' : TE} (h : PE X a t) (i : ∀ σ H Q, t' σ H Q → t σ H Q) : PE X a t' := ⟨fun p s σ H Q I q => h.run p s σ H Q I (i σ H Q q)⟩
theorem pt_imp {t t' : TT} (h : PT X a t) (i : ∀ σ H Q, t' σ H Q → t σ H Q) : PT X a t' := ⟨fun p s σ H Q I q => h.run p s σ H Q I (i σ H Q q)⟩
theorem pw_imp {t t' : TT} (h : PW X a t) (i : ∀ σ H Q, t' σ H Q → t σ H Q) : PW X a t' := ⟨fun wh p s σ H Q I q => h.run wh p s σ H Q I (i σ H Q q)⟩
theorem pa_imp {t t' : TA} (h : PA X es t) (i : ∀ σ H Q, t' σ H Q → t σ H Q) : PA X es t' := ⟨fun po p s σ H Q I q => h.run po p s σ H Q I (i σ H Q q)⟩
theorem ps_imp {st : Stmt} {t t' : TS} (h : PS X st t) (i : ∀ Dn σ H, t' Dn σ H → t Dn σ H) : PS X st t' := ⟨fun p s σ H Q I q => h.run p s σ H Q I (i Q σ H q)⟩
theorem pss_imp {st : List Stmt} {t t' : TS} (h : PSs X st t) (i : ∀ Dn σ H, t' Dn σ H → t Dn σ H) : PSs X st t' := ⟨fun p s σ H Q I q => h.run p s σ H Q I (i Q σ H q)⟩
theorem opr_imp {f : Value → Value → Sem Value} {r r' : R2} (h : OpR X f r) (i : ∀ x y H Q, r' x y H Q → r x y H Q) : OpR X f r' := fun p s σ H x y v u Q I a b q => h p s σ H x y v u Q I a b (i x y H Q q)

/-- the meaning told otherwise -/
theorem v_eq {f f' : Env' → R D} (h : PE X a (tV X.w X.K e O f)) (q : f' = f) : PE X a (tV X.w X.K e O f') := q ▸ h

theorem Rp.here {w : World} {K : PySem.W.Frag} {B : Bas} {ρ : Env'} {σ : L2.St} {G H : Hp} (r : Rp w K B O ρ σ G H) : Gr G H G H := Gr.refl r.sub

/-- a name whose slot is not one's own -/
theorem v_nm (i : Nat) {x : Str} {p : Pos} (ho : i ∉ O := by decide) (hN : X.N[i]? = some x := by rfl) (hv : Vis X.env.scope x := by first | exact Or.inl rfl | exact Or.inr (Or.inl rfl) | exact Or.inr (Or.inr rfl)) (hd : (x == ("__debug__" : Str)) = false := by decide)
    (hc : (x == ("__classdict__" : Str)) = false := by decide) : PE X (.Name x p) (tV X.w X.K e O fun ρ => gv ρ i) := by
  refine pe_imp (pv i hN hv hd hc) fun σ H Q h => ?_
  obtain ⟨B, ρ, G, r, h⟩ := h
  have h : gd (gv ρ i) (fun d => ∀ v G' H', Gr G H G' H' → Dt X.w X.K G' v d → Q v H') e := h
  unfold gv at h
  cases q : ρ[i]? with
  | none => rw [q] at h; exact h.elim
  | some o =>
    cases o with
    | none => rw [q] at h; exact h.elim
    | some d =>
      rw [q] at h
      obtain ⟨v, e1, t⟩ := r.dat i d q ho
      exact ⟨v, e1, h v G H r.here t⟩
theorem v_of {d : D} {v : V} (h : PE X a (tC v)) (hd : ∀ G : Hp, Dt X.w X.K G v d) : PE X a (tV X.w X.K e O fun _ => .ok d) :=
  pe_imp h fun σ H Q ⟨B, ρ, G, r, h⟩ => h v G H r.here (hd G)
theorem v_int {i : Int} {j p} : PE X (.Constant (.int i) j p) (tV X.w X.K e O fun _ => .ok (.int i)) := v_of pe_int fun _ => .int i
theorem v_bl {i : Bool} {j p} : PE X (.Constant (.bool i) j p) (tV X.w X.K e O fun _ => .ok (.bool i)) := v_of pe_bl fun _ => .bl i
theorem v_non {j p} : PE X (.Constant .none j p) (tV X.w X.K e O fun _ => .ok .none) := v_of pe_non fun _ => .non
theorem v_str {i : Str} {j p} : PE X (.Constant (.str i) j p) (tV X.w X.K e O fun _ => .ok (.str i)) := v_of pe_str fun _ => .str i
/-- a constant of the module -/
structure Kon (w : World) (K : PySem.W.Frag) (mg : Str → Option Value) (x : Str) (d : D) : Prop where
  ex : ∃ (v : V) (u : Value), mg x = some u ∧ RelV v u ∧ ∀ G : Hp, Dt w K G v d
theorem v_kon {x : Str} {p : Pos} {d : D} (k : Kon X.w X.K X.mg x d) (hg : Gl X x := by rfl) (hd : (x == ("__debug__" : Str)) = false := by decide) : PE X (.Name x p) (tV X.w X.K e O fun _ => .ok d) := by
  obtain ⟨v, u, m, r, t⟩ := k.ex
  exact v_of (pe_glob hg m r hd) t

/-! ### operators -/
def r2 (w : World) (K : PySem.W.Frag) (g : D → D → R D) : R2 := fun x y H Q => ∃ G da db e, Sub G H ∧ Dt w K G x da ∧ Dt w K G y db ∧
  gd (g da db) (fun d => ∀ v G' H', Gr G H G' H' → Dt w K G' v d → Q v H') e
theorem r2_in {g : D → D → R D} {Q : VK} {G1 H1 G2 H2 : Hp} {x y : V} {da db : D} (g2 : Gr G1 H1 G2 H2) (s1 : Sub G1 H1) (d1 : Dt X.w X.K G1 x da) (d2 : Dt X.w X.K G2 y db)
    (h : gd (g da db) (fun d => ∀ v G' H', Gr G1 H1 G' H' → Dt X.w X.K G' v d → Q v H') e) : r2 X.w X.K g x y H2 Q :=
  ⟨G2, da, db, e, g2.sub, d1.sub (g2.up s1), d2, gd_mono h fun d q v G' H' g3 t => q v G' H' (g2.trans g3) t⟩
theorem two {g : D → D → R D} {σ : L2.St} {H : Hp} {Q : VK} (h : tV X.w X.K e O (fun ρ => fa ρ >>= fun x => fb ρ >>= fun y => g x y) σ H Q) :
    tV X.w X.K e O fa σ H fun x H1 => tV X.w X.K e O fb σ H1 fun y H2 => r2 X.w X.K g x y H2 Q := by
  obtain ⟨B, ρ, G, r, h⟩ := h
  refine ⟨B, ρ, G, r, gd_mono (gd_bind.mp h) fun da h v G1 H1 g1 t1 => ⟨B, ρ, G1, r.grow g1, gd_mono (gd_bind.mp h) fun db h u G2 H2 g2 t2 => ?_⟩⟩
  exact r2_in g2 g1.sub t1 t2 (gd_mono h fun d q v G' H' g3 t => q v G' H' (g1.trans g3) t)
theorem v_op {op : Operator} {g : D → D → R D} (ho : OpR X (binaryOp op) (r2 X.w X.K g)) (ha : PE X a (tV X.w X.K e O fa)) (hb : PE X b (tV X.w X.K e O fb)) :
    PE X (.BinOp a op b pos) (tV X.w X.K e O fun ρ => fa ρ >>= fun x => fb ρ >>= fun y => g x y) := pe_imp (pe_op ho ha hb) fun _ _ _ h => two h
theorem v_cmp {op : CmpOp} {g : D → D → R D} (ho : OpR X (compareOp op) (r2 X.w X.K g)) (ha : PE X a (tV X.w X.K e O fa)) (hb : PE X b (tV X.w X.K e O fb)) (hm : behindInMarks op b = false := by rfl) :
    PE X (.Compare a [op] [b] pos) (tV X.w X.K e O fun ρ => fa ρ >>= fun x => fb ρ >>= fun y => g x y) := pe_imp (pe_cmpR ho ha hb hm) fun _ _ _ h => two h
theorem v_ix {g : D → D → R D} (ho : IxR X (r2 X.w X.K g)) (ha : PE X a (tV X.w X.K e O fa)) (hb : PE X b (tV X.w X.K e O fb)) (hs : PlainIx b := by exact fun _ _ => rfl) :
    PE X (.Subscript a b pos) (tV X.w X.K e O fun ρ => fa ρ >>= fun x => fb ρ >>= fun y => g x y) := pe_imp (pe_ix ho ha hb hs) fun _ _ _ h => two h

/-! ### tests -/
def asB : D → R Bool
  | .bool b => .ok b
  | _ => stk
theorem asB_in {f : Env' → R D} {σ : L2.St} {H : Hp} {Q : Bool → Hp → Prop} (h : tW X.w X.K e O (fun ρ => f ρ >>= asB) σ H Q) : tV X.w X.K e O f σ H fun x H1 => ∃ c, x = .bl c ∧ Q c H1 := by
  obtain ⟨B, ρ, G, r, h⟩ := h
  refine ⟨B, ρ, G, r, gd_mono (gd_bind.mp h) fun d h v G' H' g t => ?_⟩
  cases t with
  | bl c => exact ⟨c, rfl, h G' H' g⟩
  | non => exact h.elim
  | int _ => exact h.elim
  | str _ => exact h.elim
  | lst _ _ => exact h.elim
  | tup _ _ => exact h.elim
  | dct _ _ _ _ _ _ => exact h.elim
  | scr _ _ => exact h.elim
/-- an expression that gives True or False, as a test -/
theorem w_val (h : PE X a (tV X.w X.K e O fa)) (he : ∀ whole, isTrue a X.env whole = (do let v ← whole; standAt a.pos; holding [v] (truthy v)) := by intro _; rfl) : PT X a (tW X.w X.K e O fun ρ => fa ρ >>= asB) :=
  pt_imp (pt_val h he) fun _ _ _ q => asB_in q
theorem w_cmp {op : CmpOp} {g : D → D → R D} (ho : OpR X (compareOp op) (r2 X.w X.K g)) (ha : PE X a (tV X.w X.K e O fa)) (hb : PE X b (tV X.w X.K e O fb)) (hm : behindInMarks op b = false := by rfl) :
    PT X (.Compare a [op] [b] pos) (tW X.w X.K e O fun ρ => (fa ρ >>= fun x => fb ρ >>= fun y => g x y) >>= asB) := by
  refine pt_imp (pt_cmpR ho ha hb hm) fun σ H Q h => ?_
  exact two (asB_in h)
theorem w_not (h : PT X a (tW X.w X.K e O fw)) : PT X (.UnaryOp .Not a pos) (tW X.w X.K e O fun ρ => fw ρ >>= fun c => .ok (!c)) :=
  pt_imp (pt_not h) fun σ H Q ⟨B, ρ, G, r, q⟩ => ⟨B, ρ, G, r, gd_mono (gd_bind.mp q) fun c z => z⟩
section
variable {rs : List Expr} {fu : Env' → R Bool}
theorem w_and1 (h : PT X a (tW X.w X.K e O fw)) : PW X (.BoolOp .And [a] pos) (tW X.w X.K e O fw) := pw_and1 h
theorem w_or1 (h : PT X a (tW X.w X.K e O fw)) : PW X (.BoolOp .Or [a] pos) (tW X.w X.K e O fw) := pw_or1 h
theorem w_and (h : PT X a (tW X.w X.K e O fw)) (h2 : PW X (.BoolOp .And (b :: rs) pos) (tW X.w X.K e O fu)) : PW X (.BoolOp .And (a :: b :: rs) pos) (tW X.w X.K e O fun ρ => fw ρ >>= fun c => if c then fu ρ else .ok false) := by
  refine pw_imp (pw_and h h2) fun σ H Q ⟨B, ρ, G, r, q⟩ => ⟨B, ρ, G, r, gd_mono (gd_bind.mp q) fun c z G1 H1 g1 => ?_⟩
  cases c with
  | true => exact ⟨B, ρ, G1, r.grow g1, gd_mono z fun c2 z2 G2 H2 g2 => z2 G2 H2 (g1.trans g2)⟩
  | false => exact z G1 H1 g1
theorem w_or (h : PT X a (tW X.w X.K e O fw)) (h2 : PW X (.BoolOp .Or (b :: rs) pos) (tW X.w X.K e O fu)) : PW X (.BoolOp .Or (a :: b :: rs) pos) (tW X.w X.K e O fun ρ => fw ρ >>= fun c => if c then .ok true else fu ρ) := by
  refine pw_imp (pw_or h h2) fun σ H Q ⟨B, ρ, G, r, q⟩ => ⟨B, ρ, G, r, gd_mono (gd_bind.mp q) fun c z G1 H1 g1 => ?_⟩
  cases c with
  | true => exact z G1 H1 g1
  | false => exact ⟨B, ρ, G1, r.grow g1, gd_mono z fun c2 z2 G2 H2 g2 => z2 G2 H2 (g1.trans g2)⟩
/-- .. as values, all but the last True or False -/
theorem v_one {op} (h : PE X a (tV X.w X.K e O fa)) : PE X (.BoolOp op [a] pos) (tV X.w X.K e O fa) := pe_one h
theorem v_and (h : PE X a (tV X.w X.K e O fa)) (h2 : PE X (.BoolOp .And (b :: rs) pos) (tV X.w X.K e O fb)) : PE X (.BoolOp .And (a :: b :: rs) pos) (tV X.w X.K e O fun ρ => (fa ρ >>= asB) >>= fun c => if c then fb ρ else .ok (.bool false)) := by
  refine pe_imp (pe_and h h2) fun σ H Q ⟨B, ρ, G, r, q⟩ => asB_in ⟨B, ρ, G, r, gd_mono (gd_bind.mp q) fun c z G1 H1 g1 => ?_⟩
  cases c with
  | true => exact ⟨B, ρ, G1, r.grow g1, gd_mono z fun d z2 v G2 H2 g2 t => z2 v G2 H2 (g1.trans g2) t⟩
  | false => exact z _ G1 H1 g1 (.bl false)
theorem v_or (h : PE X a (tV X.w X.K e O fa)) (h2 : PE X (.BoolOp .Or (b :: rs) pos) (tV X.w X.K e O fb)) : PE X (.BoolOp .Or (a :: b :: rs) pos) (tV X.w X.K e O fun ρ => (fa ρ >>= asB) >>= fun c => if c then .ok (.bool true) else fb ρ) := by
  refine pe_imp (pe_or h h2) fun σ H Q ⟨B, ρ, G, r, q⟩ => asB_in ⟨B, ρ, G, r, gd_mono (gd_bind.mp q) fun c z G1 H1 g1 => ?_⟩
  cases c with
  | true => exact z _ G1 H1 g1 (.bl true)
  | false => exact ⟨B, ρ, G1, r.grow g1, gd_mono z fun d z2 v G2 H2 g2 t => z2 v G2 H2 (g1.trans g2) t⟩
theorem v_not (h : PE X a (tV X.w X.K e O fa)) : PE X (.UnaryOp .Not a pos) (tV X.w X.K e O fun ρ => (fa ρ >>= asB) >>= fun c => .ok (.bool (!c))) := by
  refine pe_imp (pe_not h) fun σ H Q ⟨B, ρ, G, r, q⟩ => asB_in ⟨B, ρ, G, r, gd_mono (gd_bind.mp q) fun c z G1 H1 g1 => z _ G1 H1 g1 (.bl _)⟩
end
theorem v_if {c : Expr} (hc : PT X c (tW X.w X.K e O fw)) (ha : PE X a (tV X.w X.K e O fa)) (hb : PE X b (tV X.w X.K e O fb)) : PE X (.IfExp c a b pos) (tV X.w X.K e O fun ρ => fw ρ >>= fun k => if k then fa ρ else fb ρ) := by
  refine pe_imp (pe_ifExp hc ha hb) fun σ H Q ⟨B, ρ, G, r, q⟩ => ⟨B, ρ, G, r, gd_mono (gd_bind.mp q) fun k z G1 H1 g1 => ?_⟩
  cases k with
  | true => exact iteT ⟨B, ρ, G1, r.grow g1, gd_mono z fun d z2 v G2 H2 g2 t => z2 v G2 H2 (g1.trans g2) t⟩
  | false => exact iteF ⟨B, ρ, G1, r.grow g1, gd_mono z fun d z2 v G2 H2 g2 t => z2 v G2 H2 (g1.trans g2) t⟩

/-! ### what a slot of one's own says, where nothing of it is kept -/
def scalar : D → Bool
  | .none | .bool _ | .int _ | .str _ => true
  | _ => false
theorem Dt.scal {w : World} {K : PySem.W.Frag} {G G' : Hp} {v : V} {d : D} (t : Dt w K G v d) (h : scalar d = true) : Dt w K G' v d := by
  cases t with
  | non => exact .non
  | bl b => exact .bl b
  | int i => exact .int i
  | str x => exact .str x
  | lst _ _ => exact nomatch h
  | tup _ _ => exact nomatch h
  | dct _ _ _ _ _ _ => exact nomatch h
  | scr _ _ => exact nomatch h
/-- all slots frozen, for the time of one look -/
theorem Rp.allFrz {w : World} {K : PySem.W.Frag} {B : Bas} {ρ : Env'} {σ : L2.St} {G H : Hp} (r : Rp w K B O ρ σ G H) : ∃ G1, Sub G G1 ∧ Rp w K ⟨G1, H⟩ [] ρ σ G1 H := by
  -- every tracked list or dict is frozen
  refine ⟨H, r.sub, r.len, ⟨Sub.refl _, Sub.refl _, fun _ _ => rfl⟩, fun i d e _ => ?_, (fun _ _ _ z => nomatch z), (fun _ _ _ _ _ z => nomatch z)⟩
  by_cases hi : i ∈ O
  · obtain ⟨a, h1, h2, h3, h4⟩ := r.own i d e hi
    obtain ⟨u, hu⟩ := h2.there
    refine ⟨_, h1, (h2.dt h3 hu).sub fun b o q => ?_⟩
    by_cases hb : b = a
    · subst hb; rw [upd_same] at q; cases q; exact hu
    · rw [upd_ne hb] at q; exact r.sub b o q
  · obtain ⟨v, h1, h2⟩ := r.dat i d e hi
    exact ⟨v, h1, h2.sub r.sub⟩
def asS : D → R D
  | .none => .ok .none
  | .bool b => .ok (.bool b)
  | .int i => .ok (.int i)
  | .str x => .ok (.str x)
  | _ => stk
theorem asS_eq {d : D} {q : D → Prop} (h : gd (asS d) q e) : scalar d = true ∧ q d := by
  cases d <;> first | exact ⟨rfl, h⟩ | exact h.elim
theorem v_look (h : PE X a (tV X.w X.K e [] fa)) : PE X a (tV X.w X.K e O fun ρ => fa ρ >>= asS) := by
  refine pe_imp h fun σ H Q ⟨B, ρ, G, r, q⟩ => ?_
  obtain ⟨G1, s1, r1⟩ := r.allFrz
  refine ⟨_, ρ, G1, r1, gd_mono (gd_bind.mp q) fun d z v G2 H2 g2 t => ?_⟩
  obtain ⟨sc, z⟩ := asS_eq z
  exact z v G H2 ⟨r.sub.trans g2.keep, g2.keep, fun _ _ => rfl⟩ (t.scal sc)
theorem w_look (h : PT X a (tW X.w X.K e [] fw)) : PT X a (tW X.w X.K e O fw) := by
  refine pt_imp h fun σ H Q ⟨B, ρ, G, r, q⟩ => ?_
  obtain ⟨G1, s1, r1⟩ := r.allFrz
  exact ⟨_, ρ, G1, r1, gd_mono q fun d z G2 H2 g2 => z G H2 ⟨r.sub.trans g2.keep, g2.keep, fun _ _ => rfl⟩⟩

/-! ### argument lists, displays -/
theorem a_nil : PA X [] (tA X.w X.K e O fun _ => .ok []) := pa_imp pa_nil fun σ H Q ⟨B, ρ, G, r, q⟩ => q [] G H r.here .nil
theorem a_cons (ha : PE X a (tV X.w X.K e O fa)) (hs : PA X es (tA X.w X.K e O fs)) (h : starEach (a :: es) X.env = (false, eval a X.env) :: starEach es X.env := by rfl) :
    PA X (a :: es) (tA X.w X.K e O fun ρ => fa ρ >>= fun x => fs ρ >>= fun xs => .ok (x :: xs)) :=
  pa_imp (pa_cons ha hs h) fun σ H Q ⟨B, ρ, G, r, q⟩ => ⟨B, ρ, G, r, gd_mono (gd_bind.mp q) fun x q v G1 H1 g1 t1 => ⟨B, ρ, G1, r.grow g1, gd_mono (gd_bind.mp q) fun xs q vs G2 H2 g2 t2 =>
    q (v :: vs) G2 H2 (g1.trans g2) (.cons (t1.sub (g2.up g1.sub)) t2)⟩⟩
def lenOk (n : Nat) : R Unit := if n ≤ 16777216 then .ok () else stk
theorem lenOk_in {n : Nat} {q : Unit → Prop} (h : gd (lenOk n) q e) : n ≤ sizeLine ∧ q () := by
  unfold lenOk at h
  split at h
  · rename_i hn; exact ⟨by rw [sizeLine_eq]; exact hn, h⟩
  · exact h.elim
theorem v_tup {k} (hs : PA X es (tA X.w X.K e O fs)) : PE X (.Tuple es k pos) (tV X.w X.K e O fun ρ => fs ρ >>= fun xs => lenOk xs.length >>= fun _ => .ok (.tuple xs)) :=
  pe_imp (pe_tup hs) fun σ H Q ⟨B, ρ, G, r, q⟩ => ⟨B, ρ, G, r, gd_mono (gd_bind.mp q) fun xs q vs G1 H1 g1 t => by
    obtain ⟨hl, q⟩ := lenOk_in (gd_bind.mp q)
    refine ⟨by rw [t.length]; exact hl, fun p np => ?_⟩
    have g2 := Gr.new (o := .tup vs) g1.sub np
    exact q _ _ _ (g1.trans g2) (.tup (.inl (.inl upd_same)) (t.sub (g2.up g1.sub)))⟩
theorem o_lst (hs : PA X es (tA X.w X.K e O fs)) : PE X (.List es pos) (tO X.w X.K e O fun ρ => fs ρ >>= fun xs => lenOk xs.length >>= fun _ => .ok (.list xs)) :=
  pe_imp (pe_lst hs) fun σ H Q ⟨B, ρ, G, r, q⟩ => ⟨B, ρ, G, r, gd_mono (gd_bind.mp q) fun xs q vs G1 H1 g1 t => by
    obtain ⟨hl, q⟩ := lenOk_in (gd_bind.mp q)
    refine ⟨by rw [t.length]; exact hl, fun p np => ?_⟩
    have hn : H p = none := by
      cases z : H p with
      | none => rfl
      | some o => rw [g1.keep p o z] at np; cases np
    refine q p G1 _ (g1.trans (Gr.own g1.sub np)) hn ?_ (.inl ⟨vs, xs, rfl, upd_same, t⟩)
    cases z : G1 p with
    | none => rfl
    | some o => rw [g1.sub p o z] at np; cases np⟩
theorem v_own (h : PE X a (tO X.w X.K e O fa)) : PE X a (tV X.w X.K e O fa) := by
  refine pe_imp h fun σ H Q ⟨B, ρ, G, r, q⟩ => ⟨B, ρ, G, r, gd_mono q fun d z p G1 H1 g1 n1 n2 o => ?_⟩
  obtain ⟨u, hu⟩ := o.there
  exact z (.ref p) _ H1 (g1.frz n1 hu) (o.dt n2 hu)
theorem v_lst (hs : PA X es (tA X.w X.K e O fs)) : PE X (.List es pos) (tV X.w X.K e O fun ρ => fs ρ >>= fun xs => lenOk xs.length >>= fun _ => .ok (.list xs)) := v_own (o_lst hs)

/-! ### slices -/
def asI : D → R Int
  | .int i => .ok i
  | _ => stk
def rS (w : World) (K : PySem.W.Frag) (g : D → Option Int → Option Int → R D) : V → Option Int → Option Int → Hp → VK → Prop := fun x lo hi H Q => ∃ G da e, Sub G H ∧ Dt w K G x da ∧
  gd (g da lo hi) (fun d => ∀ v G' H', Gr G H G' H' → Dt w K G' v d → Q v H') e
def tP (w : World) (K : PySem.W.Frag) (e : Nat → D → Prop) (O : List Nat) (f : Env' → R (Option Int)) : TO := fun σ H Q => ∃ B ρ G, Rp w K B O ρ σ G H ∧
  gd (f ρ) (fun o => ∀ G' H', Gr G H G' H' → Q o H') e
theorem po_imp {o : Option Expr} {t t' : TO} (h : PO X o t) (i : ∀ σ H Q, t' σ H Q → t σ H Q) : PO X o t' := ⟨fun p s σ H Q I q => h.run p s σ H Q I (i σ H Q q)⟩
theorem p_no : PO X none (tP X.w X.K e O fun _ => .ok none) := po_imp po_none fun σ H Q ⟨B, ρ, G, r, q⟩ => q G H r.here
theorem asI_in {d : D} {v : V} {G : Hp} {q : Int → Prop} (t : Dt X.w X.K G v d) (h : gd (asI d) q e) : ∃ i, v = .int i ∧ q i := by
  cases t with
  | int i => exact ⟨i, rfl, h⟩
  | non => exact h.elim
  | bl _ => exact h.elim
  | str _ => exact h.elim
  | lst _ _ => exact h.elim
  | tup _ _ => exact h.elim
  | dct _ _ _ _ _ _ => exact h.elim
  | scr _ _ => exact h.elim
theorem p_so (h : PE X a (tV X.w X.K e O fa)) : PO X (some a) (tP X.w X.K e O fun ρ => fa ρ >>= fun d => asI d >>= fun i => .ok (some i)) :=
  po_imp (po_some h) fun σ H Q ⟨B, ρ, G, r, q⟩ => ⟨B, ρ, G, r, gd_mono (gd_bind.mp q) fun d z v G1 H1 g1 t => by
    obtain ⟨i, rfl, z⟩ := asI_in t (gd_bind.mp z)
    exact ⟨i, rfl, z G1 H1 g1⟩⟩
theorem v_sl {lo hi : Option Expr} {fl fh : Env' → R (Option Int)} {p2 : Pos} {g : D → Option Int → Option Int → R D} (hr : SlR X (rS X.w X.K g)) (ha : PE X a (tV X.w X.K e O fa)) (hl : PO X lo (tP X.w X.K e O fl)) (hh : PO X hi (tP X.w X.K e O fh)) :
    PE X (.Subscript a (.Slice lo hi none p2) pos) (tV X.w X.K e O fun ρ => fa ρ >>= fun x => fl ρ >>= fun l => fh ρ >>= fun h => g x l h) :=
  pe_imp (pe_slice hr ha hl hh) fun σ H Q ⟨B, ρ, G, r, q⟩ => ⟨B, ρ, G, r, gd_mono (gd_bind.mp q) fun x q v G1 H1 g1 t1 => ⟨B, ρ, G1, r.grow g1, gd_mono (gd_bind.mp q) fun l q G2 H2 g2 => ⟨B, ρ, G2, (r.grow g1).grow g2,
    gd_mono (gd_bind.mp q) fun h q G3 H3 g3 => ⟨G3, x, e, g3.sub, t1.sub ((g2.trans g3).up g1.sub), gd_mono q fun d q v G' H' g4 t => q v G' H' (((g1.trans g2).trans g3).trans g4) t⟩⟩⟩⟩

/-! ### calls of built-ins by value -/
def rC (w : World) (K : PySem.W.Frag) (g : List D → R D) : List V → Hp → VK → Prop := fun xs H Q => ∃ G ds e, Sub G H ∧ DtAll w K G xs ds ∧
  gd (g ds) (fun d => ∀ v G' H', Gr G H G' H' → Dt w K G' v d → Q v H') e
def rCo (w : World) (K : PySem.W.Frag) (g : List D → R D) : List V → Hp → VK → Prop := fun xs H Q => ∃ G ds e, Sub G H ∧ DtAll w K G xs ds ∧
  gd (g ds) (fun d => ∀ a G' H', Gr G H G' H' → H a = none → G' a = none → Own w K G' H' a d → Q (.ref a) H') e
theorem callr_imp {f : Value} {r r' : List V → Hp → VK → Prop} (h : CallR X f r) (i : ∀ x H Q, r' x H Q → r x H Q) : CallR X f r' := fun p s σ H x u Q I a q => h p s σ H x u Q I a (i x H Q q)
theorem args {g : List D → R D} {σ : L2.St} {H : Hp} {Q : VK} (h : tV X.w X.K e O (fun ρ => fs ρ >>= g) σ H Q) : tA X.w X.K e O fs σ H fun vs H1 => rC X.w X.K g vs H1 Q := by
  obtain ⟨B, ρ, G, r, h⟩ := h
  exact ⟨B, ρ, G, r, gd_mono (gd_bind.mp h) fun ds h vs G1 H1 g1 t => ⟨G1, ds, e, g1.sub, t, gd_mono h fun d q v G' H' g2 t => q v G' H' (g1.trans g2) t⟩⟩
theorem argsO {g : List D → R D} {σ : L2.St} {H : Hp} {Q : VK} (h : tO X.w X.K e O (fun ρ => fs ρ >>= g) σ H Q) : tA X.w X.K e O fs σ H fun vs H1 => rCo X.w X.K g vs H1 Q := by
  obtain ⟨B, ρ, G, r, h⟩ := h
  refine ⟨B, ρ, G, r, gd_mono (gd_bind.mp h) fun ds h vs G1 H1 g1 t => ⟨G1, ds, e, g1.sub, t, gd_mono h fun d q a G' H' g2 n t => q a G' H' (g1.trans g2) ?_ t⟩⟩
  cases z : H a with
  | none => rfl
  | some o => rw [g1.keep a o z] at n; cases n
section
variable {x : Str} {p : Pos} {id T : String} {g : List D → R D}
theorem v_cb (hc : CallR X (.builtin id) (rC X.w X.K g)) (hm : X.mg x = none) (hs : PA X (a :: es) (tA X.w X.K e O fs)) (hv : bootBuiltins x = some (.builtin id) := by decide +kernel) (hg : Gl X x := by rfl) (hn : x ≠ "__name__" := by decide) (hdb : (x == ("__debug__" : Str)) = false := by decide)
    (he : starEach (a :: es) X.env = (false, eval a X.env) :: starEach es X.env := by rfl) (hpl : (backTo pos (starEach es X.env)).any (·.1) = false := by rfl) : PE X (.Call (.Name x p) (a :: es) [] pos) (tV X.w X.K e O fun ρ => fs ρ >>= g) :=
  pe_imp (pe_callB hc hg hm hv hs hn hdb he hpl) fun _ _ _ h => args h
theorem o_cb (hc : CallR X (.builtin id) (rCo X.w X.K g)) (hm : X.mg x = none) (hs : PA X (a :: es) (tA X.w X.K e O fs)) (hv : bootBuiltins x = some (.builtin id) := by decide +kernel) (hg : Gl X x := by rfl) (hn : x ≠ "__name__" := by decide) (hdb : (x == ("__debug__" : Str)) = false := by decide)
    (he : starEach (a :: es) X.env = (false, eval a X.env) :: starEach es X.env := by rfl) (hpl : (backTo pos (starEach es X.env)).any (·.1) = false := by rfl) : PE X (.Call (.Name x p) (a :: es) [] pos) (tO X.w X.K e O fun ρ => fs ρ >>= g) :=
  pe_imp (pe_callB hc hg hm hv hs hn hdb he hpl) fun _ _ _ h => argsO h
theorem v_ct (hc : CallR X (.type T) (rC X.w X.K g)) (hm : X.mg x = none) (hs : PA X (a :: es) (tA X.w X.K e O fs)) (hv : bootBuiltins x = some (.type T) := by decide +kernel) (hg : Gl X x := by rfl) (hn : x ≠ "__name__" := by decide) (hdb : (x == ("__debug__" : Str)) = false := by decide)
    (he : starEach (a :: es) X.env = (false, eval a X.env) :: starEach es X.env := by rfl) (hpl : (backTo pos (starEach es X.env)).any (·.1) = false := by rfl) : PE X (.Call (.Name x p) (a :: es) [] pos) (tV X.w X.K e O fun ρ => fs ρ >>= g) :=
  pe_imp (pe_callTy hc hg hm hv hs hn hdb he hpl) fun _ _ _ h => args h
theorem o_ct (hc : CallR X (.type T) (rCo X.w X.K g)) (hm : X.mg x = none) (hs : PA X (a :: es) (tA X.w X.K e O fs)) (hv : bootBuiltins x = some (.type T) := by decide +kernel) (hg : Gl X x := by rfl) (hn : x ≠ "__name__" := by decide) (hdb : (x == ("__debug__" : Str)) = false := by decide)
    (he : starEach (a :: es) X.env = (false, eval a X.env) :: starEach es X.env := by rfl) (hpl : (backTo pos (starEach es X.env)).any (·.1) = false := by rfl) : PE X (.Call (.Name x p) (a :: es) [] pos) (tO X.w X.K e O fun ρ => fs ρ >>= g) :=
  pe_imp (pe_callTy hc hg hm hv hs hn hdb he hpl) fun _ _ _ h => argsO h
end

/-! ### calls of defs -/
/-- the promise of a def: from frozen data it gives f's datum, frozen (fr: a new list or dict of one's own) -/
def Back (w : World) (K : PySem.W.Frag) (fr : Bool) (G H G' H' : Hp) (v : V) (d : D) : Prop := Gr G H G' H' ∧
  match fr with
  | true => ∃ a, v = .ref a ∧ H a = none ∧ G' a = none ∧ Own w K G' H' a d
  | false => Dt w K G' v d
def fnD (n : Nat) (f : List D → R D) (ds : List D) : R D := if ds.length = n then f ds else stk
def spD (w : World) (K : PySem.W.Frag) (cl : Nat → Addr) (n : Nat) (fr : Bool) (f : List D → R D) : Sp := fun vs H Q E => ∃ ds G, Sub G H ∧ DtAll w K G vs ds ∧
  gd (fnD n f ds) (fun d => ∀ v G' H', Back w K fr G H G' H' v d → Q v H') fun c d => ∀ v G' H' dd, Gr G H G' H' → Dt w K G' v d → H' dd = some (.xd [("at", v)]) → E (.ref (cl c)) (some dd) H'
/-- the global x is such a def -/
structure Cal (P : Program) (w : World) (K : PySem.W.Frag) (mg : Str → Option Value) (base : Heap) (CX : CXT) (cl : Nat → Addr) (k : Nat) (x : Str) (n : Nat) (fr : Bool) (f : List D → R D) : Prop where
  ex : ∃ (a : Addr) (fd : FuncData) (ps : List Str), FnOk P w K mg base CX k a fd ps (spD w K cl n fr f) ∧ mg x = some (.ref a) ∧ PySem.W.keepIn K (.ref a) = true ∧ Binds K fd ps []
section
variable {CX : CXT} {cl : Nat → Addr} {k j n : Nat} {x : Str} {p : Pos} {f : List D → R D} {E : XK}
/-- what is wished of an error, as the callee's E -/
def Wish (e : Nat → D → Prop) (w : World) (K : PySem.W.Frag) (cl : Nat → Addr) (E : XK) : Prop := ∀ c d, e c d → ∀ v G' H' dd, Dt w K G' v d → H' dd = some (.xd [("at", v)]) → E (.ref (cl c)) (some dd) H'
theorem v_fn (C : Cal X.prog X.w X.K X.mg X.base CX cl k x n false f) (hr : Room j X.A) (hx : Passes CX X E) (hw : Wish e X.w X.K cl E) (hs : PA X (a :: es) (tA X.w X.K e O fs)) (hk : k ≤ j := by decide) (hg : Gl X x := by rfl) (hdb : (x == ("__debug__" : Str)) = false := by decide)
    (he : starEach (a :: es) X.env = (false, eval a X.env) :: starEach es X.env := by rfl) (hpl : (backTo pos (starEach es X.env)).any (·.1) = false := by rfl) : PE X (.Call (.Name x p) (a :: es) [] pos) (tV X.w X.K e O fun ρ => fs ρ >>= fnD n f) := by
  obtain ⟨fa, fd, ps, F, m, kp, b⟩ := C.ex
  refine pe_imp (pe_call F (hr.mono hk) hg m kp b .nil hx hs hdb he hpl) fun σ H Q ⟨B, ρ, G, r, q⟩ => ⟨B, ρ, G, r, gd_mono (gd_bind.mp q) fun ds q vs G1 H1 g1 t => ?_⟩
  refine ⟨ds, G1, g1.sub, by rw [List.append_nil]; exact t, gd_mono2 q (fun d q v G2 H2 bk => q v G2 H2 (g1.trans bk.1) bk.2) fun c d h v G' H' dd _ t' h' => hw c d h v G' H' dd t' h'⟩
theorem o_fn (C : Cal X.prog X.w X.K X.mg X.base CX cl k x n true f) (hr : Room j X.A) (hx : Passes CX X E) (hw : Wish e X.w X.K cl E) (hs : PA X (a :: es) (tA X.w X.K e O fs)) (hk : k ≤ j := by decide) (hg : Gl X x := by rfl) (hdb : (x == ("__debug__" : Str)) = false := by decide)
    (he : starEach (a :: es) X.env = (false, eval a X.env) :: starEach es X.env := by rfl) (hpl : (backTo pos (starEach es X.env)).any (·.1) = false := by rfl) : PE X (.Call (.Name x p) (a :: es) [] pos) (tO X.w X.K e O fun ρ => fs ρ >>= fnD n f) := by
  obtain ⟨fa, fd, ps, F, m, kp, b⟩ := C.ex
  refine pe_imp (pe_call F (hr.mono hk) hg m kp b .nil hx hs hdb he hpl) fun σ H Q ⟨B, ρ, G, r, q⟩ => ⟨B, ρ, G, r, gd_mono (gd_bind.mp q) fun ds q vs G1 H1 g1 t => ?_⟩
  refine ⟨ds, G1, g1.sub, by rw [List.append_nil]; exact t, gd_mono2 q (fun d q v G2 H2 bk => ?_) fun c d h v G' H' dd _ t' h' => hw c d h v G' H' dd t' h'⟩
  obtain ⟨g2, a, rfl, n1, n2, o⟩ := bk
  refine q a G2 H2 (g1.trans g2) ?_ n2 o
  cases z : H a with
  | none => rfl
  | some u => rw [g1.keep a u z] at n1; cases n1
end
end
end Vs

set_option Elab.async false
set_option linter.all false
set_option maxRecDepth 100000
/-! Targets, walks, statements, loops, comprehensions, a def's rule. -/
namespace Vs
open PySem PySem.Spec PyProof.Rows L2

/-! ### slots stored, frozen -/
section
variable {w : World} {K : PySem.W.Frag} {B : Bas} {O O' : List Nat} {ρ : Env'} {σ : L2.St} {G H : Hp} {i : Nat} {d : D} {v : V}
theorem get_set {α : Type} {l : List α} {i j : Nat} {x y : α} (h : (l.set i x)[j]? = some y) : (j = i ∧ y = x ∧ i < l.length) ∨ (j ≠ i ∧ l[j]? = some y) := by
  by_cases e : j = i
  · subst e
    by_cases hl : j < l.length
    · rw [List.getElem?_set_self hl] at h
      exact .inl ⟨rfl, (Option.some.inj h).symm, hl⟩
    · rw [List.getElem?_eq_none (by rw [List.length_set]; omega)] at h
      cases h
  · rw [List.getElem?_set_ne (Ne.symm e)] at h
    exact .inr ⟨e, h⟩
/-- the slot i gets frozen data -/
theorem Rp.put (r : Rp w K B O ρ σ G H) (t : Dt w K G v d) (h1 : ∀ j ∈ O', j ∈ O ∧ j ≠ i) (h2 : ∀ j ∈ O, j = i ∨ j ∈ O') : Rp w K B O' (ρ.set i (some d)) (σ.set i (some v)) G H where
  len := by rw [List.length_set, List.length_set]; exact r.len
  gr := r.gr
  dat := fun j dj e n => by
    rcases get_set e with ⟨rfl, e2, hl⟩ | ⟨ne, e2⟩
    · cases e2
      exact ⟨v, List.getElem?_set_self (by rw [r.len]; exact hl), t⟩
    · obtain ⟨u, q1, q2⟩ := r.dat j dj e2 fun hj => (h2 j hj).elim ne n
      exact ⟨u, by rw [List.getElem?_set_ne (Ne.symm ne)]; exact q1, q2⟩
  own := fun j dj e hj => by
    obtain ⟨ho, ne⟩ := h1 j hj
    rcases get_set e with ⟨e2, _, _⟩ | ⟨_, e2⟩
    · exact absurd e2 ne
    · obtain ⟨a, q1, q2⟩ := r.own j dj e2 ho
      exact ⟨a, by rw [List.getElem?_set_ne (Ne.symm ne)]; exact q1, q2⟩
  sep := fun j k a dj dk hj hk e1 e2 s1 s2 => by
    obtain ⟨o1, n1⟩ := h1 j hj
    obtain ⟨o2, n2⟩ := h1 k hk
    rw [List.getElem?_set_ne (Ne.symm n1)] at e1 s1
    rw [List.getElem?_set_ne (Ne.symm n2)] at e2 s2
    exact r.sep j k a dj dk o1 o2 e1 e2 s1 s2
/-- the slot i gets a new object of one's own -/
theorem Rp.putO {G' H' : Hp} {a : Addr} (r : Rp w K B O ρ σ G H) (g : Gr G H G' H') (n1 : H a = none) (n2 : G' a = none) (o : Own w K G' H' a d) (h0 : i ∈ O') (h1 : ∀ j ∈ O', j = i ∨ j ∈ O) (h2 : ∀ j ∈ O, j = i ∨ j ∈ O') :
    Rp w K B O' (ρ.set i (some d)) (σ.set i (some (.ref a))) G' H' where
  len := by rw [List.length_set, List.length_set]; exact r.len
  gr := r.gr.trans g
  dat := fun j dj e n => by
    rcases get_set e with ⟨rfl, e2, hl⟩ | ⟨ne, e2⟩
    · exact absurd h0 n
    · obtain ⟨u, q1, q2⟩ := (r.grow g).dat j dj e2 fun hj => (h2 j hj).elim ne n
      exact ⟨u, by rw [List.getElem?_set_ne (Ne.symm ne)]; exact q1, q2⟩
  own := fun j dj e hj => by
    rcases get_set e with ⟨rfl, e2, hl⟩ | ⟨ne, e2⟩
    · cases e2
      refine ⟨a, List.getElem?_set_self (by rw [r.len]; exact hl), o, n2, ?_⟩
      cases z : B.H a with
      | none => rfl
      | some u => rw [r.gr.keep a u z] at n1; cases n1
    · obtain ⟨b, q1, q2⟩ := (r.grow g).own j dj e2 ((h1 j hj).resolve_left ne)
      exact ⟨b, by rw [List.getElem?_set_ne (Ne.symm ne)]; exact q1, q2⟩
  sep := fun j k b dj dk hj hk e1 e2 s1 s2 => by
    have apart : ∀ (k : Nat) (dk : D), k ∈ O → ρ[k]? = some (some dk) → σ[k]? ≠ some (some (.ref a)) := fun k dk hk e z => by
      obtain ⟨c, q1, q2, _⟩ := r.own k dk e hk
      rw [z] at q1; cases q1
      obtain ⟨u, hu⟩ := q2.there
      rw [hu] at n1; cases n1
    rcases get_set e1 with ⟨z1, _, hl⟩ | ⟨ne1, f1⟩
    · rw [z1, List.getElem?_set_self (by rw [r.len]; exact hl)] at s1
      cases s1
      rcases get_set e2 with ⟨z2, _, _⟩ | ⟨ne2, f2⟩
      · rw [z1, z2]
      · rw [List.getElem?_set_ne (Ne.symm ne2)] at s2
        exact absurd s2 (apart k dk ((h1 k hk).resolve_left ne2) f2)
    · rw [List.getElem?_set_ne (Ne.symm ne1)] at s1
      rcases get_set e2 with ⟨z2, _, hl⟩ | ⟨ne2, f2⟩
      · rw [z2, List.getElem?_set_self (by rw [r.len]; exact hl)] at s2
        cases s2
        exact absurd s1 (apart j dj ((h1 j hj).resolve_left ne1) f1)
      · rw [List.getElem?_set_ne (Ne.symm ne2)] at s2
        exact r.sep j k b dj dk ((h1 j hj).resolve_left ne1) ((h1 k hk).resolve_left ne2) f1 f2 s1 s2
/-- an object of one's own is written -/
theorem Rp.wr {o : HO} {a : Addr} {d0 : D} (r : Rp w K B O ρ σ G H) (hi : i ∈ O) (e : ρ[i]? = some (some d0)) (s : σ[i]? = some (some (.ref a))) (q : Own w K G (upd H a o) a d) : Rp w K B O (ρ.set i (some d)) σ G (upd H a o) := by
  have sp := r.own i d0 e hi
  obtain ⟨a', s', o0, ng, nb⟩ := sp
  rw [s] at s'; cases s'
  have hl : i < ρ.length := (List.getElem?_eq_some_iff.mp e).1
  refine ⟨by rw [List.length_set]; exact r.len, ⟨fun b u z => ?_, fun b u z => ?_, r.gr.fix⟩, fun j dj ej n => ?_, fun j dj ej hj => ?_, fun j k b dj dk hj hk e1 e2 s1 s2 => ?_⟩
  · rw [upd_ne (ne_of_none z ng)]; exact r.sub b u z
  · rw [upd_ne (ne_of_none z nb)]; exact r.gr.keep b u z
  · rcases get_set ej with ⟨rfl, _, _⟩ | ⟨ne, ej⟩
    · exact absurd hi n
    · exact r.dat j dj ej n
  · rcases get_set ej with ⟨rfl, e2, _⟩ | ⟨ne, ej⟩
    · cases e2; exact ⟨a, s, q, ng, nb⟩
    · obtain ⟨b, q1, q2, q3⟩ := r.own j dj ej hj
      have nb' : b ≠ a := fun z => by subst z; exact ne (r.sep j i b dj d0 hj hi ej e q1 s)
      exact ⟨b, q1, q2.grow (Sub.refl _) (upd_ne nb'), q3⟩
  · have at_ : ∀ {k : Nat} {dk : D}, (ρ.set i (some d))[k]? = some (some dk) → ∃ dk', ρ[k]? = some (some dk') := fun {k dk} z => by
      rcases get_set z with ⟨rfl, _, _⟩ | ⟨_, z⟩
      · exact ⟨_, e⟩
      · exact ⟨_, z⟩
    obtain ⟨x1, e1⟩ := at_ e1
    obtain ⟨x2, e2⟩ := at_ e2
    exact r.sep j k b x1 x2 hj hk e1 e2 s1 s2
/-- one slot is frozen -/
theorem Rp.frz1 (r : Rp w K B O ρ σ G H) (i : Nat) : ∃ G', Sub G G' ∧ Rp w K B (O.filter fun j => decide (j ≠ i)) ρ σ G' H := by
  have mem : ∀ {j}, j ∈ (O.filter fun j => decide (j ≠ i)) ↔ j ∈ O ∧ j ≠ i := fun {j} => by rw [List.mem_filter, decide_eq_true_eq]
  by_cases hi : i ∈ O
  · cases e : ρ[i]? with
    | none => exact ⟨G, Sub.refl _, r.len, r.gr, fun j dj ej n => r.dat j dj ej fun hj => n (mem.mpr ⟨hj, fun z => by subst z; rw [e] at ej; cases ej⟩), fun j dj ej hj => r.own j dj ej (mem.mp hj).1, fun j k b dj dk hj hk => r.sep j k b dj dk (mem.mp hj).1 (mem.mp hk).1⟩
    | some od =>
      cases od with
      | none => exact ⟨G, Sub.refl _, r.len, r.gr, fun j dj ej n => r.dat j dj ej fun hj => n (mem.mpr ⟨hj, fun z => by subst z; rw [e] at ej; cases ej⟩), fun j dj ej hj => r.own j dj ej (mem.mp hj).1, fun j k b dj dk hj hk => r.sep j k b dj dk (mem.mp hj).1 (mem.mp hk).1⟩
      | some d0 =>
        obtain ⟨a, s, o, ng, nb⟩ := r.own i d0 e hi
        obtain ⟨u, hu⟩ := o.there
        have sg : Sub G (upd G a u) := fun b x z => by rw [upd_ne (ne_of_none z ng)]; exact z
        refine ⟨upd G a u, sg, r.len, ⟨fun b x z => ?_, r.gr.keep, fun b z => ?_⟩, fun j dj ej n => ?_, fun j dj ej hj => ?_, fun j k b dj dk hj hk => r.sep j k b dj dk (mem.mp hj).1 (mem.mp hk).1⟩
        · by_cases hb : b = a
          · subst hb; rw [upd_same] at z; cases z; exact hu
          · rw [upd_ne hb] at z; exact r.sub b x z
        · rw [upd_ne fun q => z (by rw [q]; exact nb)]; exact r.gr.fix b z
        · by_cases hj : j = i
          · subst hj; rw [e] at ej; cases ej; exact ⟨_, s, o.dt ng hu⟩
          · obtain ⟨x, q1, q2⟩ := r.dat j dj ej fun z => n (mem.mpr ⟨z, hj⟩)
            exact ⟨x, q1, q2.sub sg⟩
        · obtain ⟨hjO, hji⟩ := mem.mp hj
          obtain ⟨b, q1, q2, q3, q4⟩ := r.own j dj ej hjO
          have ne : b ≠ a := fun z => by subst z; exact hji (r.sep j i b dj d0 hjO hi ej e q1 s)
          exact ⟨b, q1, q2.grow sg rfl, by rw [upd_ne ne]; exact q3, q4⟩
  · exact ⟨G, Sub.refl _, r.len, r.gr, fun j dj ej n => r.dat j dj ej fun hj => n (mem.mpr ⟨hj, fun z => hi (z ▸ hj)⟩), fun j dj ej hj => r.own j dj ej (mem.mp hj).1, fun j k b dj dk hj hk => r.sep j k b dj dk (mem.mp hj).1 (mem.mp hk).1⟩
/-- an object that is neither frozen nor a slot's -/
theorem Rp.out {a : Addr} {o : HO} (r : Rp w K B O ρ σ G H) (n : G a = none) (nb : B.H a = none) (ap : ∀ (i : Nat) (d : D), i ∈ O → ρ[i]? = some (some d) → σ[i]? ≠ some (some (.ref a))) : Rp w K B O ρ σ G (upd H a o) where
  len := r.len
  gr := ⟨fun b u z => by rw [upd_ne (ne_of_none z n)]; exact r.sub b u z, fun b u z => by rw [upd_ne (ne_of_none z nb)]; exact r.gr.keep b u z, r.gr.fix⟩
  dat := r.dat
  own := fun i d e hi => by
    obtain ⟨b, q1, q2, q3⟩ := r.own i d e hi
    exact ⟨b, q1, q2.grow (Sub.refl _) (upd_ne fun z => ap i d hi e (by rw [← z]; exact q1)), q3⟩
  sep := r.sep
/-- what is known of O is a matter of its members -/
theorem Rp.re (r : Rp w K B O ρ σ G H) (h1 : ∀ j ∈ O', j ∈ O) (h2 : ∀ j ∈ O, j ∈ O') : Rp w K B O' ρ σ G H :=
  ⟨r.len, r.gr, fun j dj e n => r.dat j dj e fun z => n (h2 j z), fun j dj e hj => r.own j dj e (h1 j hj), fun j k b dj dk hj hk => r.sep j k b dj dk (h1 j hj) (h1 k hk)⟩
theorem Rp.frzTo (r : Rp w K B O ρ σ G H) (h1 : ∀ j ∈ O', j ∈ O) : ∃ G', Sub G G' ∧ Rp w K B O' ρ σ G' H := by
  have step : ∀ (l : List Nat) (O1 : List Nat) (G1 : Hp), Sub G G1 → Rp w K B O1 ρ σ G1 H → (∀ j ∈ O1, j ∈ O' ∨ j ∈ l) → (∀ j ∈ O', j ∈ O1) → (∀ j ∈ l, j ∉ O') → ∃ G', Sub G G' ∧ Rp w K B O' ρ σ G' H := by
    intro l
    induction l with
    | nil => intro O1 G1 s1 r1 a b _; exact ⟨G1, s1, r1.re b fun j hj => (a j hj).resolve_right (by simp)⟩
    | cons i l ih =>
      intro O1 G1 s1 r1 a b c
      obtain ⟨G2, s2, r2⟩ := r1.frz1 i
      refine ih _ G2 (s1.trans s2) r2 (fun j hj => ?_) (fun j hj => ?_) fun j hj => c j (List.mem_cons_of_mem _ hj)
      · obtain ⟨x, y⟩ := List.mem_filter.mp hj
        have y : j ≠ i := of_decide_eq_true y
        rcases a j x with z | z
        · exact .inl z
        · exact .inr ((List.mem_cons.mp z).resolve_left y)
      · exact List.mem_filter.mpr ⟨b j hj, decide_eq_true fun z => c i List.mem_cons_self (z ▸ hj)⟩
  refine step (O.filter fun j => decide (j ∉ O')) O G (Sub.refl _) r (fun j hj => ?_) h1 fun j hj => of_decide_eq_true (List.mem_filter.mp hj).2
  by_cases z : j ∈ O'
  · exact .inl z
  · exact .inr (List.mem_filter.mpr ⟨hj, decide_eq_true z⟩)
end

/-! ### statements -/
inductive Out where
  | nx (ρ : Env')
  | rt (d : D)
/-- what is wanted behind a statement -/
def Post (w : World) (K : PySem.W.Frag) (B : Bas) (O : List Nat) (fr : Bool) (G : Hp) (Dn : Ends) : Out → Prop
  | .nx ρ => ∀ σ G' H', Sub G G' → Rp w K B O ρ σ G' H' → Dn.nx σ H'
  | .rt d => ∀ v G' H', Back w K fr B.G B.H G' H' v d → Dn.rt v H'
def sV (w : World) (K : PySem.W.Frag) (e : Nat → D → Prop) (O O' : List Nat) (fr : Bool) (f : Env' → R Out) : TS := fun Dn σ H => ∃ B ρ G, Rp w K B O ρ σ G H ∧ gd (f ρ) (Post w K B O' fr G Dn) e
theorem Post.up {w : World} {K : PySem.W.Frag} {B : Bas} {O : List Nat} {fr : Bool} {G G' : Hp} {Dn : Ends} {o : Out} (s : Sub G G') (h : Post w K B O fr G Dn o) : Post w K B O fr G' Dn o := by
  cases o with
  | nx ρ => exact fun σ G2 H2 s2 r => h σ G2 H2 (s.trans s2) r
  | rt d => exact h
def seqD (f g : Env' → R Out) : Env' → R Out := fun ρ => f ρ >>= fun o => match o with
  | .nx ρ' => g ρ'
  | .rt d => .ok (.rt d)
section
variable {X : Cx} {a b : Expr} {st : Stmt} {sts : List Stmt} {pos : Pos} {e : Nat → D → Prop} {O O1 O' : List Nat} {fr : Bool} {fa : Env' → R D} {f g : Env' → R Out} {fw : Env' → R Bool} {i : Nat}
theorem s_nil : PSs X [] (sV X.w X.K e O O fr fun ρ => .ok (.nx ρ)) := pss_imp pss_nil fun Dn σ H ⟨B, ρ, G, r, q⟩ => q σ G H (Sub.refl _) r
theorem s_cons (h1 : PS X st (sV X.w X.K e O O1 fr f)) (h2 : PSs X sts (sV X.w X.K e O1 O' fr g)) : PSs X (st :: sts) (sV X.w X.K e O O' fr (seqD f g)) := by
  refine pss_imp (pss_cons h1 h2) fun Dn σ H ⟨B, ρ, G, r, q⟩ => ⟨B, ρ, G, r, gd_mono (gd_bind.mp q) fun o q => ?_⟩
  cases o with
  | nx ρ' => exact fun σ' G' H' s' r' => ⟨B, ρ', G', r', gd_mono q fun o q => q.up s'⟩
  | rt d => exact q
theorem s_one (h1 : PS X st (sV X.w X.K e O O' fr f)) : PSs X [st] (sV X.w X.K e O O' fr f) := pss_one h1
/-- slots frozen ahead of a block; behind it -/
theorem s_frz (h : PSs X sts (sV X.w X.K e O1 O' fr f)) (h1 : ∀ j ∈ O1, j ∈ O := by decide) : PSs X sts (sV X.w X.K e O O' fr f) := by
  refine pss_imp h fun Dn σ H ⟨B, ρ, G, r, q⟩ => ?_
  obtain ⟨G', s', r'⟩ := r.frzTo h1
  exact ⟨B, ρ, G', r', gd_mono q fun o q => q.up s'⟩
theorem s_frzE (h : PSs X sts (sV X.w X.K e O O1 fr f)) (h1 : ∀ j ∈ O', j ∈ O1 := by decide) : PSs X sts (sV X.w X.K e O O' fr f) := by
  refine pss_imp h fun Dn σ H ⟨B, ρ, G, r, q⟩ => ⟨B, ρ, G, r, gd_mono q fun o q => ?_⟩
  cases o with
  | nx ρ' =>
    intro σ' G' H' s' r'
    obtain ⟨G2, s2, r2⟩ := r'.frzTo h1
    exact q σ' G2 H' (s'.trans s2) r2
  | rt d => exact q
theorem s_frz1 (h : PS X st (sV X.w X.K e O1 O' fr f)) (h1 : ∀ j ∈ O1, j ∈ O := by decide) : PS X st (sV X.w X.K e O O' fr f) := by
  refine ps_imp h fun Dn σ H ⟨B, ρ, G, r, q⟩ => ?_
  obtain ⟨G', s', r'⟩ := r.frzTo h1
  exact ⟨B, ρ, G', r', gd_mono q fun o q => q.up s'⟩
/-- a way that is not gone -/
theorem s_nev : PS X st (sV X.w X.K e O O' fr fun _ => stk) := ps_imp ps_never fun Dn σ H ⟨B, ρ, G, r, q⟩ => q
theorem s_nevs : PSs X sts (sV X.w X.K e O O' fr fun _ => stk) := pss_imp pss_never fun Dn σ H ⟨B, ρ, G, r, q⟩ => q
theorem s_doc {x j p p'} : PS X (.Expr (.Constant (.str x) j p) p') (sV X.w X.K e O O fr fun ρ => .ok (.nx ρ)) := ps_imp ps_doc fun Dn σ H ⟨B, ρ, G, r, q⟩ => q σ G H (Sub.refl _) r
theorem s_ex (h : PE X a (tV X.w X.K e O fa)) (hs : swapsWith a none pos.line X.env = pure false := by rfl) : PS X (.Expr a pos) (sV X.w X.K e O O fr fun ρ => fa ρ >>= fun _ => .ok (.nx ρ)) :=
  ps_imp (ps_expr h hs) fun Dn σ H ⟨B, ρ, G, r, q⟩ => ⟨B, ρ, G, r, gd_mono (gd_bind.mp q) fun d q v G1 H1 g1 t => q σ G1 H1 (g1.up r.sub) (r.grow g1)⟩
theorem s_ret (h : PE X a (tV X.w X.K e O fa)) : PS X (.Return (some a) pos) (sV X.w X.K e O O' false fun ρ => fa ρ >>= fun d => .ok (.rt d)) :=
  ps_imp (ps_ret h) fun Dn σ H ⟨B, ρ, G, r, q⟩ => ⟨B, ρ, G, r, gd_mono (gd_bind.mp q) fun d q v G1 H1 g1 t => q v G1 H1 ⟨r.gr.trans g1, t⟩⟩
theorem s_retO (h : PE X a (tO X.w X.K e O fa)) : PS X (.Return (some a) pos) (sV X.w X.K e O O' true fun ρ => fa ρ >>= fun d => .ok (.rt d)) := by
  refine ps_imp (ps_ret h) fun Dn σ H ⟨B, ρ, G, r, q⟩ => ⟨B, ρ, G, r, gd_mono (gd_bind.mp q) fun d q p G1 H1 g1 n1 n2 o => q (.ref p) G1 H1 ⟨r.gr.trans g1, p, rfl, ?_, n2, o⟩⟩
  cases z : B.H p with
  | none => rfl
  | some u => rw [r.gr.keep p u z] at n1; cases n1
/-- return x, x one's own -/
theorem s_retS (i : Nat) {x : Str} {p : Pos} (hi : i ∈ O := by decide) (hN : X.N[i]? = some x := by rfl) (hv : Vis X.env.scope x := by first | exact Or.inl rfl | exact Or.inr (Or.inl rfl) | exact Or.inr (Or.inr rfl)) (hd : (x == ("__debug__" : Str)) = false := by decide)
    (hc : (x == ("__classdict__" : Str)) = false := by decide) : PS X (.Return (some (.Name x p)) pos) (sV X.w X.K e O O' true fun ρ => gv ρ i >>= fun d => .ok (.rt d)) := by
  refine ps_imp (ps_ret (pv i hN hv hd hc)) fun Dn σ H ⟨B, ρ, G, r, q⟩ => ?_
  have q : gd (gv ρ i) _ e := gd_bind.mp q
  unfold gv at q
  cases z : ρ[i]? with
  | none => rw [z] at q; exact q.elim
  | some o =>
    cases o with
    | none => rw [z] at q; exact q.elim
    | some d =>
      rw [z] at q
      obtain ⟨p, s1, o, n1, n2⟩ := r.own i d z hi
      exact ⟨_, s1, q (.ref p) G H ⟨r.gr, p, rfl, n2, n1, o⟩⟩
theorem s_retN : PS X (.Return none pos) (sV X.w X.K e O O' false fun _ => .ok (.rt .none)) := ps_imp ps_retN fun Dn σ H ⟨B, ρ, G, r, q⟩ => q .non G H ⟨r.gr, .non⟩
theorem s_if {c : Expr} {ys ns : List Stmt} (hc : PT X c (tW X.w X.K e O fw)) (hy : PSs X ys (sV X.w X.K e O O' fr f)) (hn : PSs X ns (sV X.w X.K e O O' fr g)) : PS X (.If c ys ns pos) (sV X.w X.K e O O' fr fun ρ => fw ρ >>= fun k => if k then f ρ else g ρ) := by
  refine ps_imp (ps_if hc hy hn) fun Dn σ H ⟨B, ρ, G, r, q⟩ => ⟨B, ρ, G, r, gd_mono (gd_bind.mp q) fun k q G1 H1 g1 => ?_⟩
  cases k with
  | true => exact iteT ⟨B, ρ, G1, r.grow g1, gd_mono q fun o q => q.up (g1.up r.sub)⟩
  | false => exact iteF ⟨B, ρ, G1, r.grow g1, gd_mono q fun o q => q.up (g1.up r.sub)⟩
def setD (i : Nat) (d : D) (ρ : Env') : R Out := .ok (.nx (ρ.set i (some d)))
theorem s_set (i : Nat) {x : Str} {p : Pos} (hN : X.N.Nodup) (h : PE X a (tV X.w X.K e O fa)) (h1 : ∀ j ∈ O', j ∈ O ∧ j ≠ i := by decide) (h2 : ∀ j ∈ O, j = i ∨ j ∈ O' := by decide) (hi : X.N[i]? = some x := by rfl) (hx : Loc X.env.scope x := by first | exact Or.inl rfl | exact Or.inr rfl) (hs : swapsWith a (some (.Name x p)) pos.line X.env = pure false := by rfl)
    (hf : X.fn x = true ∨ X.env.scope.names.lookup x = some .local := by first | exact .inl rfl | exact .inr rfl) : PS X (.Assign [.Name x p] a pos) (sV X.w X.K e O O' fr fun ρ => fa ρ >>= fun d => setD i d ρ) :=
  ps_imp (L2.ps_set hN hi hx h hs hf) fun Dn σ H ⟨B, ρ, G, r, q⟩ => ⟨B, ρ, G, r, gd_mono (gd_bind.mp q) fun d q v G1 H1 g1 t => q _ G1 H1 (g1.up r.sub) ((r.grow g1).put t h1 h2)⟩
theorem s_setO (i : Nat) {x : Str} {p : Pos} (hN : X.N.Nodup) (h : PE X a (tO X.w X.K e O fa)) (h0 : i ∈ O' := by decide) (h1 : ∀ j ∈ O', j = i ∨ j ∈ O := by decide) (h2 : ∀ j ∈ O, j = i ∨ j ∈ O' := by decide) (hi : X.N[i]? = some x := by rfl) (hx : Loc X.env.scope x := by first | exact Or.inl rfl | exact Or.inr rfl) (hs : swapsWith a (some (.Name x p)) pos.line X.env = pure false := by rfl)
    (hf : X.fn x = true ∨ X.env.scope.names.lookup x = some .local := by first | exact .inl rfl | exact .inr rfl) : PS X (.Assign [.Name x p] a pos) (sV X.w X.K e O O' fr fun ρ => fa ρ >>= fun d => setD i d ρ) :=
  ps_imp (L2.ps_set hN hi hx h hs hf) fun Dn σ H ⟨B, ρ, G, r, q⟩ => ⟨B, ρ, G, r, gd_mono (gd_bind.mp q) fun d q p G1 H1 g1 n1 n2 o => q _ G1 H1 (g1.up r.sub) (r.putO g1 n1 n2 o h0 h1 h2)⟩
end

/-! ### targets -/
/-- what a store into the slots vs leaves -/
structure Tg (vs O : List Nat) (ρ ρ' : Env') (σ σ' : L2.St) : Prop where
  off : ∀ j, j ∉ vs → σ'[j]? = σ[j]?
  len : σ'.length = σ.length
  own : ∀ j ∈ O, ρ'[j]? = ρ[j]? ∧ σ'[j]? = σ[j]?
/-- a target: where a datum goes; vs: the slots that it stores -/
def gT (w : World) (K : PySem.W.Frag) (e : Nat → D → Prop) (O : List Nat) (vs : List Nat) (tg : D → Env' → R Env') : TG := fun v σ H Q => ∃ B ρ G d, Rp w K B O ρ σ G H ∧ Dt w K G v d ∧
  gd (tg d ρ) (fun ρ' => ∀ σ', Tg vs O ρ ρ' σ σ' → Rp w K B O ρ' σ' G H → Q σ' H) e
def gTs (w : World) (K : PySem.W.Frag) (e : Nat → D → Prop) (O : List Nat) (vs : List Nat) (tg : List D → Env' → R Env') : TGs := fun us σ H Q => ∃ B ρ G ds, Rp w K B O ρ σ G H ∧ DtAll w K G us ds ∧
  gd (tg ds ρ) (fun ρ' => ∀ σ', Tg vs O ρ ρ' σ σ' → Rp w K B O ρ' σ' G H → Q σ' H) e
def tgN (i : Nat) : D → Env' → R Env' := fun d ρ => .ok (ρ.set i (some d))
def tsN : List D → Env' → R Env' := fun ds ρ => match ds with
  | [] => .ok ρ
  | _ => stk
def tsC (tg : D → Env' → R Env') (tgs : List D → Env' → R Env') : List D → Env' → R Env' := fun ds ρ => match ds with
  | d :: ds => tg d ρ >>= fun ρ1 => tgs ds ρ1
  | [] => stk
section
variable {X : Cx} {a : Expr} {as : List Expr} {pos : Pos} {e : Nat → D → Prop} {O vs ws : List Nat} {tg : D → Env' → R Env'} {tgs : List D → Env' → R Env'}
theorem pg_imp {t t' : TG} (h : PG X a t) (i : ∀ v σ H Q, t' v σ H Q → t v σ H Q) : PG X a t' := ⟨fun p s σ H v u Q I r q => h.run p s σ H v u Q I r (i v σ H Q q)⟩
theorem pgs_imp {t t' : TGs} (h : PGs X as t) (i : ∀ v σ H Q, t' v σ H Q → t v σ H Q) : PGs X as t' := ⟨fun p s σ H v u Q I r q => h.run p s σ H v u Q I r (i v σ H Q q)⟩
theorem g_nm (i : Nat) {x : Str} {p : Pos} (hN : X.N.Nodup) (ho : i ∉ O := by decide) (hi : X.N[i]? = some x := by rfl) (hx : Loc X.env.scope x := by first | exact Or.inl rfl | exact Or.inr rfl)
    (hf : X.fn x = true ∨ X.env.scope.names.lookup x = some .local := by first | exact .inl rfl | exact .inr rfl) : PG X (.Name x p) (gT X.w X.K e O [i] (tgN i)) :=
  pg_imp (pg_name hN hi hx hf) fun v σ H Q ⟨B, ρ, G, d, r, t, q⟩ => q _ ⟨fun j hj => List.getElem?_set_ne (fun z => hj (by rw [z]; exact List.mem_singleton_self _)), List.length_set .., fun j hj => have ne : i ≠ j := fun z => ho (by rw [z]; exact hj); ⟨List.getElem?_set_ne ne, List.getElem?_set_ne ne⟩⟩ (r.put t (fun j hj => ⟨hj, fun z => ho (by rw [← z]; exact hj)⟩) fun j hj => .inr hj)
theorem gs_nil : PGs X [] (gTs X.w X.K e O [] tsN) := by
  refine pgs_imp pgs_nil fun us σ H Q ⟨B, ρ, G, ds, r, t, q⟩ => ?_
  cases t with
  | nil => exact ⟨rfl, q σ ⟨fun _ _ => rfl, rfl, fun _ _ => ⟨rfl, rfl⟩⟩ r⟩
  | cons _ _ => exact q.elim
theorem gs_cons (h1 : PG X a (gT X.w X.K e O vs tg)) (h2 : PGs X as (gTs X.w X.K e O ws tgs)) (hs : (assignEach (a :: as) X.env).map (·.2) = assign a X.env :: (assignEach as X.env).map (·.2) := by rfl) :
    PGs X (a :: as) (gTs X.w X.K e O (vs ++ ws) (tsC tg tgs)) := by
  refine pgs_imp (pgs_cons h1 h2 hs) fun us σ H Q ⟨B, ρ, G, ds, r, t, q⟩ => ?_
  cases t with
  | nil => exact q.elim
  | cons t1 t2 =>
    refine ⟨_, _, rfl, B, ρ, G, _, r, t1, gd_mono (gd_bind.mp q) fun ρ1 q σ1 k1 r1 => ⟨B, ρ1, G, _, r1, t2, gd_mono q fun ρ2 q σ2 k2 r2 => q σ2 ⟨fun j hj => ?_, k2.len.trans k1.len, fun j hj => ⟨(k2.own j hj).1.trans (k1.own j hj).1, (k2.own j hj).2.trans (k1.own j hj).2⟩⟩ r2⟩⟩
    rw [k2.off j fun z => hj (List.mem_append_right _ z), k1.off j fun z => hj (List.mem_append_left _ z)]
def unT (n : Nat) (tgs : List D → Env' → R Env') (d : D) (ρ : Env') : R Env' := match d with
  | .tuple ds => if ds.length = n then tgs ds ρ else stk
  | _ => stk
theorem g_tup {k n : Nat} (hc : X.calm = true) (h : PGs X as (gTs X.w X.K e O vs tgs)) (hn : (assignEach as X.env).length = n := by rfl) (hst : (assignEach as X.env).findIdx? (·.1) = none := by rfl) : PG X (.Tuple as k pos) (gT X.w X.K e O vs (unT n tgs)) := by
  refine pg_imp (pg_tup hc h hn hst) fun v σ H Q ⟨B, ρ, G, d, r, t, q⟩ => ?_
  cases t with
  | tup s1 t1 =>
    unfold unT at q
    simp only at q
    split at q
    · rename_i hl
      exact ⟨_, _, rfl, SqT.sub r.sub s1, by rw [t1.length]; exact hl, B, ρ, G, _, r, t1, q⟩
    · exact q.elim
  | non => exact q.elim
  | bl _ => exact q.elim
  | int _ => exact q.elim
  | str _ => exact q.elim
  | lst _ _ => exact q.elim
  | dct _ _ _ _ _ _ => exact q.elim
  | scr _ _ => exact q.elim
/-- target = value, any target -/
theorem s_tg {b : Expr} {fa : Env' → R D} {fr : Bool} (h : PE X b (tV X.w X.K e O fa)) (hg : PG X a (gT X.w X.K e O vs tg)) (hs : swapsWithSole [a] b pos.line X.env = pure false := by rfl) (hw : swappedStores [a] b X.env = pure none := by rfl)
    (h1 : (assignEach [a] X.env).map (·.2) = [assign a X.env] := by rfl) : PS X (.Assign [a] b pos) (sV X.w X.K e O O fr fun ρ => fa ρ >>= fun d => tg d ρ >>= fun ρ' => .ok (.nx ρ')) :=
  ps_imp (ps_asg h hg hs hw h1) fun Dn σ H ⟨B, ρ, G, r, q⟩ => ⟨B, ρ, G, r, gd_mono (gd_bind.mp q) fun d q v G1 H1 g1 t => ⟨B, ρ, G1, d, r.grow g1, t, gd_mono (gd_bind.mp q) fun ρ1 q σ1 k1 r1 => q σ1 G1 H1 (g1.up r.sub) r1⟩⟩
/-- a, b = x, y with plain names -/
theorem s_par {i j : Nat} {x y : Str} {b c : Expr} {fs : Env' → R (List D)} {px py pt : Pos} {kt k2 pt2} {fr : Bool} (hc : X.calm = true) (hN : X.N.Nodup) (ha : PA X [b, c] (tA X.w X.K e O fs)) (hoi : i ∉ O := by decide) (hoj : j ∉ O := by decide) (hi : X.N[i]? = some x := by rfl) (hj : X.N[j]? = some y := by rfl) (hij : i ≠ j := by decide)
    (hx : X.env.scope.names.lookup x = some .local := by rfl) (hy : X.env.scope.names.lookup y = some .local := by rfl)
    (hw : swappedStores [.Tuple [.Name x px, .Name y py] kt pt] (.Tuple [b, c] k2 pt2) X.env = pure (some [x, y]) := by rfl)
    (hs : swapsWithSole [.Tuple [.Name x px, .Name y py] kt pt] (.Tuple [b, c] k2 pt2) pos.line X.env = pure false := by rfl) :
    PS X (.Assign [.Tuple [.Name x px, .Name y py] kt pt] (.Tuple [b, c] k2 pt2) pos) (sV X.w X.K e O O fr fun ρ => fs ρ >>= fun ds => match ds with | [d1, d2] => .ok (.nx ((ρ.set i (some d1)).set j (some d2))) | _ => stk) := by
  refine ps_imp (L2.ps_par hc hN hi hj hij hx hy ha hw hs) fun Dn σ H ⟨B, ρ, G, r, q⟩ => ⟨B, ρ, G, r, gd_mono (gd_bind.mp q) fun ds q vs G1 H1 g1 t => ?_⟩
  cases t with
  | nil => exact q.elim
  | cons t1 t =>
    cases t with
    | nil => exact q.elim
    | cons t2 t =>
      cases t with
      | cons _ _ => exact q.elim
      | nil =>
        refine ⟨_, _, rfl, q _ G1 H1 (g1.up r.sub) ?_⟩
        exact ((r.grow g1).put t1 (fun j hj => ⟨hj, fun z => hoi (by rw [← z]; exact hj)⟩) fun j hj => .inr hj).put t2 (fun j hj => ⟨hj, fun z => hoj (by rw [← z]; exact hj)⟩) fun j hj => .inr hj
end

/-! ### what is walked -/
/-- J walks the data ds from where the frozen part is G0 -/
structure Wk (w : World) (K : PySem.W.Frag) (J : It) (G0 : Hp) (ds : List D) : Prop where
  go : ∀ (i : Nat) (G H : Hp), Sub G0 G → Sub G H → i < ds.length → J.go i H
  stop : ∀ (G H : Hp), Sub G0 G → Sub G H → J.stop ds.length H
  yld : ∀ (i : Nat) (d : D) (G H : Hp) (x : V) (H' : Hp), Sub G0 G → Sub G H → ds[i]? = some d → J.yld i H x H' → ∃ G', Gr G H G' H' ∧ Dt w K G' x d
def iV (w : World) (K : PySem.W.Frag) (e : Nat → D → Prop) (O : List Nat) (f : Env' → R (List D)) : TI := fun σ H Q => ∃ B ρ G, Rp w K B O ρ σ G H ∧
  gd (f ρ) (fun ds => ∀ J G' H', Gr G H G' H' → Wk w K J G' ds → Q J H') e
def itL : D → R (List D)
  | .list ds => .ok ds
  | _ => stk
def itT : D → R (List D)
  | .tuple ds => .ok ds
  | _ => stk
def itS : D → R (List D)
  | .str x => .ok (x.cps.toList.map fun c => .str ⟨#[c]⟩)
  | _ => stk
def rgD (lo : Int) (n : Nat) : List D := (List.range n).map fun (i : Nat) => .int (lo + i)
def enD (i : Nat) : List D → List D
  | [] => []
  | d :: ds => .tuple [.int (i : Nat), d] :: enD (i + 1) ds
theorem enD_get : ∀ (ds : List D) (k i : Nat) (d : D), (enD k ds)[i]? = some d → ∃ x, ds[i]? = some x ∧ d = .tuple [.int ((k + i : Nat) : Int), x]
  | [], _, _, _, h => by simp [enD] at h
  | x :: ds, k, 0, d, h => ⟨x, rfl, by simp [enD] at h; rw [← h]; rfl⟩
  | x :: ds, k, i + 1, d, h => by
    obtain ⟨y, h1, h2⟩ := enD_get ds (k + 1) i d (by simpa [enD] using h)
    exact ⟨y, h1, by rw [h2, show k + 1 + i = k + (i + 1) by omega]⟩
theorem enD_len : ∀ (ds : List D) (k : Nat), (enD k ds).length = ds.length
  | [], _ => rfl
  | _ :: ds, k => by rw [enD, List.length_cons, List.length_cons, enD_len ds]
section
variable {X : Cx} {a b tgt : Expr} {pos p : Pos} {e : Nat → D → Prop} {O : List Nat} {fa fb : Env' → R D} {fs : Env' → R (List D)}
theorem pi_imp {t t' : TI} (h : PI X tgt a t) (i : ∀ σ H Q, t' σ H Q → t σ H Q) : PI X tgt a t' := ⟨fun p s σ H Q I q => h.run p s σ H Q I (i σ H Q q)⟩
theorem wk_list {w : World} {K : PySem.W.Frag} {G : Hp} {a : Addr} {xs : List V} {ds : List D} (h : Rd G a (.lst xs)) (t : DtAll w K G xs ds) : Wk w K (Itl K a) G ds where
  go := fun i G' H s1 s2 hi => by
    have sq : SqL K H a xs := Rd.sq (Rd.sub s2 (Rd.sub s1 h))
    have hx : i < xs.length := by rw [t.length]; exact hi
    exact ⟨xs, xs[i], sq, List.getElem?_eq_getElem hx⟩
  stop := fun G' H s1 s2 => ⟨xs, Rd.sq (Rd.sub s2 (Rd.sub s1 h)), by rw [t.length]; exact Nat.le_refl _⟩
  yld := fun i d G' H x H' s1 s2 hd y => by
    obtain ⟨rfl, y⟩ := y
    have e1 := y xs (Rd.sq (Rd.sub s2 (Rd.sub s1 h)))
    obtain ⟨d', e2, t2⟩ := t.get e1
    rw [hd] at e2; cases e2
    exact ⟨G', Gr.refl s2, t2.sub s1⟩
theorem wk_tup {w : World} {K : PySem.W.Frag} {G : Hp} {a : Addr} {xs : List V} {ds : List D} (h : SqT K G a xs) (t : DtAll w K G xs ds) : Wk w K (Itt K a) G ds where
  go := fun i G' H s1 s2 hi => by
    have sq : SqT K H a xs := SqT.sub s2 (SqT.sub s1 h)
    have hx : i < xs.length := by rw [t.length]; exact hi
    exact ⟨xs, xs[i], sq, List.getElem?_eq_getElem hx⟩
  stop := fun G' H s1 s2 => ⟨xs, SqT.sub s2 (SqT.sub s1 h), by rw [t.length]; exact Nat.le_refl _⟩
  yld := fun i d G' H x H' s1 s2 hd y => by
    obtain ⟨rfl, y⟩ := y
    have e1 := y xs (SqT.sub s2 (SqT.sub s1 h))
    obtain ⟨d', e2, t2⟩ := t.get e1
    rw [hd] at e2; cases e2
    exact ⟨G', Gr.refl s2, t2.sub s1⟩
theorem wk_rng {w : World} {K : PySem.W.Frag} {G : Hp} {lo : Int} {n : Nat} : Wk w K (Itr lo n) G (rgD lo n) where
  go := fun i G' H s1 s2 hi => by
    rw [rgD, List.length_map, List.length_range] at hi
    exact hi
  stop := fun G' H s1 s2 => by
    show n ≤ _
    rw [rgD, List.length_map, List.length_range]
    exact Nat.le_refl _
  yld := fun i d G' H x H' s1 s2 hd y => by
    obtain ⟨rfl, rfl⟩ := y
    refine ⟨G', Gr.refl s2, ?_⟩
    rw [rgD, List.getElem?_map] at hd
    cases q : (List.range n)[i]? with
    | none => rw [q] at hd; cases hd
    | some k =>
      rw [q] at hd
      have e1 : k = i := by
        rw [List.getElem?_eq_some_iff] at q
        obtain ⟨h1, h2⟩ := q
        rw [List.getElem_range] at h2
        exact h2.symm
      subst e1
      cases hd
      exact .int _
theorem wk_en {w : World} {K : PySem.W.Frag} {G : Hp} {a : Addr} {xs : List V} {ds : List D} (h : Rd G a (.lst xs)) (t : DtAll w K G xs ds) : Wk w K (Ite K a) G (enD 0 ds) where
  go := fun i G' H s1 s2 hi => by
    have sq : SqL K H a xs := Rd.sq (Rd.sub s2 (Rd.sub s1 h))
    have hx : i < xs.length := by rw [t.length]; rw [enD_len] at hi; exact hi
    exact ⟨xs, xs[i], sq, List.getElem?_eq_getElem hx⟩
  stop := fun G' H s1 s2 => ⟨xs, Rd.sq (Rd.sub s2 (Rd.sub s1 h)), by rw [t.length, enD_len]; exact Nat.le_refl _⟩
  yld := fun i d G' H x H' s1 s2 hd y => by
    obtain ⟨T, z, rfl, nT, rfl, y⟩ := y
    have e1 := y xs (Rd.sq (Rd.sub s2 (Rd.sub s1 h)))
    obtain ⟨d', e2, t2⟩ := t.get e1
    obtain ⟨x, e3, rfl⟩ := enD_get ds 0 i d hd
    rw [e3] at e2; cases e2
    have g2 := Gr.new (o := .tup [.int (i : Nat), z]) s2 nT
    refine ⟨_, g2, .tup (.inl (.inl upd_same)) (.cons ?_ (.cons ((t2.sub s1).sub (g2.up s2)) .nil))⟩
    rw [Nat.zero_add]
    exact .int _
theorem wk_str {w : World} {K : PySem.W.Frag} {G : Hp} {x : Str} : Wk w K (Its x) G (x.cps.toList.map fun c => .str ⟨#[c]⟩) where
  go := fun i G' H s1 s2 hi => by
    rw [List.length_map, Array.length_toList] at hi
    exact hi
  stop := fun G' H s1 s2 => by
    show x.cps.size ≤ _
    rw [List.length_map, Array.length_toList]
    exact Nat.le_refl _
  yld := fun i d G' H v H' s1 s2 hd y => by
    obtain ⟨rfl, c, h1, rfl⟩ := y
    refine ⟨G', Gr.refl s2, ?_⟩
    rw [List.getElem?_map, Array.getElem?_toList, h1] at hd
    cases hd
    exact .str _
theorem i_lst (h : PE X a (tV X.w X.K e O fa)) : PI X tgt a (iV X.w X.K e O fun ρ => fa ρ >>= itL) := by
  refine pi_imp (pi_list h) fun σ H Q ⟨B, ρ, G, r, q⟩ => ⟨B, ρ, G, r, gd_mono (gd_bind.mp q) fun d q v G1 H1 g1 t => ?_⟩
  cases t with
  | lst s1 t1 => exact ⟨_, rfl, ⟨_, Rd.sq (Rd.sub g1.sub s1)⟩, q _ G1 H1 g1 (wk_list s1 t1)⟩
  | non => exact q.elim
  | bl _ => exact q.elim
  | int _ => exact q.elim
  | str _ => exact q.elim
  | tup _ _ => exact q.elim
  | dct _ _ _ _ _ _ => exact q.elim
  | scr _ _ => exact q.elim
theorem i_tup (h : PE X a (tV X.w X.K e O fa)) : PI X tgt a (iV X.w X.K e O fun ρ => fa ρ >>= itT) := by
  refine pi_imp (pi_tup h) fun σ H Q ⟨B, ρ, G, r, q⟩ => ⟨B, ρ, G, r, gd_mono (gd_bind.mp q) fun d q v G1 H1 g1 t => ?_⟩
  cases t with
  | tup s1 t1 => exact ⟨_, rfl, ⟨_, SqT.sub g1.sub s1⟩, q _ G1 H1 g1 (wk_tup s1 t1)⟩
  | non => exact q.elim
  | bl _ => exact q.elim
  | int _ => exact q.elim
  | str _ => exact q.elim
  | lst _ _ => exact q.elim
  | dct _ _ _ _ _ _ => exact q.elim
  | scr _ _ => exact q.elim
theorem i_str (h : PE X a (tV X.w X.K e O fa)) : PI X tgt a (iV X.w X.K e O fun ρ => fa ρ >>= itS) := by
  refine pi_imp (pi_str h) fun σ H Q ⟨B, ρ, G, r, q⟩ => ⟨B, ρ, G, r, gd_mono (gd_bind.mp q) fun d q v G1 H1 g1 t => ?_⟩
  cases t with
  | str x => exact ⟨_, rfl, q _ G1 H1 g1 wk_str⟩
  | non => exact q.elim
  | bl _ => exact q.elim
  | int _ => exact q.elim
  | lst _ _ => exact q.elim
  | tup _ _ => exact q.elim
  | dct _ _ _ _ _ _ => exact q.elim
  | scr _ _ => exact q.elim
theorem p62 {n : Int} (h : n.natAbs < 4611686018427387904) : -(2 ^ 62) ≤ n ∧ n < 2 ^ 62 := by
  have e : (2 : Int) ^ 62 = 4611686018427387904 := by decide
  rw [e]; omega
def rg1 : List D → R (List D)
  | [.int n] => if n.natAbs < 4611686018427387904 then .ok (rgD 0 n.toNat) else stk
  | _ => stk
def rg2 : List D → R (List D)
  | [.int m, .int n] => if m.natAbs < 4611686018427387904 ∧ n.natAbs < 4611686018427387904 then .ok (rgD m (n - m).toNat) else stk
  | _ => stk
theorem i_rg1 (hm : X.mg "range" = none) (h : PA X [a] (tA X.w X.K e O fs)) (hg : Gl X "range" := by rfl) (hs : starEach [a] X.env = [(false, eval a X.env)] := by rfl) : PI X tgt (.Call (.Name "range" p) [a] [] pos) (iV X.w X.K e O fun ρ => fs ρ >>= rg1) := by
  refine pi_imp (pi_range1 hg hm h hs) fun σ H Q ⟨B, ρ, G, r, q⟩ => ⟨B, ρ, G, r, gd_mono (gd_bind.mp q) fun ds q vs G1 H1 g1 t => ?_⟩
  unfold rg1 at q
  split at q
  · cases t with
    | cons t1 t2 =>
      cases t2
      cases t1
      split at q
      · rename_i hb
        exact ⟨_, rfl, (p62 hb).1, (p62 hb).2, q _ G1 H1 g1 wk_rng⟩
      · exact q.elim
  · exact q.elim
theorem i_rg2 (hm : X.mg "range" = none) (h : PA X [a, b] (tA X.w X.K e O fs)) (hg : Gl X "range" := by rfl) (hs : starEach [a, b] X.env = [(false, eval a X.env), (false, eval b X.env)] := by rfl) (hs2 : starEach [b] X.env = [(false, eval b X.env)] := by rfl) :
    PI X tgt (.Call (.Name "range" p) [a, b] [] pos) (iV X.w X.K e O fun ρ => fs ρ >>= rg2) := by
  refine pi_imp (pi_range2 hg hm h hs hs2) fun σ H Q ⟨B, ρ, G, r, q⟩ => ⟨B, ρ, G, r, gd_mono (gd_bind.mp q) fun ds q vs G1 H1 g1 t => ?_⟩
  unfold rg2 at q
  split at q
  · cases t with
    | cons t1 t2 =>
      cases t2 with
      | cons t2 t3 =>
        cases t3
        cases t1
        cases t2
        split at q
        · rename_i hb
          exact ⟨_, _, rfl, ⟨(p62 hb.1).1, (p62 hb.1).2, (p62 hb.2).1, (p62 hb.2).2⟩, q _ G1 H1 g1 wk_rng⟩
        · exact q.elim
  · exact q.elim
def en1 : List D → R (List D)
  | [.list ds] => .ok (enD 0 ds)
  | _ => stk
theorem i_en {elts : List Expr} {kk : Nat} {tp : Pos} (hm : X.mg "enumerate" = none) (h : PA X [a] (tA X.w X.K e O fs)) (hg : Gl X "enumerate" := by rfl) (hs : starEach [a] X.env = [(false, eval a X.env)] := by rfl) : PI X (.Tuple elts kk tp) (.Call (.Name "enumerate" p) [a] [] pos) (iV X.w X.K e O fun ρ => fs ρ >>= en1) := by
  refine pi_imp (pi_enum hg hm h hs) fun σ H Q ⟨B, ρ, G, r, q⟩ => ⟨B, ρ, G, r, gd_mono (gd_bind.mp q) fun ds q vs G1 H1 g1 t => ?_⟩
  unfold en1 at q
  split at q
  · cases t with
    | cons t1 t2 =>
      cases t2
      cases t1 with
      | lst s1 t1 => exact ⟨_, _, rfl, Rd.sq (Rd.sub g1.sub s1), q _ G1 H1 g1 (wk_en s1 t1)⟩
  · exact q.elim
end

/-! ### loops -/
def forD (tg : D → Env' → R Env') (fb : Env' → R Out) : List D → Env' → R Out
  | [], ρ => .ok (.nx ρ)
  | d :: ds, ρ => tg d ρ >>= fun ρ1 => fb ρ1 >>= fun o => match o with
    | .nx ρ2 => forD tg fb ds ρ2
    | .rt r => .ok (.rt r)
def whileD (fw : Env' → R Bool) (fb : Env' → R Out) : Nat → Env' → R Out
  | 0, _ => stk
  | n + 1, ρ => fw ρ >>= fun c => if c then fb ρ >>= fun o => match o with
      | .nx ρ2 => whileD fw fb n ρ2
      | .rt r => .ok (.rt r)
    else .ok (.nx ρ)
section
variable {X : Cx} {tgt iter c : Expr} {body : List Stmt} {pos : Pos} {e : Nat → D → Prop} {O vs : List Nat} {fr : Bool} {fi : Env' → R (List D)} {tg : D → Env' → R Env'} {fb : Env' → R Out} {fw : Env' → R Bool}
theorem s_for (hp : PassesOwn (model X.prog X.w) X.A X.env X.xe) (hc : X.calm = true) (hi : PI X tgt iter (iV X.w X.K e O fi)) (hg : PG X tgt (gT X.w X.K e O vs tg)) (hb : PSs X body (sV X.w X.K e O O fr fb)) (hs : ∀ x, foldedSetIterable iter X.env x = pure x := by intro _; rfl) :
    PS X (.For tgt iter body [] pos) (sV X.w X.K e O O fr fun ρ => fi ρ >>= fun ds => forD tg fb ds ρ) := by
  refine ps_imp (ps_for hp hc hi hg hb hs) fun Dn σ H ⟨B, ρ, G, r, q⟩ => ⟨B, ρ, G, r, gd_mono (gd_bind.mp q) fun ds q J G1 H1 g1 wk => ?_⟩
  refine ⟨fun i m σ H => m = ds.length - i ∧ i ≤ ds.length ∧ ∃ ρ G, Rp X.w X.K B O ρ σ G H ∧ Sub G1 G ∧ gd (forD tg fb (ds.drop i) ρ) (Post X.w X.K B O fr G Dn) e, ⟨ds.length, rfl, Nat.zero_le _, ρ, G1, r.grow g1, Sub.refl _, gd_mono q fun o q => q.up (g1.up r.sub)⟩, fun i m σ H hW => ?_⟩
  obtain ⟨rfl, hi, ρ1, G2, r1, s1, q1⟩ := hW
  by_cases hl : i < ds.length
  · refine .inr ⟨wk.go i G2 H s1 r1.sub hl, fun σ' H' => ∃ ρ2 G3, Rp X.w X.K B O ρ2 σ' G3 H' ∧ Sub G1 G3 ∧ gd (forD tg fb (ds.drop (i + 1)) ρ2) (Post X.w X.K B O fr G3 Dn) e, fun σ' H' ⟨ρ2, G3, r2, s2, q2⟩ => ⟨ds.length - (i + 1), by omega, rfl, hl, ρ2, G3, r2, s2, q2⟩, fun x H' y => ?_⟩
    rw [List.drop_eq_getElem_cons hl] at q1
    obtain ⟨G3, g3, t3⟩ := wk.yld i ds[i] G2 H x H' s1 r1.sub (List.getElem?_eq_getElem hl) y
    have s3 : Sub G1 G3 := s1.trans (g3.up r1.sub)
    refine ⟨B, ρ1, G3, ds[i], r1.grow g3, t3, gd_mono (gd_bind.mp q1) fun ρ2 q2 σ2 _ r2 => ⟨B, ρ2, G3, r2, gd_mono (gd_bind.mp q2) fun o q3 => ?_⟩⟩
    cases o with
    | nx ρ3 => exact fun σ4 G4 H4 s4 r4 => ⟨ρ3, G4, r4, s3.trans s4, gd_mono q3 fun o q => q.up ((g3.up r1.sub).trans s4)⟩
    | rt d => exact q3
  · have e1 : i = ds.length := by omega
    subst e1
    rw [List.drop_length] at q1
    exact .inl ⟨wk.stop G2 H s1 r1.sub, q1 σ G2 H (Sub.refl _) r1⟩
theorem s_while (n : Nat) (hp : PassesOwn (model X.prog X.w) X.A X.env X.xe) (hc : PT X c (tW X.w X.K e O fw)) (hb : PSs X body (sV X.w X.K e O O fr fb)) : PS X (.While c body [] pos) (sV X.w X.K e O O fr (whileD fw fb n)) := by
  refine ps_imp (ps_while hp hc hb) fun Dn σ H ⟨B, ρ, G, r, q⟩ => ?_
  refine ⟨fun m σ H => ∃ ρ G, Rp X.w X.K B O ρ σ G H ∧ gd (whileD fw fb m ρ) (Post X.w X.K B O fr G Dn) e, ⟨n, ρ, G, r, q⟩, fun m σ H hW => ?_⟩
  obtain ⟨ρ1, G1, r1, q1⟩ := hW
  cases m with
  | zero => exact q1.elim
  | succ m =>
    refine ⟨B, ρ1, G1, r1, gd_mono (gd_bind.mp q1) fun k q2 G2 H2 g2 => ?_⟩
    cases k with
    | true =>
      refine iteT ⟨fun σ' H' => ∃ ρ2 G3, Rp X.w X.K B O ρ2 σ' G3 H' ∧ gd (whileD fw fb m ρ2) (Post X.w X.K B O fr G3 Dn) e, fun σ' H' ⟨ρ2, G3, r2, q3⟩ => ⟨m, Nat.lt_succ_self _, ρ2, G3, r2, q3⟩, B, ρ1, G2, r1.grow g2, gd_mono (gd_bind.mp q2) fun o q3 => ?_⟩
      cases o with
      | nx ρ3 => exact fun σ4 G4 H4 s4 r4 => ⟨ρ3, G4, r4, gd_mono q3 fun o q => q.up ((g2.up r1.sub).trans s4)⟩
      | rt d => exact q3
    | false => exact iteF (q2 σ G2 H2 (g2.up r1.sub) (r1.grow g2))
end

/-! ### comprehensions -/
def noX {α : Type} : R α → R α
  | .ok a => .ok a
  | .error _ => stk
def wipeD (ρ : Env') : List Nat → Env'
  | [] => ρ
  | v :: vs => (wipeD ρ vs).set v none
def lcD (tg : D → Env' → R Env') (ft : Env' → R Bool) (fe : Env' → R D) (ρ : Env') : List D → R (List D)
  | [] => .ok []
  | d :: ds => tg d ρ >>= fun ρ1 => ft ρ1 >>= fun b => if b then fe ρ1 >>= fun y => lcD tg ft fe ρ ds >>= fun ys => .ok (y :: ys) else lcD tg ft fe ρ ds
abbrev noE : Nat → D → Prop := fun _ _ => False
theorem wipeD_len (ρ : Env') : ∀ vs, (wipeD ρ vs).length = ρ.length
  | [] => rfl
  | v :: vs => by rw [wipeD, List.length_set, wipeD_len ρ vs]
theorem wipeD_some {ρ : Env'} {i : Nat} {d : D} : ∀ {vs : List Nat}, (wipeD ρ vs)[i]? = some (some d) → ρ[i]? = some (some d) ∧ i ∉ vs
  | [], h => ⟨h, by simp⟩
  | v :: vs, h => by
    rcases get_set (show ((wipeD ρ vs).set v none)[i]? = some (some d) from h) with ⟨_, z, _⟩ | ⟨ne, z⟩
    · cases z
    · obtain ⟨h1, h2⟩ := wipeD_some z
      exact ⟨h1, fun q => (List.mem_cons.mp q).elim ne h2⟩
theorem wipe_get {σ : L2.St} {i : Nat} : ∀ {vs : List Nat}, i ∉ vs → (wipe σ vs)[i]? = σ[i]?
  | [], _ => rfl
  | v :: vs, h => by
    show ((wipe σ vs).set v none)[i]? = _
    rw [List.getElem?_set_ne fun z => h (by rw [z]; exact List.mem_cons_self)]
    exact wipe_get fun z => h (List.mem_cons_of_mem _ z)
theorem wipe_at {σ : L2.St} {i : Nat} (hl : i < σ.length) : ∀ {vs : List Nat}, i ∈ vs → (wipe σ vs)[i]? = some none
  | v :: vs, h => by
    show ((wipe σ vs).set v none)[i]? = _
    by_cases e : i = v
    · subst e
      exact List.getElem?_set_self (by rw [wipe_length]; exact hl)
    · rw [List.getElem?_set_ne (Ne.symm e)]
      exact wipe_at hl ((List.mem_cons.mp h).resolve_left e)
theorem wipe_same {σ σ' : L2.St} {vs ws : List Nat} (hl : σ'.length = σ.length) (h : ∀ j, j ∉ ws → σ'[j]? = σ[j]?) (hw : ∀ j ∈ ws, j ∈ vs) : wipe σ' vs = wipe σ vs := by
  apply List.ext_getElem?
  intro i
  by_cases hi : i ∈ vs
  · by_cases hlt : i < σ.length
    · rw [wipe_at hlt hi, wipe_at (by rw [hl]; exact hlt) hi]
    · rw [List.getElem?_eq_none (by rw [wipe_length]; omega), List.getElem?_eq_none (by rw [wipe_length]; omega)]
  · rw [wipe_get hi, wipe_get hi]
    exact h i fun z => hi (hw i z)
theorem wipe_wipe (σ : L2.St) (vs : List Nat) : wipe (wipe σ vs) vs = wipe σ vs := by
  apply List.ext_getElem?
  intro i
  by_cases hi : i ∈ vs
  · by_cases hlt : i < σ.length
    · rw [wipe_at hlt hi, wipe_at (by rw [wipe_length]; exact hlt) hi]
    · rw [List.getElem?_eq_none (by rw [wipe_length, wipe_length]; omega), List.getElem?_eq_none (by rw [wipe_length]; omega)]
  · rw [wipe_get hi]
theorem Rp.wipe {w : World} {K : PySem.W.Frag} {B : Bas} {O : List Nat} {ρ : Env'} {σ : L2.St} {G H : Hp} (r : Rp w K B O ρ σ G H) (vs : List Nat) : Rp w K B O (wipeD ρ vs) (L2.wipe σ vs) G H where
  len := by rw [wipe_length, wipeD_len]; exact r.len
  gr := r.gr
  dat := fun i d e n => by
    obtain ⟨h1, h2⟩ := wipeD_some e
    obtain ⟨v, q1, q2⟩ := r.dat i d h1 n
    exact ⟨v, by rw [wipe_get h2]; exact q1, q2⟩
  own := fun i d e n => by
    obtain ⟨h1, h2⟩ := wipeD_some e
    obtain ⟨a, q1, q2⟩ := r.own i d h1 n
    exact ⟨a, by rw [wipe_get h2]; exact q1, q2⟩
  sep := fun i j a di dj hi hj e1 e2 s1 s2 => by
    obtain ⟨h1, h2⟩ := wipeD_some e1
    obtain ⟨h3, h4⟩ := wipeD_some e2
    rw [wipe_get h2] at s1
    rw [wipe_get h4] at s2
    exact r.sep i j a di dj hi hj h1 h3 s1 s2
theorem noX_in {α : Type} {x : R α} {q : α → Prop} {e : Nat → D → Prop} (h : gd (noX x) q e) : ∃ a, x = .ok a ∧ q a := by
  cases x with
  | ok a => exact ⟨a, rfl, h⟩
  | error er => cases er <;> exact h.elim
theorem bind_ok {α β : Type} {x : R α} {f : α → R β} {b : β} (h : (x >>= f) = .ok b) : ∃ a, x = .ok a ∧ f a = .ok b := by
  cases x with
  | ok a => exact ⟨a, rfl, h⟩
  | error er => cases h
theorem gd_of {α : Type} {x : R α} {a : α} {q : α → Prop} {e : Nat → D → Prop} (h : x = .ok a) (hq : q a) : gd x q e := by rw [h]; exact hq
theorem lcD_len {tg : D → Env' → R Env'} {ft : Env' → R Bool} {fe : Env' → R D} {ρ : Env'} : ∀ {ds ys : List D}, lcD tg ft fe ρ ds = .ok ys → ys.length ≤ ds.length
  | [], ys, h => by cases h; exact Nat.le_refl _
  | d :: ds, ys, h => by
    obtain ⟨ρ1, h1, h⟩ := bind_ok (show (tg d ρ >>= fun ρ1 => ft ρ1 >>= fun b => if b then fe ρ1 >>= fun y => lcD tg ft fe ρ ds >>= fun ys => .ok (y :: ys) else lcD tg ft fe ρ ds) = .ok ys from h)
    obtain ⟨b, h2, h⟩ := bind_ok h
    cases b with
    | true =>
      obtain ⟨y, h3, h⟩ := bind_ok (show (fe ρ1 >>= fun y => lcD tg ft fe ρ ds >>= fun ys => .ok (y :: ys)) = .ok ys from h)
      obtain ⟨zs, h4, h⟩ := bind_ok h
      cases h
      have := lcD_len h4
      rw [List.length_cons, List.length_cons]
      omega
    | false =>
      have := lcD_len (show lcD tg ft fe ρ ds = .ok ys from h)
      rw [List.length_cons]
      omega

section
variable {X : Cx} {elt tgt iter : Expr} {ifs : List Expr} {scope : Scope} {own : List (Str × Nat)} {pos : Pos} {e : Nat → D → Prop} {O vs : List Nat} {fi : Env' → R (List D)} {tg : D → Env' → R Env'} {ft : Env' → R Bool} {fe : Env' → R D}
/-- the tests of a clause -/
theorem pts_imp {t t' : TT} (h : PTs X ifs t) (i : ∀ σ H Q, t' σ H Q → t σ H Q) : PTs X ifs t' := ⟨fun p s σ H Q I q => h.run p s σ H Q I (i σ H Q q)⟩
theorem t_no : PTs X [] (tW X.w X.K e O fun _ => .ok true) := pts_imp pts_nil fun σ H Q ⟨B, ρ, G, r, q⟩ => q G H r.here
theorem t_one {c : Expr} {fw : Env' → R Bool} (h : PT X c (tW X.w X.K e O fw)) : PTs X [c] (tW X.w X.K e O fw) := pts_one h
/-- the meaning of a comprehension -/
def compD (vs : List Nat) (fi : Env' → R (List D)) (tg : D → Env' → R Env') (ft : Env' → R Bool) (fe : Env' → R D) : Env' → R D := fun ρ => fi ρ >>= fun ds => lenOk ds.length >>= fun _ => noX (lcD tg ft fe (wipeD ρ vs) ds) >>= fun ys => .ok (.list ys)
theorem lc_in {w : World} {K : PySem.W.Frag} {σ : L2.St} {H : Hp} {Q : VK} {ws : List Nat} (hv : ∀ j ∈ ws, j ∈ vs)
    (h : tO w K e O (compD vs fi tg ft fe) σ H Q) : tLc (iV w K e O fi) (gT w K noE O ws tg) (tW w K noE O ft) (tV w K noE O fe) vs σ H Q := by
  obtain ⟨B, ρ, G, r, q⟩ := h
  refine ⟨B, ρ, G, r, gd_mono (gd_bind.mp q) fun ds q J G1 H1 g1 wk A nA => ?_⟩
  obtain ⟨hlen, q⟩ := lenOk_in (gd_bind.mp q)
  obtain ⟨ys, eys, q⟩ := noX_in (gd_bind.mp q)
  have r1 := r.grow g1
  have nA0 : H A = none := by
    cases z : H A with
    | none => rfl
    | some o => rw [g1.keep A o z] at nA; cases nA
  have nG1 : G1 A = none := by
    cases z : G1 A with
    | none => rfl
    | some o => rw [g1.sub A o z] at nA; cases nA
  have gA := Gr.own (o := .lst []) g1.sub nA
  have nB : B.H A = none := by
    cases z : B.H A with
    | none => rfl
    | some o => rw [r.gr.keep A o z] at nA0; cases nA0
  have ap : ∀ (i : Nat) (d : D), i ∈ O → (wipeD ρ vs)[i]? = some (some d) → (wipe σ vs)[i]? ≠ some (some (.ref A)) := fun i d hi e z => by
    obtain ⟨b, q1, q2, _⟩ := (r1.wipe vs).own i d e hi
    rw [z] at q1; cases q1
    obtain ⟨u, hu⟩ := q2.there
    rw [hu] at nA; cases nA
  refine ⟨fun i m H' => m = ds.length - i ∧ i ≤ ds.length ∧ ∃ G' acc dacc rest, Rp w K B O (wipeD ρ vs) (wipe σ vs) G' H' ∧ Gr G1 H1 G' H' ∧ G' A = none ∧ H' A = some (.lst acc) ∧ DtAll w K G' acc dacc ∧ lcD tg ft fe (wipeD ρ vs) (ds.drop i) = .ok rest ∧ dacc ++ rest = ys ∧ dacc.length ≤ i, ⟨ds.length, rfl, Nat.zero_le _, G1, [], [], ys, (r1.grow gA).wipe vs, gA, nG1, upd_same, .nil, eys, rfl, Nat.le_refl _⟩, fun i m H' hW => ?_⟩
  obtain ⟨rfl, hi, G', acc, dacc, rest, r', g', nG, hA, tA, eR, eY, hdl⟩ := hW
  by_cases hl : i < ds.length
  · refine .inr ⟨wk.go i G' H' (g'.up g1.sub) g'.sub hl, fun H2 => ∃ G2 acc dacc rest, Rp w K B O (wipeD ρ vs) (wipe σ vs) G2 H2 ∧ Gr G1 H1 G2 H2 ∧ G2 A = none ∧ H2 A = some (.lst acc) ∧ DtAll w K G2 acc dacc ∧ lcD tg ft fe (wipeD ρ vs) (ds.drop (i + 1)) = .ok rest ∧ dacc ++ rest = ys ∧ dacc.length ≤ i + 1, fun H2 h2 => ⟨ds.length - (i + 1), by omega, rfl, hl, h2⟩, fun x H2 y => ?_⟩
    obtain ⟨G2, g2, t2⟩ := wk.yld i ds[i] G' H' x H2 (g'.up g1.sub) g'.sub (List.getElem?_eq_getElem hl) y
    rw [List.drop_eq_getElem_cons hl] at eR
    obtain ⟨ρ1, e1, eR⟩ := bind_ok (show (tg ds[i] (wipeD ρ vs) >>= fun ρ1 => ft ρ1 >>= fun b => if b then fe ρ1 >>= fun y => lcD tg ft fe (wipeD ρ vs) (ds.drop (i + 1)) >>= fun ys => .ok (y :: ys) else lcD tg ft fe (wipeD ρ vs) (ds.drop (i + 1))) = .ok rest from eR)
    obtain ⟨b, e2, eR⟩ := bind_ok eR
    have neA : H' A ≠ none := by rw [hA]; exact fun z => nomatch z
    refine ⟨B, wipeD ρ vs, G2, ds[i], r'.grow g2, t2, gd_of e1 fun σ2 k2 r2 => ⟨?_, B, ρ1, G2, r2, gd_of e2 fun G3 H3 g3 => ?_⟩⟩
    · have := wipe_same (vs := vs) k2.len k2.off hv
      rw [this, wipe_wipe]
    · have g23 := g2.trans g3
      cases b with
      | false =>
        refine iteF ⟨G3, acc, dacc, rest, r'.grow g23, g'.trans g23, (g23.fix A neA).trans nG, g23.keep A _ hA, tA.sub (g23.up g'.sub), eR, eY, by omega⟩
      | true =>
        obtain ⟨y1, e3, eR⟩ := bind_ok (show (fe ρ1 >>= fun y => lcD tg ft fe (wipeD ρ vs) (ds.drop (i + 1)) >>= fun ys => .ok (y :: ys)) = .ok rest from eR)
        obtain ⟨zs, e4, eR⟩ := bind_ok eR
        cases eR
        refine iteT ⟨B, ρ1, G3, r2.grow g3, gd_of e3 fun u G4 H4 g4 t4 => ?_⟩
        have g24 := g23.trans g4
        have hA4 := g24.keep A _ hA
        have nG4 : G4 A = none := (g24.fix A neA).trans nG
        refine ⟨acc, hA4, by rw [tA.length]; omega, G4, acc ++ [u], dacc ++ [y1], zs, ?_, ?_, nG4, upd_same, (tA.sub (g24.up g'.sub)).append (.one t4), e4, by rw [List.append_assoc]; exact eY, by rw [List.length_append, List.length_singleton]; omega⟩
        · exact (r'.grow g24).out nG4 nB ap
        · exact (g'.trans g24).wr nA nG4
  · have ei : i = ds.length := by omega
    subst ei
    rw [List.drop_length] at eR
    cases eR
    rw [List.append_nil] at eY
    subst eY
    exact .inl ⟨wk.stop G' H' (g'.up g1.sub) g'.sub, q A G' H' (g1.trans g') nA0 nG (.inl ⟨acc, dacc, rfl, hA, tA⟩)⟩
end
end Vs

set_option Elab.async false
set_option linter.all false
set_option maxRecDepth 100000
/-! Comprehensions as expressions, lists of one's own written, the rule for a def. -/
namespace Vs
open PySem PySem.Spec PyProof.Rows L2

section
variable {X : Cx} {elt tgt iter tgt1 iter1 : Expr} {ifs ifs1 : List Expr} {scope : Scope} {own : List (Str × Nat)} {pos : Pos} {e : Nat → D → Prop} {O O' vs vs1 ws ws1 : List Nat} {fi fi1 : Env' → R (List D)} {tg tg1 : D → Env' → R Env'} {ft ft1 : Env' → R Bool} {fe : Env' → R D} {fr : Bool}
abbrev Blk (X : Cx) (scope : Scope) (φ : Cx → Prop) : Prop := ∀ (s : Shared) (H : Hp) (C : Addr) (cl : List (Str × Addr)) (fp : List Addr), φ (X.blk s H scope (compEnvC scope cl C X.env) fp)
theorem tlc_eq (hv : vs = own.map (·.2)) {wi : TI} {g : TG} {tt : TT} {te : TE} : tLc wi g tt te (own.map (·.2)) = tLc wi g tt te vs := by rw [hv]
theorem o_lc (own : List (Str × Nat)) (hc : X.calm = true) (hN : X.N.Nodup) (hi : PI X tgt iter (iV X.w X.K e O fi)) (ok : BlkOk X.N X.env.scope scope own) (hg : Blk X scope fun Y => PG Y tgt (gT Y.w Y.K noE O ws tg)) (ht : Blk X scope fun Y => PTs Y ifs (tW Y.w Y.K noE O ft)) (he : Blk X scope fun Y => PE Y elt (tV Y.w Y.K noE O fe))
    (hv : ∀ j ∈ ws, j ∈ own.map (·.2) := by decide) (hs : ∀ x, foldedSetIterable iter X.env x = pure x := by intro _; rfl) : PE X (.ListComp elt [⟨tgt, iter, ifs, 0⟩] scope pos) (tO X.w X.K e O (compD (own.map (·.2)) fi tg ft fe)) :=
  pe_imp (pe_lc hc hN hi ok hg ht he hs) fun σ H Q h => lc_in hv h
/-- x = [..] on one line, x a local -/
theorem s_lc (own : List (Str × Nat)) (i : Nat) {y : Str} {py spos : Pos} (hc : X.calm = true) (hN : X.N.Nodup) (hsw : swapsWith (.ListComp elt [⟨tgt, iter, ifs, 0⟩] scope pos) (some (.Name y py)) spos.line X.env = pure true) (hi : PI X tgt iter (iV X.w X.K e O fi)) (ok : BlkOk X.N X.env.scope scope own) (hg : Blk X scope fun Y => PG Y tgt (gT Y.w Y.K noE O ws tg)) (ht : Blk X scope fun Y => PTs Y ifs (tW Y.w Y.K noE O ft)) (he : Blk X scope fun Y => PE Y elt (tV Y.w Y.K noE O fe))
    (h0 : i ∈ O' := by decide) (h1 : ∀ j ∈ O', j = i ∨ j ∈ O := by decide) (h2 : ∀ j ∈ O, j = i ∨ j ∈ O' := by decide) (hy : X.N[i]? = some y := by rfl) (hyl : X.env.scope.names.lookup y = some .local := by rfl) (hv : ∀ j ∈ ws, j ∈ own.map (·.2) := by decide) (hs : ∀ x, foldedSetIterable iter X.env x = pure x := by intro _; rfl) :
    PS X (.Assign [.Name y py] (.ListComp elt [⟨tgt, iter, ifs, 0⟩] scope pos) spos) (sV X.w X.K e O O' fr fun ρ => compD (own.map (·.2)) fi tg ft fe ρ >>= fun d => setD i d ρ) := by
  refine ps_imp (ps_setLc (g := gT X.w X.K noE O ws tg) (tt := tW X.w X.K noE O ft) (te := tV X.w X.K noE O fe) hc hN hy hyl hsw hi ok hg ht he hs) fun Dn σ H ⟨B, ρ, G, r, q⟩ => ?_
  exact lc_in (e := e) hv ⟨B, ρ, G, r, gd_mono (gd_bind.mp q) fun d q p G1 H1 g1 n1 n2 o => q _ G1 H1 (g1.up r.sub) (r.putO g1 n1 n2 o h0 h1 h2)⟩

def lcD2 (tg : D → Env' → R Env') (ft : Env' → R Bool) (fi1 : Env' → R (List D)) (vs1 : List Nat) (tg1 : D → Env' → R Env') (ft1 : Env' → R Bool) (fe : Env' → R D) (ρ : Env') : List D → R (List D)
  | [] => .ok []
  | d :: ds => tg d ρ >>= fun ρ1 => ft ρ1 >>= fun b => if b then fi1 ρ1 >>= fun ds1 => lcD tg1 ft1 fe (wipeD ρ1 vs1) ds1 >>= fun ys => lcD2 tg ft fi1 vs1 tg1 ft1 fe ρ ds >>= fun zs => .ok (ys ++ zs) else lcD2 tg ft fi1 vs1 tg1 ft1 fe ρ ds
def compD2 (vs vs1 : List Nat) (fi : Env' → R (List D)) (tg : D → Env' → R Env') (ft : Env' → R Bool) (fi1 : Env' → R (List D)) (tg1 : D → Env' → R Env') (ft1 : Env' → R Bool) (fe : Env' → R D) : Env' → R D :=
  fun ρ => fi ρ >>= fun ds => noX (lcD2 tg ft fi1 vs1 tg1 ft1 fe (wipeD ρ vs) ds) >>= fun ys => lenOk ys.length >>= fun _ => .ok (.list ys)
theorem lc2_in {w : World} {K : PySem.W.Frag} {σ : L2.St} {H : Hp} {Q : VK} (hv : ∀ j ∈ ws, j ∈ vs) (hv1 : ∀ j ∈ ws1, j ∈ vs1)
    (h : tO w K e O (compD2 vs vs1 fi tg ft fi1 tg1 ft1 fe) σ H Q) : tLc2 (iV w K e O fi) (gT w K noE O ws tg) (tW w K noE O ft) (iV w K noE O fi1) (gT w K noE O ws1 tg1) (tW w K noE O ft1) (tV w K noE O fe) vs vs1 σ H Q := by
  obtain ⟨B, ρ, G, r, q⟩ := h
  refine ⟨B, ρ, G, r, gd_mono (gd_bind.mp q) fun ds q J G1 H1 g1 wk A nA => ?_⟩
  obtain ⟨ys, eys, q⟩ := noX_in (gd_bind.mp q)
  obtain ⟨hlen, q⟩ := lenOk_in (gd_bind.mp q)
  have r1 := r.grow g1
  have nA0 : H A = none := by
    cases z : H A with
    | none => rfl
    | some o => rw [g1.keep A o z] at nA; cases nA
  have nG1 : G1 A = none := by
    cases z : G1 A with
    | none => rfl
    | some o => rw [g1.sub A o z] at nA; cases nA
  have gA := Gr.own (o := .lst []) g1.sub nA
  have nB : B.H A = none := by
    cases z : B.H A with
    | none => rfl
    | some o => rw [r.gr.keep A o z] at nA0; cases nA0
  have ap : ∀ (i : Nat) (d : D), i ∈ O → (wipeD ρ vs)[i]? = some (some d) → (wipe σ vs)[i]? ≠ some (some (.ref A)) := fun i d hi e z => by
    obtain ⟨b, q1, q2, _⟩ := (r1.wipe vs).own i d e hi
    rw [z] at q1; cases q1
    obtain ⟨u, hu⟩ := q2.there
    rw [hu] at nA; cases nA
  refine ⟨fun i m H' => m = ds.length - i ∧ i ≤ ds.length ∧ ∃ G' acc dacc rest, Rp w K B O (wipeD ρ vs) (wipe σ vs) G' H' ∧ Gr G1 H1 G' H' ∧ G' A = none ∧ H' A = some (.lst acc) ∧ DtAll w K G' acc dacc ∧ lcD2 tg ft fi1 vs1 tg1 ft1 fe (wipeD ρ vs) (ds.drop i) = .ok rest ∧ dacc ++ rest = ys, ⟨ds.length, rfl, Nat.zero_le _, G1, [], [], ys, (r1.grow gA).wipe vs, gA, nG1, upd_same, .nil, eys, rfl⟩, fun i m H' hW => ?_⟩
  obtain ⟨rfl, hi, G', acc, dacc, rest, r', g', nG, hA, tA, eR, eY⟩ := hW
  by_cases hl : i < ds.length
  · refine .inr ⟨wk.go i G' H' (g'.up g1.sub) g'.sub hl, fun H2 => ∃ G2 acc dacc rest, Rp w K B O (wipeD ρ vs) (wipe σ vs) G2 H2 ∧ Gr G1 H1 G2 H2 ∧ G2 A = none ∧ H2 A = some (.lst acc) ∧ DtAll w K G2 acc dacc ∧ lcD2 tg ft fi1 vs1 tg1 ft1 fe (wipeD ρ vs) (ds.drop (i + 1)) = .ok rest ∧ dacc ++ rest = ys, fun H2 h2 => ⟨ds.length - (i + 1), by omega, rfl, hl, h2⟩, fun x H2 y => ?_⟩
    obtain ⟨G2, g2, t2⟩ := wk.yld i ds[i] G' H' x H2 (g'.up g1.sub) g'.sub (List.getElem?_eq_getElem hl) y
    rw [List.drop_eq_getElem_cons hl] at eR
    obtain ⟨ρ1, e1, eR⟩ := bind_ok (show (tg ds[i] (wipeD ρ vs) >>= fun ρ1 => ft ρ1 >>= fun b => if b then fi1 ρ1 >>= fun ds1 => lcD tg1 ft1 fe (wipeD ρ1 vs1) ds1 >>= fun ys => lcD2 tg ft fi1 vs1 tg1 ft1 fe (wipeD ρ vs) (ds.drop (i + 1)) >>= fun zs => .ok (ys ++ zs) else lcD2 tg ft fi1 vs1 tg1 ft1 fe (wipeD ρ vs) (ds.drop (i + 1))) = .ok rest from eR)
    obtain ⟨b, e2, eR⟩ := bind_ok eR
    have neA : H' A ≠ none := by rw [hA]; exact fun z => nomatch z
    refine ⟨B, wipeD ρ vs, G2, ds[i], r'.grow g2, t2, gd_of e1 fun σ2 k2 r2 => ⟨?_, B, ρ1, G2, r2, gd_of e2 fun G3 H3 g3 => ?_⟩⟩
    · have := wipe_same (vs := vs) k2.len k2.off hv
      rw [this, wipe_wipe]
    · have g23 := g2.trans g3
      cases b with
      | false => exact iteF ⟨G3, acc, dacc, rest, r'.grow g23, g'.trans g23, (g23.fix A neA).trans nG, g23.keep A _ hA, tA.sub (g23.up g'.sub), eR, eY⟩
      | true =>
        obtain ⟨ds1, e3, eR⟩ := bind_ok (show (fi1 ρ1 >>= fun ds1 => lcD tg1 ft1 fe (wipeD ρ1 vs1) ds1 >>= fun ys => lcD2 tg ft fi1 vs1 tg1 ft1 fe (wipeD ρ vs) (ds.drop (i + 1)) >>= fun zs => .ok (ys ++ zs)) = .ok rest from eR)
        obtain ⟨ys1, e4, eR⟩ := bind_ok eR
        obtain ⟨zs, e5, eR⟩ := bind_ok eR
        cases eR
        have ap2 : ∀ (i : Nat) (d : D), i ∈ O → (wipeD ρ1 vs1)[i]? = some (some d) → (wipe σ2 vs1)[i]? ≠ some (some (.ref A)) := fun i d hi e z => by
          obtain ⟨z1, z2⟩ := k2.own i hi
          obtain ⟨e1, _⟩ := wipeD_some e
          obtain ⟨z3, _⟩ := wipe_some z
          exact ap i d hi (z1.symm.trans e1) (z2.symm.trans z3)
        refine iteT ⟨B, ρ1, G3, r2.grow g3, gd_of e3 fun J1 G4 H4 g4 wk1 => ?_⟩
        have g24 := g23.trans g4
        refine ⟨fun j k H5 => k = ds1.length - j ∧ j ≤ ds1.length ∧ ∃ G5 acc dacc rest1, Rp w K B O (wipeD ρ vs) (wipe σ vs) G5 H5 ∧ Rp w K B O (wipeD ρ1 vs1) (wipe σ2 vs1) G5 H5 ∧ Gr G1 H1 G5 H5 ∧ Sub G4 G5 ∧ G5 A = none ∧ H5 A = some (.lst acc) ∧ DtAll w K G5 acc dacc ∧ lcD tg1 ft1 fe (wipeD ρ1 vs1) (ds1.drop j) = .ok rest1 ∧ dacc ++ (rest1 ++ zs) = ys,
          ⟨ds1.length, rfl, Nat.zero_le _, G4, acc, dacc, ys1, r'.grow g24, ((r2.grow g3).grow g4).wipe vs1, g'.trans g24, Sub.refl _, (g24.fix A neA).trans nG, g24.keep A _ hA, tA.sub (g24.up g'.sub), e4, eY⟩, fun j k H5 hW => ?_⟩
        obtain ⟨rfl, hj, G5, acc5, dacc5, rest5, r5, r5', g5, s5, nG5, hA5, tA5, eR5, eY5⟩ := hW
        have neA5 : H5 A ≠ none := by rw [hA5]; exact fun z => nomatch z
        by_cases hl5 : j < ds1.length
        · refine .inr ⟨wk1.go j G5 H5 s5 r5.sub hl5, fun H6 => ∃ G6 acc dacc rest1, Rp w K B O (wipeD ρ vs) (wipe σ vs) G6 H6 ∧ Rp w K B O (wipeD ρ1 vs1) (wipe σ2 vs1) G6 H6 ∧ Gr G1 H1 G6 H6 ∧ Sub G4 G6 ∧ G6 A = none ∧ H6 A = some (.lst acc) ∧ DtAll w K G6 acc dacc ∧ lcD tg1 ft1 fe (wipeD ρ1 vs1) (ds1.drop (j + 1)) = .ok rest1 ∧ dacc ++ (rest1 ++ zs) = ys, fun H6 h6 => ⟨ds1.length - (j + 1), by omega, rfl, hl5, h6⟩, fun x6 H6 y6 => ?_⟩
          obtain ⟨G6, g6, t6⟩ := wk1.yld j ds1[j] G5 H5 x6 H6 s5 r5.sub (List.getElem?_eq_getElem hl5) y6
          rw [List.drop_eq_getElem_cons hl5] at eR5
          obtain ⟨ρ6, f1, eR5⟩ := bind_ok (show (tg1 ds1[j] (wipeD ρ1 vs1) >>= fun ρ1' => ft1 ρ1' >>= fun b => if b then fe ρ1' >>= fun y => lcD tg1 ft1 fe (wipeD ρ1 vs1) (ds1.drop (j + 1)) >>= fun ys => .ok (y :: ys) else lcD tg1 ft1 fe (wipeD ρ1 vs1) (ds1.drop (j + 1))) = .ok rest5 from eR5)
          obtain ⟨b6, f2, eR5⟩ := bind_ok eR5
          refine ⟨B, wipeD ρ1 vs1, G6, ds1[j], r5'.grow g6, t6, gd_of f1 fun σ6 k6 r6 => ⟨?_, B, ρ6, G6, r6, gd_of f2 fun G7 H7 g7 => ?_⟩⟩
          · have := wipe_same (vs := vs1) k6.len k6.off hv1
            rw [this, wipe_wipe]
          · have g67 := g6.trans g7
            cases b6 with
            | false => exact iteF ⟨G7, acc5, dacc5, rest5, r5.grow g67, r5'.grow g67, g5.trans g67, s5.trans (g67.up r5.sub), (g67.fix A neA5).trans nG5, g67.keep A _ hA5, tA5.sub (g67.up r5.sub), eR5, eY5⟩
            | true =>
              obtain ⟨y1, f3, eR5⟩ := bind_ok (show (fe ρ6 >>= fun y => lcD tg1 ft1 fe (wipeD ρ1 vs1) (ds1.drop (j + 1)) >>= fun ys => .ok (y :: ys)) = .ok rest5 from eR5)
              obtain ⟨us, f4, eR5⟩ := bind_ok eR5
              cases eR5
              refine iteT ⟨B, ρ6, G7, r6.grow g7, gd_of f3 fun u G8 H8 g8 t8 => ?_⟩
              have g68 := g67.trans g8
              have hA8 := g68.keep A _ hA5
              have nG8 : G8 A = none := (g68.fix A neA5).trans nG5
              have hle : dacc5.length < ys.length := by
                rw [← eY5]
                simp only [List.length_append, List.length_cons]
                omega
              refine ⟨acc5, hA8, by rw [tA5.length]; omega, G8, acc5 ++ [u], dacc5 ++ [y1], us, (r5.grow g68).out nG8 nB ap, (r5'.grow g68).out nG8 nB ap2, (g5.trans g68).wr nA nG8, s5.trans (g68.up r5.sub), nG8, upd_same, (tA5.sub (g68.up r5.sub)).append (.one t8), f4, ?_⟩
              rw [List.append_assoc]
              exact eY5
        · have ej : j = ds1.length := by omega
          subst ej
          rw [List.drop_length] at eR5
          cases eR5
          exact .inl ⟨wk1.stop G5 H5 s5 r5.sub, G5, acc5, dacc5, zs, r5, g5, nG5, hA5, tA5, e5, eY5⟩
  · have ei : i = ds.length := by omega
    subst ei
    rw [List.drop_length] at eR
    cases eR
    rw [List.append_nil] at eY
    subst eY
    exact .inl ⟨wk.stop G' H' (g'.up g1.sub) g'.sub, q A G' H' (g1.trans g') nA0 nG (.inl ⟨acc, dacc, rfl, hA, tA⟩)⟩
theorem o_lc2 (own : List (Str × Nat)) (vs1 : List Nat) (hc : X.calm = true) (hN : X.N.Nodup) (hi : PI X tgt iter (iV X.w X.K e O fi)) (ok : BlkOk X.N X.env.scope scope own) (hg : Blk X scope fun Y => PG Y tgt (gT Y.w Y.K noE O ws tg)) (ht : Blk X scope fun Y => PTs Y ifs (tW Y.w Y.K noE O ft))
    (hi1 : Blk X scope fun Y => PI Y tgt1 iter1 (iV Y.w Y.K noE O fi1)) (hg1 : Blk X scope fun Y => PG Y tgt1 (gT Y.w Y.K noE O ws1 tg1)) (ht1 : Blk X scope fun Y => PTs Y ifs1 (tW Y.w Y.K noE O ft1)) (he : Blk X scope fun Y => PE Y elt (tV Y.w Y.K noE O fe))
    (hvo : ∀ i ∈ vs1, i ∈ own.map (·.2) := by decide) (hv : ∀ j ∈ ws, j ∈ own.map (·.2) := by decide) (hv1 : ∀ j ∈ ws1, j ∈ vs1 := by decide) (hs : ∀ x, foldedSetIterable iter X.env x = pure x := by intro _; rfl) (hs1 : ∀ env x, foldedSetIterable iter1 env x = pure x := by intro _ _; rfl) :
    PE X (.ListComp elt [⟨tgt, iter, ifs, 0⟩, ⟨tgt1, iter1, ifs1, 0⟩] scope pos) (tO X.w X.K e O (compD2 (own.map (·.2)) vs1 fi tg ft fi1 tg1 ft1 fe)) :=
  pe_imp (pe_lc2 (g := gT X.w X.K noE O ws tg) (tt := tW X.w X.K noE O ft) (wi1 := iV X.w X.K noE O fi1) (g1 := gT X.w X.K noE O ws1 tg1) (tt1 := tW X.w X.K noE O ft1) (te := tV X.w X.K noE O fe) hc hN hi ok hvo hg ht hi1 hg1 ht1 he hs hs1) fun σ H Q h => lc2_in hv hv1 h
end

/-! ### lists of one's own written -/
section
variable {X : Cx} {a : Expr} {pos p apos cpos : Pos} {e : Nat → D → Prop} {O : List Nat} {fr : Bool} {fa : Env' → R D}
theorem gv_in {ρ : Env'} {i : Nat} {q : D → Prop} (h : gd (gv ρ i) q e) : ∃ d, ρ[i]? = some (some d) ∧ q d := by
  unfold gv at h
  cases z : ρ[i]? with
  | none => rw [z] at h; exact h.elim
  | some o =>
    cases o with
    | none => rw [z] at h; exact h.elim
    | some d => rw [z] at h; exact ⟨d, rfl, h⟩
def gl (ρ : Env') (i : Nat) : R (List D) := gv ρ i >>= itL
theorem gl_in {ρ : Env'} {i : Nat} {q : List D → Prop} (h : gd (gl ρ i) q e) : ∃ ds, ρ[i]? = some (some (.list ds)) ∧ q ds := by
  obtain ⟨d, e1, h⟩ := gv_in (gd_bind.mp h)
  cases d <;> first | exact ⟨_, e1, h⟩ | exact h.elim
def apD (i : Nat) (xs : List D) (d : D) (ρ : Env') : R Out := if xs.length < 16777216 then setD i (.list (xs ++ [d])) ρ else stk
/-- x.append(e), x one's own -/
theorem s_app (i : Nat) {x : Str} (h : PE X a (tV X.w X.K e O fa)) (hi : i ∈ O := by decide) (hN : X.N[i]? = some x := by rfl) (hv : Vis X.env.scope x := by first | exact Or.inl rfl | exact Or.inr (Or.inl rfl) | exact Or.inr (Or.inr rfl)) (hd : (x == ("__debug__" : Str)) = false := by decide) (hc : (x == ("__classdict__" : Str)) = false := by decide)
    (hbase : attributeBase (.Name x p) "append" X.env (eval (.Name x p) X.env) = eval (.Name x p) X.env := by rfl)
    (hfew : ((backTo cpos (starEach [a] X.env)).all (fun x => !x.1) && (backToKw cpos (keywordEach [] X.env)).all (fun x => x.1.isSome) && decide ([a].length + ([] : List Keyword).length + (if ([] : List Keyword).isEmpty then 0 else 1) < 30)) = true := by rfl)
    (hline : (apos.endLine == cpos.line) = true := by rfl) (hst : starEach [a] X.env = (false, eval a X.env) :: starEach [] X.env := by rfl) (hpl : (backTo cpos (starEach [] X.env)).any (·.1) = false := by rfl)
    (hs : swapsWith (.Call (.Attribute (.Name x p) "append" apos) [a] [] cpos) none pos.line X.env = pure false := by rfl) :
    PS X (.Expr (.Call (.Attribute (.Name x p) "append" apos) [a] [] cpos) pos) (sV X.w X.K e O O fr fun ρ => gl ρ i >>= fun xs => fa ρ >>= fun d => apD i xs d ρ) := by
  refine ps_imp (ps_expr (pe_bm PySem.F.plainAttrs_list PySem.F.slot_list_append PySem.F.type_list_append mt_append (pv i hN hv hd hc) (pa_cons h pa_nil hst) hbase hfew hline hst hpl) hs) fun Dn σ H ⟨B, ρ, G, r, q⟩ => ?_
  obtain ⟨xs, e0, q⟩ := gl_in (gd_bind.mp q)
  obtain ⟨A, s0, o, n1, n2⟩ := r.own i _ e0 hi
  rcases o with ⟨vs, ds, ed, hA, tA⟩ | ⟨_, _, _, _, ed, _⟩
  · cases ed
    refine ⟨.ref A, s0, .inl ⟨rfl, vs, SqL.of hA⟩, B, ρ, G, r, gd_mono (gd_bind.mp q) fun d q v G1 H1 g1 t => ?_⟩
    unfold apD at q
    split at q
    · rename_i hl
      have hA1 := g1.keep A _ hA
      refine ⟨A, vs, v, rfl, rfl, hA1, by rw [tA.length, sizeLine_eq]; exact hl, q _ G1 _ (g1.up r.sub) ((r.grow g1).wr hi e0 s0 (.inl ⟨vs ++ [v], xs ++ [d], rfl, upd_same, (tA.sub (g1.up r.sub)).append (.one t)⟩))⟩
    · exact q.elim
  · cases ed
def exD (i : Nat) (xs : List D) (d : D) (ρ : Env') : R Out := match d with
  | .list ys => if xs.length + ys.length ≤ 16777216 then setD i (.list (xs ++ ys)) ρ else stk
  | _ => stk
/-- the item of a slot of one's own: a list's -/
def atD (xs : List D) (d : D) : R D := match d with
  | .int i => match atI xs i with
    | some y => .ok y
    | none => stk
  | _ => stk
end

/-! ### the rule for a def -/
def ret (fr : Bool) : Out → R D
  | .rt d => .ok d
  | .nx _ => if fr then stk else .ok .none
def arg0 (n : Nat) (ds : List D) : Env' := ds.map some ++ List.replicate (n - ds.length) none
theorem dtAll_start {w : World} {K : PySem.W.Frag} {G H : Hp} (s : Sub G H) {N : List Str} {vs : List V} {ds : List D} (t : DtAll w K G vs ds) : Rp w K ⟨G, H⟩ [] (arg0 N.length ds) (L2.start N vs) G H where
  len := by unfold L2.start arg0; simp only [List.length_append, List.length_map, List.length_replicate, t.length]
  gr := Gr.refl s
  dat := fun i d e _ => by
    unfold arg0 at e
    have hi : i < ds.length := by
      by_cases hi : i < ds.length
      · exact hi
      · rw [List.getElem?_append_right (by rw [List.length_map]; omega), List.getElem?_replicate] at e
        split at e <;> cases e
    rw [List.getElem?_append_left (by rw [List.length_map]; exact hi), List.getElem?_map] at e
    cases q : ds[i]? with
    | none => rw [q] at e; cases e
    | some d' =>
      rw [q] at e; cases e
      obtain ⟨v, h1, h2⟩ := t.get' q
      refine ⟨v, ?_, h2⟩
      unfold L2.start
      rw [List.getElem?_append_left (by rw [List.length_map, t.length]; exact hi), List.getElem?_map, h1]
      rfl
  own := fun _ _ _ z => by cases z
  sep := fun _ _ _ _ _ z => by cases z
section
variable {P : Program} {w : World} {K : PySem.W.Frag} {mg : Str → Option Value} {base : Heap} {cl : Nat → Addr} {x : Str} {st : Stmt} {a : Addr} {fd : FuncData} {N ps : List Str} {k n : Nat} {fr : Bool} {O' : List Nat} {fb : Env' → R Out}
/-- a def from which no error comes: its promise -/
theorem fnok_of (F : Fun K x x st a fd) (S : FnScope N ps (defScope st)) (hn : ps.length = n)
    (body : ∀ (cdv : Value) (A : Around) (outer : List Env) (s : Shared) (H : Hp) (E : XK), Room k (A.deeper (envOfC x (defScope st) s.heap.objs.size a cdv)) →
      PSs (cxOf CX0 P w K mg base N x (defScope st) a cdv A outer s H E).nox (defBody st) (sV w K noE [] O' fr fb)) :
    FnOk P w K mg base CX0 (k + 1) a fd ps (spD w K cl n fr (fun ds => noX (fb (arg0 N.length ds)) >>= ret fr)) := by
  refine F.ok S (fun vs H Q E h => ?_) (fun cdv A outer s H vs Q E hr h => ⟨_, body cdv A outer s H E hr, ?_⟩)
  · obtain ⟨ds, G, _, t, q⟩ := h
    unfold fnD at q
    split at q
    · rename_i hl
      rw [t.length, hl, hn]
    · exact q.elim
  · obtain ⟨ds, G, s1, t, q⟩ := h
    unfold fnD at q
    split at q
    · refine ⟨⟨G, H⟩, _, G, dtAll_start s1 t, ?_⟩
      obtain ⟨o, z, q⟩ := noX_in (gd_bind.mp q)
      rw [z]
      cases o with
      | rt d => exact q
      | nx ρ' =>
        intro σ' G' H' s' r'
        cases fr with
        | true => exact q.elim
        | false => exact q .non G' H' ⟨r'.gr, .non⟩
    · exact q.elim
theorem cal_of {g : Str} (F : Fun K x x st a fd) (m : mg g = some (.ref a)) (S : FnScope N ps (defScope st)) (b : Binds K fd ps []) (hn : ps.length = n)
    (body : ∀ (cdv : Value) (A : Around) (outer : List Env) (s : Shared) (H : Hp) (E : XK), Room k (A.deeper (envOfC x (defScope st) s.heap.objs.size a cdv)) →
      PSs (cxOf CX0 P w K mg base N x (defScope st) a cdv A outer s H E).nox (defBody st) (sV w K noE [] O' fr fb)) :
    Cal P w K mg base CX0 cl (k + 1) g n fr (fun ds => noX (fb (arg0 N.length ds)) >>= ret fr) :=
  ⟨a, fd, ps, fnok_of F S hn body, m, F.kp, b⟩
end
/-- the def under the global g -/
structure Gfn (K : PySem.W.Frag) (mg : Str → Option Value) (g x : Str) (st : Stmt) (ps : List Str) : Prop where
  ex : ∃ (a : Addr) (fd : FuncData), Fun K x x st a fd ∧ mg g = some (.ref a) ∧ Binds K fd ps []
end Vs

set_option Elab.async false
set_option linter.all false
set_option maxRecDepth 100000
/-! Operators on data. -/
namespace Vs
open PySem PySem.Spec PyProof.Rows L2

section
variable {X : Cx} {e : Nat → D → Prop}

/-! ### whole numbers -/
def arI (g : Int → Int → R D) : D → D → R D
  | .int i, .int j => g i j
  | _, _ => stk
theorem arI_in {w : World} {K : PySem.W.Frag} {g : Int → Int → R D} {G : Hp} {x y : V} {da db : D} {q : D → Prop} (t1 : Dt w K G x da) (t2 : Dt w K G y db) (h : gd (arI g da db) q e) : ∃ i j, x = .int i ∧ y = .int j ∧ gd (g i j) q e := by
  cases t1 with
  | int i =>
    cases t2 with
    | int j => exact ⟨i, j, rfl, rfl, h⟩
    | non => exact h.elim
    | bl _ => exact h.elim
    | str _ => exact h.elim
    | lst _ _ => exact h.elim
    | tup _ _ => exact h.elim
    | dct _ _ _ _ _ _ => exact h.elim
    | scr _ _ => exact h.elim
  | non => exact h.elim
  | bl _ => exact h.elim
  | str _ => exact h.elim
  | lst _ _ => exact h.elim
  | tup _ _ => exact h.elim
  | dct _ _ _ _ _ _ => exact h.elim
  | scr _ _ => exact h.elim
theorem op_i {f : Value → Value → Sem Value} {C : Int → Int → Prop} {c : Int → Int → V} {g : Int → Int → R D} (h : OpR X f (rI C c)) (hg : ∀ i j (q : D → Prop) (e : Nat → D → Prop), gd (g i j) q e → C i j ∧ ∃ d, q d ∧ ∀ G : Hp, Dt X.w X.K G (c i j) d) : OpR X f (r2 X.w X.K (arI g)) :=
  opr_imp h fun x y H Q ⟨G, da, db, e, s, t1, t2, q⟩ => by
    obtain ⟨i, j, rfl, rfl, q⟩ := arI_in t1 t2 q
    obtain ⟨hc, d, q, t⟩ := hg i j _ e q
    exact ⟨i, j, rfl, rfl, hc, q _ G H (Gr.refl s) (t G)⟩
theorem op_i0 {f : Value → Value → Sem Value} {c : Int → Int → V} {g : Int → Int → R D} (h : OpR X f (rI0 c)) (hg : ∀ i j, ∃ d, g i j = .ok d ∧ ∀ G : Hp, Dt X.w X.K G (c i j) d) : OpR X f (r2 X.w X.K (arI g)) :=
  opr_imp h fun x y H Q ⟨G, da, db, e, s, t1, t2, q⟩ => by
    obtain ⟨i, j, rfl, rfl, q⟩ := arI_in t1 t2 q
    obtain ⟨d, z, t⟩ := hg i j
    rw [z] at q
    exact ⟨i, j, rfl, rfl, q _ G H (Gr.refl s) (t G)⟩
def subI : D → D → R D := arI fun i j => .ok (.int (i - j))
theorem d_sub : OpR X (binaryOp .Sub) (r2 X.w X.K subI) := op_i0 op_sub fun i j => ⟨_, rfl, fun _ => .int _⟩
def fdivI : D → D → R D := arI fun i j => if 0 < j ∧ j < 1073741824 then .ok (.int (i / j)) else stk
theorem d_fdiv : OpR X (binaryOp .FloorDiv) (r2 X.w X.K fdivI) := op_i op_fdiv fun i j q e h => by
  split at h
  · rename_i hc; exact ⟨hc, _, h, fun _ => .int _⟩
  · exact h.elim
def modI : D → D → R D := arI fun i j => if 0 < j then .ok (.int (i % j)) else stk
theorem d_mod : OpR X (binaryOp .Mod) (r2 X.w X.K modI) := op_i op_mod fun i j q e h => by
  split at h
  · rename_i hc; exact ⟨hc, _, h, fun _ => .int _⟩
  · exact h.elim
def powI : D → D → R D := arI fun i j => if 0 ≤ j ∧ j ≤ 1000000 ∧ i.natAbs < 18446744073709551616 then .ok (.int (i ^ j.toNat)) else stk
theorem d_pow : OpR X (binaryOp .Pow) (r2 X.w X.K powI) := op_i op_pow fun i j q e h => by
  split at h
  · rename_i hc; exact ⟨⟨hc.1, hc.2.1, by have := hc.2.2; omega⟩, _, h, fun _ => .int _⟩
  · exact h.elim
/-- ints compared -/
def cmpI (p : Int → Int → Bool) : D → D → R D := arI fun i j => .ok (.bool (p i j))
theorem d_ltI : OpR X (compareOp .Lt) (r2 X.w X.K (cmpI fun i j => decide (i < j))) := op_i0 op_lt fun i j => ⟨_, rfl, fun _ => .bl _⟩
theorem d_leI : OpR X (compareOp .LtE) (r2 X.w X.K (cmpI fun i j => decide (i ≤ j))) := op_i0 op_le fun i j => ⟨_, rfl, fun _ => .bl _⟩
theorem d_gtI : OpR X (compareOp .Gt) (r2 X.w X.K (cmpI fun i j => decide (j < i))) := op_i0 op_gt fun i j => ⟨_, rfl, fun _ => .bl _⟩
theorem d_geI : OpR X (compareOp .GtE) (r2 X.w X.K (cmpI fun i j => decide (j ≤ i))) := op_i0 op_ge fun i j => ⟨_, rfl, fun _ => .bl _⟩
/-- a < b < c -/
theorem ch_in {a b c : Expr} {O : List Nat} {fa fb fc : Env' → R D} {p q : Int → Int → Bool} {σ : L2.St} {H : Hp} {Q : VK}
    (h : tV X.w X.K e O (fun ρ => fa ρ >>= fun x => fb ρ >>= fun y => asI x >>= fun i => asI y >>= fun j => if p i j then fc ρ >>= fun z => asI z >>= fun k => .ok (.bool (q j k)) else .ok (.bool false)) σ H Q) :
    tChain (rI0 fun i j => .bl (p i j)) (rI0 fun i j => .bl (q i j)) (tV X.w X.K e O fa) (tV X.w X.K e O fb) (tV X.w X.K e O fc) σ H Q := by
  obtain ⟨B, ρ, G, r, h⟩ := h
  refine ⟨B, ρ, G, r, gd_mono (gd_bind.mp h) fun da h v G1 H1 g1 t1 => ⟨B, ρ, G1, r.grow g1, gd_mono (gd_bind.mp h) fun db h u G2 H2 g2 t2 => ?_⟩⟩
  obtain ⟨i, rfl, h⟩ := asI_in t1 (gd_bind.mp h)
  obtain ⟨j, rfl, h⟩ := asI_in t2 (gd_bind.mp h)
  refine ⟨i, j, rfl, rfl, _, rfl, ?_⟩
  split at h
  · rename_i hp
    rw [hp]
    refine iteT ⟨B, ρ, G2, (r.grow g1).grow g2, gd_mono (gd_bind.mp h) fun dc h y G3 H3 g3 t3 => ?_⟩
    obtain ⟨k, rfl, h⟩ := asI_in t3 (gd_bind.mp h)
    exact ⟨j, k, rfl, rfl, h _ G3 H3 ((g1.trans g2).trans g3) (.bl _)⟩
  · rename_i hp
    rw [Bool.not_eq_true] at hp
    rw [hp]
    exact iteF (h _ G2 H2 (g1.trans g2) (.bl _))
abbrev chD (p q : Int → Int → Bool) (fa fb fc : Env' → R D) : Env' → R D := fun ρ => fa ρ >>= fun x => fb ρ >>= fun y => asI x >>= fun i => asI y >>= fun j => if p i j then fc ρ >>= fun z => asI z >>= fun k => .ok (.bool (q j k)) else .ok (.bool false)
theorem v_ch {op op' : CmpOp} {a b c : Expr} {pos : Pos} {O : List Nat} {fa fb fc : Env' → R D} {p q : Int → Int → Bool} (h1 : OpR X (compareOp op) (rI0 fun i j => .bl (p i j))) (h2 : OpR X (compareOp op') (rI0 fun i j => .bl (q i j))) (ha : PE X a (tV X.w X.K e O fa)) (hb : PE X b (tV X.w X.K e O fb)) (hc : PE X c (tV X.w X.K e O fc))
    (hm : lastMarks [op, op'] [b, c] = false := by with_unfolding_all rfl) : PE X (.Compare a [op, op'] [b, c] pos) (tV X.w X.K e O (chD p q fa fb fc)) := pe_imp (pe_chain h1 h2 ha hb hc hm) fun _ _ _ h => ch_in (a := a) (b := b) (c := c) h
theorem w_ch {op op' : CmpOp} {a b c : Expr} {pos : Pos} {O : List Nat} {fa fb fc : Env' → R D} {p q : Int → Int → Bool} (h1 : OpR X (compareOp op) (rI0 fun i j => .bl (p i j))) (h2 : OpR X (compareOp op') (rI0 fun i j => .bl (q i j))) (ha : PE X a (tV X.w X.K e O fa)) (hb : PE X b (tV X.w X.K e O fb)) (hc : PE X c (tV X.w X.K e O fc))
    (hm : lastMarks [op, op'] [b, c] = false := by with_unfolding_all rfl) : PT X (.Compare a [op, op'] [b, c] pos) (tW X.w X.K e O fun ρ => chD p q fa fb fc ρ >>= asB) := by
  refine pt_imp (pt_chain h1 h2 ha hb hc hm) fun σ H Q h => ?_
  obtain ⟨B, ρ, G, r, h⟩ := h
  refine ch_in (a := a) (b := b) (c := c) (e := e) ⟨B, ρ, G, r, gd_mono (gd_bind.mp h) fun d h v G1 H1 g1 t => ?_⟩
  cases t with
  | bl k => exact ⟨k, rfl, h G1 H1 g1⟩
  | non => exact h.elim
  | int _ => exact h.elim
  | str _ => exact h.elim
  | lst _ _ => exact h.elim
  | tup _ _ => exact h.elim
  | dct _ _ _ _ _ _ => exact h.elim
  | scr _ _ => exact h.elim

/-! ### lists as they stand -/
theorem lst_at {pins : List (Addr × Obj)} {σ : L2.St} {H : Hp} {s : Shared} {l : Addr} {xs : List V} (I : Inv X pins σ H s) (h : Rd H l (.lst xs)) : xs.length ≤ sizeLine ∧ ∃ (its : List Value) (n : Nat), Vals xs its ∧ s.heap.get? l = some { cls := .type "list", data := .seq its.toArray n } := by
  obtain ⟨z, us, m, rel, at0⟩ := h.ok I.hok
  exact ⟨z, us, m, rel, at0⟩
def rCatL : R2 := fun x y H Q => ∃ l b xs zs, x = .ref l ∧ y = .ref b ∧ Rd H l (.lst xs) ∧ Rd H b (.lst zs) ∧ xs.length + zs.length ≤ sizeLine ∧ ∀ p, H p = none → Q (.ref p) (upd H p (.lst (xs ++ zs)))
theorem cat_rd : OpR X (binaryOp .Add) rCatL := by
  intro pins s σ H x y v u Q I rx ry h
  obtain ⟨l, b, xs, zs, e1, e2, hl, hb, hz, q⟩ := h
  subst e1
  subst e2
  obtain rfl : v = Value.ref l := rx
  obtain rfl : u = Value.ref b := ry
  obtain ⟨_, us, m, r1, at1⟩ := lst_at I hl
  obtain ⟨_, ws, k, r2, at2⟩ := lst_at I hb
  have n1 := r1.length
  have n2 := r2.length
  refine PySem.P.add_list at1 at2 ?_ (by rw [List.size_toArray, List.size_toArray]; omega)
  have both : us.toArray ++ ws.toArray = (us ++ ws).toArray := by simp
  rw [both]
  exact ⟨.ref _, _, I.lnew (t' := s.toks) (r1.append r2) (by rw [List.length_append]; omega), rfl, q _ I.fresh⟩

/-! ### + -/
def addD (a b : D) : R D := match a, b with
  | .int i, .int j => .ok (.int (i + j))
  | .str x, .str y => if x.length + y.length ≤ 16777216 then .ok (.str (x ++ y)) else stk
  | .list xs, .list ys => if xs.length + ys.length ≤ 16777216 then .ok (.list (xs ++ ys)) else stk
  | _, _ => stk
theorem d_add : OpR X (binaryOp .Add) (r2 X.w X.K addD) := by
  intro pins s σ H x y v u Q I rx ry ⟨G, da, db, e, sb, t1, t2, q⟩
  unfold addD at q
  split at q
  · cases t1; cases t2
    exact op_add pins s σ H _ _ v u Q I rx ry ⟨_, _, rfl, rfl, q _ G H (Gr.refl sb) (.int _)⟩
  · cases t1; cases t2
    split at q
    · rename_i hl
      exact op_add_str pins s σ H _ _ v u Q I rx ry ⟨_, _, rfl, rfl, by rw [sizeLine_eq]; exact hl, q _ G H (Gr.refl sb) (.str _)⟩
    · exact q.elim
  · cases t1 with
    | lst s1 a1 =>
      cases t2 with
      | lst s2 a2 =>
        split at q
        · rename_i hl
          refine cat_rd pins s σ H _ _ v u Q I rx ry ⟨_, _, _, _, rfl, rfl, Rd.sub sb s1, Rd.sub sb s2, by rw [a1.length, a2.length, sizeLine_eq]; exact hl, fun p np => ?_⟩
          exact q _ _ _ (Gr.new sb np) (.lst (.inl upd_same) ((a1.append a2).sub ((Gr.new sb np).up sb)))
        · exact q.elim
  · exact q.elim

/-! ### * -/
theorem p64 {i j : Int} (h : i.natAbs < 18446744073709551616 ∨ j.natAbs < 18446744073709551616) : (-(2 ^ 64) < i ∧ i < 2 ^ 64) ∨ (-(2 ^ 64) < j ∧ j < 2 ^ 64) := by
  have e : (2 : Int) ^ 64 = 18446744073709551616 := by decide
  rw [e]; omega
def mulI (a b : D) : R D := match a, b with
  | .int i, .int j => if i.natAbs < 18446744073709551616 ∨ j.natAbs < 18446744073709551616 then .ok (.int (i * j)) else stk
  | _, _ => stk
theorem d_mulI : OpR X (binaryOp .Mult) (r2 X.w X.K mulI) := by
  intro pins s σ H x y v u Q I rx ry ⟨G, da, db, e, sb, t1, t2, q⟩
  unfold mulI at q
  split at q
  · cases t1; cases t2
    split at q
    · rename_i hc
      exact op_mul pins s σ H _ _ v u Q I rx ry ⟨_, _, rfl, rfl, p64 hc, q _ G H (Gr.refl sb) (.int _)⟩
    · exact q.elim
  · exact q.elim

/-! ### == -/
mutual
theorem Dt.dp {w : World} {K : PySem.W.Frag} {G H : Hp} (s : Sub G H) : ∀ {v : V} {d : D}, Dt w K G v d → d.canLay0 = true → Dp K H v d
  | _, _, .non, _ => .non
  | _, _, .bl b, _ => .bl b
  | _, _, .int i, _ => .int i
  | _, _, .str x, _ => .str x
  | _, _, .lst h t, c => .lst (Rd.sq (Rd.sub s h)) (DtAll.dp s t (by simpa [PyData.canLay0] using c))
  | _, _, .tup h t, c => .tup (SqT.sub s h) (DtAll.dp s t (by simpa [PyData.canLay0] using c))
  | _, _, .dct _ _ _ _ _ _, c => by simp [PyData.canLay0] at c
  | _, _, .scr _ _, c => by simp [PyData.canLay0] at c
theorem DtAll.dp {w : World} {K : PySem.W.Frag} {G H : Hp} (s : Sub G H) : ∀ {vs : List V} {ds : List D}, DtAll w K G vs ds → PyData.canLayAll0 ds = true → DpAll K H vs ds
  | _, _, .nil, _ => .nil
  | _, _, .cons h t, c => by
    rw [PyData.canLayAll0, Bool.and_eq_true] at c
    exact .cons (Dt.dp s h c.1) (DtAll.dp s t c.2)
end
theorem shaped_lay {d : D} (h : SeqAt.shaped d = true) : d.canLay0 = true := by
  unfold SeqAt.shaped at h
  rw [Bool.and_eq_true] at h
  exact h.1
def eqD (a b : D) : R D := match a, b with
  | .str x, .str y => .ok (.bool (decide (x = y)))
  | a, b => if SeqAt.shaped a = true ∧ SeqAt.shaped b = true then .ok (.bool (PyData.eqv a b)) else stk
def neD (a b : D) : R D := match a, b with
  | .str x, .str y => .ok (.bool (!decide (x = y)))
  | a, b => if SeqAt.shaped a = true ∧ SeqAt.shaped b = true then .ok (.bool (!PyData.eqv a b)) else stk
theorem dstr {i j : Str} : decide (V.str i = V.str j) = decide (i = j) := by
  rw [Bool.eq_iff_iff]
  simp
theorem d_eq (hu : X.A.units + 64 < cLine) : OpR X (compareOp .Eq) (r2 X.w X.K eqD) := by
  intro pins s σ H x y v u Q I rx ry ⟨G, da, db, e, sb, t1, t2, q⟩
  unfold eqD at q
  split at q
  · cases t1; cases t2
    exact op_eq pins s σ H _ _ v u Q I rx ry ⟨rfl, by rw [dstr]; exact q _ G H (Gr.refl sb) (.bl _)⟩
  · split at q
    · rename_i hc
      exact op_eqD hu pins s σ H _ _ v u Q I rx ry ⟨da, db, t1.dp sb (shaped_lay hc.1), t2.dp sb (shaped_lay hc.2), hc.1, hc.2, q _ G H (Gr.refl sb) (.bl _)⟩
    · exact q.elim
theorem d_ne (hu : X.A.units + 64 < cLine) : OpR X (compareOp .NotEq) (r2 X.w X.K neD) := by
  intro pins s σ H x y v u Q I rx ry ⟨G, da, db, e, sb, t1, t2, q⟩
  unfold neD at q
  split at q
  · cases t1; cases t2
    exact op_ne pins s σ H _ _ v u Q I rx ry ⟨rfl, by rw [dstr]; exact q _ G H (Gr.refl sb) (.bl _)⟩
  · split at q
    · rename_i hc
      exact op_neD hu pins s σ H _ _ v u Q I rx ry ⟨da, db, t1.dp sb (shaped_lay hc.1), t2.dp sb (shaped_lay hc.2), hc.1, hc.2, q _ G H (Gr.refl sb) (.bl _)⟩
    · exact q.elim
/-- is None -/
def isN (a b : D) : R D := match b with
  | .none => match a with
    | .none => .ok (.bool true)
    | _ => .ok (.bool false)
  | _ => stk
def notN (a b : D) : R D := match b with
  | .none => match a with
    | .none => .ok (.bool false)
    | _ => .ok (.bool true)
  | _ => stk
theorem non_dec {w : World} {K : PySem.W.Frag} {G : Hp} {v : V} {d : D} (t : Dt w K G v d) : decide (v = V.non) = match d with | .none => true | _ => false := by
  cases t <;> first | rfl | exact decide_eq_false (fun z => nomatch z)
theorem d_is : OpR X (compareOp .Is) (r2 X.w X.K isN) := opr_imp op_isN fun x y H Q ⟨G, da, db, e, sb, t1, t2, q⟩ => by
  unfold isN at q
  split at q
  · cases t2
    refine ⟨rfl, ?_⟩
    rw [non_dec t1]
    split at q
    · exact q _ G H (Gr.refl sb) (.bl _)
    · have q := q _ G H (Gr.refl sb) (.bl _)
      split
      · contradiction
      · exact q
  · exact q.elim
theorem d_isn : OpR X (compareOp .IsNot) (r2 X.w X.K notN) := opr_imp op_notN fun x y H Q ⟨G, da, db, e, sb, t1, t2, q⟩ => by
  unfold notN at q
  split at q
  · cases t2
    refine ⟨rfl, ?_⟩
    rw [non_dec t1]
    split at q
    · exact q _ G H (Gr.refl sb) (.bl _)
    · have q := q _ G H (Gr.refl sb) (.bl _)
      split
      · contradiction
      · exact q
  · exact q.elim
end
end Vs

set_option Elab.async false
set_option linter.all false
set_option maxRecDepth 100000
/-! in, subscripts, slices, built-ins on data. -/
namespace Vs
open PySem PySem.Spec PyProof.Rows L2

/-! ### dicts: keys -/
def atomK : D → Option Key
  | .int i => some (.inl i)
  | .str x => some (.inr x)
  | _ => none
def allAt (kvs : List (D × D)) : Bool := kvs.all fun p => (atomK p.1).isSome
def dfind (kvs : List (D × D)) (d : D) : Option D := (kvs.find? fun p => PyData.eqv p.1 d).map (·.2)
theorem atom_eqv {d d' : D} {k k' : Key} (h : atomK d = some k) (h' : atomK d' = some k') : PyData.eqv d d' = decide (k = k') := by
  cases d with
  | int i =>
    cases h
    cases d' with
    | int j => cases h'; rw [key_ll]; simp only [PyData.eqv]
    | str y => cases h'; rw [key_lr]; simp only [PyData.eqv]
    | _ => cases h'
  | str x =>
    cases h
    cases d' with
    | int j => cases h'; rw [key_rl]; simp only [PyData.eqv]
    | str y => cases h'; rw [key_rr]; simp only [PyData.eqv]; by_cases hh : x = y <;> simp [hh]
    | _ => cases h'
  | _ => cases h
theorem atom_V {w : World} {K : PySem.W.Frag} {G : Hp} {v : V} {d : D} {k : Key} (t : Dt w K G v d) (h : atomK d = some k) : v = kV k := by
  cases t with
  | int i => cases h; rfl
  | str x => cases h; rfl
  | non => cases h
  | bl _ => cases h
  | lst _ _ => cases h
  | tup _ _ => cases h
  | dct _ _ _ _ _ _ => cases h
  | scr _ _ => cases h
theorem atom_is {P : Program} {w : World} {K : PySem.W.Frag} {G : Hp} {v : V} {u : Value} {d : D} {k : Key} (r : RelV v u) (t : Dt w K G v d) (h : atomK d = some k) : (mixKind P w).is k u = true := by
  have e := atom_V t h
  subst e
  exact kV_is r
theorem atom_hash {w : World} {d : D} {k : Key} (h : atomK d = some k) : hashD w d = keyH w k := by
  cases d <;> cases h <;> simp only [hashD, keyH]
section
variable {P : Program} {w : World} {K : PySem.W.Frag} {G : Hp}
theorem es_keys : ∀ {es : List DictEntry} {kvs : List (D × D)}, DtEs w K G es kvs → allAt kvs = true → ∀ e ∈ es, ∃ k, (mixKind P w).is k e.key = true ∧ e.hash = (mixKind P w).hash k
  | _, _, .nil, _, e, he => by cases he
  | _, _, .cons (dk := dk) rk tk hh rv tv r, ha, e, he => by
    unfold allAt at ha
    rw [List.all_cons, Bool.and_eq_true] at ha
    rcases List.mem_cons.mp he with rfl | he
    · obtain ⟨k, hk⟩ := Option.isSome_iff_exists.mp ha.1
      exact ⟨k, atom_is rk tk hk, by rw [hh, atom_hash hk]; rfl⟩
    · exact es_keys r ha.2 e he
theorem es_find {d : D} {k : Key} (hd : atomK d = some k) : ∀ {es : List DictEntry} {kvs : List (D × D)}, DtEs w K G es kvs → allAt kvs = true →
    (match dfind kvs d with
    | some dv => ∃ u vv, (es.find? fun e => (mixKind P w).is k e.key).map (·.val) = some u ∧ RelV vv u ∧ Dt w K G vv dv
    | none => (es.find? fun e => (mixKind P w).is k e.key).map (·.val) = none)
  | _, _, .nil, _ => rfl
  | _, _, .cons (e := e) (dk := dk) (dv := dv) (vv := vv) (es := es) (kvs := kvs) rk tk hh rv tv r, ha => by
    unfold allAt at ha
    rw [List.all_cons, Bool.and_eq_true] at ha
    obtain ⟨k', hk'⟩ := Option.isSome_iff_exists.mp ha.1
    have e1 : PyData.eqv dk d = decide (k' = k) := atom_eqv hk' hd
    have e2 : (mixKind P w).is k e.key = decide (k = k') := KeyKind.is_eq_decide (atom_is rk tk hk') k
    unfold dfind
    rw [List.find?_cons, List.find?_cons, e1, e2]
    by_cases hkk : k' = k
    · subst hkk
      rw [decide_eq_true rfl]
      exact ⟨e.val, vv, rfl, rv, tv⟩
    · rw [decide_eq_false hkk, decide_eq_false (Ne.symm hkk)]
      exact es_find hd r ha.2
end
section
variable {X : Cx} {pins : List (Addr × Obj)} {σ : L2.St} {H G : Hp} {s : Shared} {a : Addr} {o : Obj}
theorem dc_at (I : Inv X pins σ H s) (sb : Sub G H) (h : DcA X.K G a o) : s.heap.get? a = some o := by
  rcases h with h | h
  · exact (I.hok a _ (sb a _ h)).1
  · exact I.kIn a o h
theorem dc_map {es : Array DictEntry} {ep : Nat} {kvs : List (D × D)} (I : Inv X pins σ H s) (sb : Sub G H) (h : DcA X.K G a o) (ho : o.ExactDict) (hd : o.data = .dict es ep) (t : DtEs X.w X.K G es.toList kvs) (ha : allAt kvs = true) :
    s.heap.MapOf (mixKind X.prog X.w) a (fun k => findBy (mixKind X.prog X.w).is es k) :=
  ⟨o, es, ep, dc_at I sb h, ho, hd, fun e he => es_keys t ha e (Array.mem_toList_iff.mpr he), fun _ => rfl⟩
theorem dc_find {P : Program} {w : World} {K : PySem.W.Frag} {es : Array DictEntry} {kvs : List (D × D)} {d : D} {k : Key} (hk : atomK d = some k) (t : DtEs w K G es.toList kvs) (ha : allAt kvs = true) :
    (match dfind kvs d with
    | some dv => ∃ u vv, findBy (mixKind P w).is es k = some u ∧ RelV vv u ∧ Dt w K G vv dv
    | none => findBy (mixKind P w).is es k = none) := by
  unfold findBy
  rw [← Array.find?_toList]
  exact es_find hk t ha
end

/-! ### in -/
def strIn (x y : Str) : Bool := match x.cps.toList with
  | [c] => decide (c ∈ y.cps.toList)
  | _ => !(Builtin.Str.occurrences y x 0 y.length 1).isEmpty
theorem strIn_eq (x y : Str) : (!(Builtin.Str.occurrences y x 0 y.length 1).isEmpty) = strIn x y := by
  unfold strIn
  split
  · rename_i c h
    have e : x = ⟨#[c]⟩ := by
      obtain ⟨l⟩ := x
      have : l = #[c] := by rw [← Array.toArray_toList (xs := l)]; exact congrArg List.toArray h
      rw [this]
    subst e
    exact PySem.StrLaws.found_one y c
  · rfl
def inB (x c : D) : R Bool := match c with
  | .list ds => if SeqAt.shaped x = true ∧ SeqAt.shaped (.list ds) = true then .ok (ds.any fun z => PyData.eqv z x) else stk
  | .tuple ds => if SeqAt.shaped x = true ∧ SeqAt.shaped (.tuple ds) = true then .ok (ds.any fun z => PyData.eqv z x) else stk
  | .str y => match x with
    | .str z => .ok (strIn z y)
    | _ => stk
  | .dict kvs => if allAt kvs = true ∧ (atomK x).isSome = true then .ok (dfind kvs x).isSome else stk
  | _ => stk
def inD (x c : D) : R D := inB x c >>= fun b => .ok (.bool b)
def ninD (x c : D) : R D := inB x c >>= fun b => .ok (.bool (!b))
section
variable {X : Cx}
theorem in_rule (hu : X.A.units + 65 < cLine) {pins : List (Addr × Obj)} {s : Shared} {σ : L2.St} {G H : Hp} {x y : V} {v u : Value} {da db : D} {q : Bool → Prop} {e : Nat → D → Prop} (I : Inv X pins σ H s) (rx : RelV x v) (ry : RelV y u) (sb : Sub G H) (t1 : Dt X.w X.K G x da) (t2 : Dt X.w X.K G y db) (h : gd (inB da db) q e) :
    ∃ b, q b ∧ (∀ (E : Value → Shared → Prop) (Q : Value → Shared → Prop), (∀ s', Inv X pins σ H s' → Q (.bool b) s') → wpAny (model X.prog X.w) X.A (compareOp .In v u) Q E s) ∧ ∀ (E : Value → Shared → Prop) (Q : Value → Shared → Prop), (∀ s', Inv X pins σ H s' → Q (.bool (!b)) s') → wpAny (model X.prog X.w) X.A (compareOp .NotIn v u) Q E s := by
  unfold inB at h
  split at h
  · split at h
    · rename_i hc
      obtain ⟨as, r1⟩ := Dp.reads I da x v (t1.dp sb (shaped_lay hc.1)) rx
      obtain ⟨bs, r2⟩ := Dp.reads I _ y u (t2.dp sb (shaped_lay hc.2)) ry
      exact ⟨_, h, fun E Q hq => SeqAt.in_list_reads r2 r1 (SeqAt.canLay_of_shaped hc.2) (SeqAt.canLay_of_shaped hc.1) (room_in_shaped hc.1 hu) (hq s I), fun E Q hq => SeqAt.notIn_list_reads r2 r1 (SeqAt.canLay_of_shaped hc.2) (SeqAt.canLay_of_shaped hc.1) (room_in_shaped hc.1 hu) (hq s I)⟩
    · exact h.elim
  · split at h
    · rename_i hc
      obtain ⟨as, r1⟩ := Dp.reads I da x v (t1.dp sb (shaped_lay hc.1)) rx
      obtain ⟨bs, r2⟩ := Dp.reads I _ y u (t2.dp sb (shaped_lay hc.2)) ry
      exact ⟨_, h, fun E Q hq => SeqAt.in_tuple_reads r2 r1 (SeqAt.canLay_of_shaped hc.2) (SeqAt.canLay_of_shaped hc.1) (room_in_shaped hc.1 hu) (hq s I), fun E Q hq => SeqAt.notIn_tuple_reads r2 r1 (SeqAt.canLay_of_shaped hc.2) (SeqAt.canLay_of_shaped hc.1) (room_in_shaped hc.1 hu) (hq s I)⟩
    · exact h.elim
  · split at h
    · cases t1
      cases t2
      obtain ⟨t, rfl⟩ := rx
      obtain ⟨t', rfl⟩ := ry
      refine ⟨_, h, fun E Q hq => PyProof.Rows.in_str ?_, fun E Q hq => PyProof.Rows.notIn_str ?_⟩
      · rw [strIn_eq]; exact hq s I
      · rw [strIn_eq]; exact hq s I
    · exact h.elim
  · rename_i kvs0
    split at h
    · rename_i hc
      obtain ⟨k, hk⟩ := Option.isSome_iff_exists.mp hc.2
      cases t2 with
      | scr _ _ => simp [allAt, atomK] at hc
      | dct s1 s2 s3 s4 s5 s6 =>
        rename_i a o es ep
        obtain rfl : u = Value.ref a := ry
        have m := dc_map I sb s1 s3 s4 s5 hc.1
        have f := dc_find (P := X.prog) hk s5 hc.1
        have e1 : (findBy (mixKind X.prog X.w).is es k).isSome = (dfind kvs0 da).isSome := by
          split at f
          · rename_i dv hf
            obtain ⟨u, vv, f1, _⟩ := f
            rw [f1, hf]
            rfl
          · rename_i hf
            rw [f, hf]
            rfl
        refine ⟨_, h, fun E Q hq => wpAny_in_of (atom_is rx t1 hk) s2 m ?_, fun E Q hq => wpAny_notIn_of (atom_is rx t1 hk) s2 m ?_⟩
        · rw [e1]; exact hq _ (I.tok _)
        · rw [e1]; exact hq _ (I.tok _)
    · exact h.elim
  · exact h.elim
theorem d_in (hu : X.A.units + 65 < cLine) : OpR X (compareOp .In) (r2 X.w X.K inD) := by
  intro pins s σ H x y v u Q I rx ry ⟨G, da, db, e, sb, t1, t2, q⟩
  obtain ⟨b, q, h1, _⟩ := in_rule hu I rx ry sb t1 t2 (gd_bind.mp q)
  exact h1 _ _ fun s' I' => ⟨.bl b, H, I', rfl, q _ G H (Gr.refl sb) (.bl b)⟩
theorem d_nin (hu : X.A.units + 65 < cLine) : OpR X (compareOp .NotIn) (r2 X.w X.K ninD) := by
  intro pins s σ H x y v u Q I rx ry ⟨G, da, db, e, sb, t1, t2, q⟩
  obtain ⟨b, q, _, h1⟩ := in_rule hu I rx ry sb t1 t2 (gd_bind.mp q)
  exact h1 _ _ fun s' I' => ⟨.bl (!b), H, I', rfl, q _ G H (Gr.refl sb) (.bl _)⟩

/-! ### subscripts -/
def opt {α : Type} : Option α → R α
  | some a => .ok a
  | none => stk
theorem opt_in {α : Type} {o : Option α} {q : α → Prop} {e : Nat → D → Prop} (h : gd (opt o) q e) : ∃ a, o = some a ∧ q a := by
  cases o with
  | none => exact h.elim
  | some a => exact ⟨a, rfl, h⟩
def ixD (c i : D) : R D := match c with
  | .dict [(.none, .list ds), (.none, .none)] => asI i >>= fun i => opt (atI ds i)
  | .list ds => asI i >>= fun i => opt (atI ds i)
  | .tuple ds => asI i >>= fun i => opt (atI ds i)
  | .str x => asI i >>= fun i => lenOk x.length >>= fun _ => opt (atI x.cps.toList i) >>= fun c => .ok (.str ⟨#[c]⟩)
  | .dict kvs => if allAt kvs = true ∧ (atomK i).isSome = true then opt (dfind kvs i) else stk
  | _ => stk
theorem atI_dt {w : World} {K : PySem.W.Frag} {G : Hp} {vs : List V} {ds : List D} {i : Int} {d : D} (t : DtAll w K G vs ds) (h : atI ds i = some d) : ∃ v, atI vs i = some v ∧ Dt w K G v d := by
  unfold atI at h ⊢
  rw [t.length]
  cases q : ixN ds.length i with
  | none => rw [q] at h; cases h
  | some j =>
    rw [q] at h
    exact t.get' h
theorem d_ix : IxR X (r2 X.w X.K ixD) := by
  intro value slice pins s σ H x y v u Q I rx ry ⟨G, da, db, e, sb, t1, t2, q⟩ hs
  unfold ixD at q
  split at q
  · obtain ⟨i, rfl, q⟩ := asI_in t2 (gd_bind.mp q)
    obtain ⟨d, ed, q⟩ := opt_in q
    cases t1 with
    | scr s1 a1 =>
      obtain ⟨z, ez, tz⟩ := atI_dt a1 ed
      exact ix_list value slice pins s σ H _ _ v u Q I rx ry ⟨_, _, i, z, rfl, rfl, SqL.sub sb s1, ez, q z G H (Gr.refl sb) tz⟩ hs
    | dct _ _ _ _ _ u => simp at u
  · obtain ⟨i, rfl, q⟩ := asI_in t2 (gd_bind.mp q)
    obtain ⟨d, ed, q⟩ := opt_in q
    cases t1 with
    | lst s1 a1 =>
      obtain ⟨z, ez, tz⟩ := atI_dt a1 ed
      exact ix_list value slice pins s σ H _ _ v u Q I rx ry ⟨_, _, i, z, rfl, rfl, Rd.sq (Rd.sub sb s1), ez, q z G H (Gr.refl sb) tz⟩ hs
  · obtain ⟨i, rfl, q⟩ := asI_in t2 (gd_bind.mp q)
    obtain ⟨d, ed, q⟩ := opt_in q
    cases t1 with
    | tup s1 a1 =>
      obtain ⟨z, ez, tz⟩ := atI_dt a1 ed
      exact ix_tup value slice pins s σ H _ _ v u Q I rx ry ⟨_, _, i, z, rfl, rfl, SqT.sub sb s1, ez, q z G H (Gr.refl sb) tz⟩ hs
  · obtain ⟨i, rfl, q⟩ := asI_in t2 (gd_bind.mp q)
    obtain ⟨hl, q⟩ := lenOk_in (gd_bind.mp q)
    obtain ⟨c, ec, q⟩ := opt_in (gd_bind.mp q)
    cases t1
    exact ix_str value slice pins s σ H _ _ v u Q I rx ry ⟨_, i, c, rfl, rfl, hl, ec, q _ G H (Gr.refl sb) (.str _)⟩ hs
  · split at q
    · rename_i hc
      obtain ⟨k, hk⟩ := Option.isSome_iff_exists.mp hc.2
      obtain ⟨d, ed, q⟩ := opt_in q
      cases t1 with
      | scr _ _ => simp [allAt, atomK] at hc
      | dct s1 s2 s3 s4 s5 s6 =>
        rename_i a o es ep
        obtain rfl : v = Value.ref a := rx
        have m := dc_map I sb s1 s3 s4 s5 hc.1
        have f := dc_find (P := X.prog) hk s5 hc.1
        rw [ed] at f
        obtain ⟨u0, vv, f1, f2, f3⟩ := f
        exact tail_any m.typeIs slot_dict_getitem.lookup (wpAny_getItem_of (atom_is ry t2 hk) m f1 ⟨vv, H, I.tok _, f2, q vv G H (Gr.refl sb) f3⟩) hs
    · exact q.elim
  · exact q.elim

/-! ### slices -/
def cutA {α : Type} (xs : List α) (lo hi : Option Int) : List α := (xs.drop (HT.sIx xs.length 0 lo)).take (HT.sIx xs.length xs.length hi - HT.sIx xs.length 0 lo)
theorem cutV_eq (xs : List V) (lo hi : Option Int) : cutV xs lo hi = cutA xs lo hi := rfl
theorem cut_dt {w : World} {K : PySem.W.Frag} {G : Hp} {vs : List V} {ds : List D} {lo hi : Option Int} (t : DtAll w K G vs ds) : DtAll w K G (cutV vs lo hi) (cutA ds lo hi) := by
  unfold cutV cutA
  rw [t.length]
  exact (t.drop _).take _
def slD (c : D) (lo hi : Option Int) : R D := match c with
  | .list ds => .ok (.list (cutA ds lo hi))
  | .str x => lenOk x.length >>= fun _ => .ok (.str (cutS x lo hi))
  | _ => stk
theorem d_sl : SlR X (rS X.w X.K slD) := by
  intro pins s σ H x v vl vu lo hi sl Q I rx hs pl pu ⟨G, da, e, sb, t, q⟩
  unfold slD at q
  split at q
  · cases t with
    | lst s1 a1 => exact sl_list pins s σ H _ v vl vu lo hi sl Q I rx hs pl pu ⟨_, _, rfl, Rd.sq (Rd.sub sb s1), fun p np => q _ _ _ (Gr.new sb np) (.lst (.inl upd_same) ((cut_dt a1).sub ((Gr.new sb np).up sb)))⟩
  · obtain ⟨hl, q⟩ := lenOk_in (gd_bind.mp q)
    cases t
    exact sl_str pins s σ H _ v vl vu lo hi sl Q I rx hs pl pu ⟨_, rfl, hl, q _ G H (Gr.refl sb) (.str _)⟩
  · exact q.elim

/-! ### built-ins -/
def lenD : List D → R D
  | [.dict [(.none, .list ds), (.none, .none)]] => .ok (.int ds.length)
  | [.list ds] => .ok (.int ds.length)
  | [.tuple ds] => .ok (.int ds.length)
  | [.str x] => lenOk x.length >>= fun _ => .ok (.int x.length)
  | _ => stk
theorem c_len : CallR X (.builtin "len") (rC X.w X.K lenD) := callr_imp ((call_len_seq).or call_len_str) fun xs H Q ⟨G, ds, e, sb, t, q⟩ => by
  unfold lenD at q
  split at q
  · cases t with
    | cons t1 t2 =>
      cases t2
      cases t1 with
      | scr s1 a1 => exact .inl ⟨_, _, rfl, .inl (SqL.sub sb s1), by rw [a1.length]; exact q _ G H (Gr.refl sb) (.int _)⟩
      | dct _ _ _ _ _ u => simp at u
  · cases t with
    | cons t1 t2 =>
      cases t2
      cases t1 with
      | lst s1 a1 => exact .inl ⟨_, _, rfl, .inl (Rd.sq (Rd.sub sb s1)), by rw [a1.length]; exact q _ G H (Gr.refl sb) (.int _)⟩
  · cases t with
    | cons t1 t2 =>
      cases t2
      cases t1 with
      | tup s1 a1 => exact .inl ⟨_, _, rfl, .inr (SqT.sub sb s1), by rw [a1.length]; exact q _ G H (Gr.refl sb) (.int _)⟩
  · obtain ⟨hl, q⟩ := lenOk_in (gd_bind.mp q)
    cases t with
    | cons t1 t2 =>
      cases t2
      cases t1
      exact .inr ⟨_, rfl, hl, q _ G H (Gr.refl sb) (.int _)⟩
  · exact q.elim
def absD : List D → R D
  | [.int i] => .ok (.int (if i < 0 then -i else i))
  | _ => stk
theorem c_abs : CallR X (.builtin "abs") (rC X.w X.K absD) := callr_imp call_abs fun xs H Q ⟨G, ds, e, sb, t, q⟩ => by
  unfold absD at q
  split at q
  · cases t with
    | cons t1 t2 =>
      cases t2
      cases t1
      exact ⟨_, rfl, q _ G H (Gr.refl sb) (.int _)⟩
  · exact q.elim
def intD : List D → R D
  | [.int i] => .ok (.int i)
  | [.bool b] => .ok (.int (if b then 1 else 0))
  | _ => stk
theorem c_int : CallR X (.type "int") (rC X.w X.K intD) := callr_imp call_int1 fun xs H Q ⟨G, ds, e, sb, t, q⟩ => by
  unfold intD at q
  split at q
  · cases t with
    | cons t1 t2 =>
      cases t2
      cases t1
      exact .inl ⟨_, rfl, q _ G H (Gr.refl sb) (.int _)⟩
  · cases t with
    | cons t1 t2 =>
      cases t2
      cases t1
      exact .inr ⟨_, rfl, q _ G H (Gr.refl sb) (.int _)⟩
  · exact q.elim
def ints? : List D → Option (List Int)
  | [] => some []
  | .int i :: r => (ints? r).map (i :: ·)
  | _ :: _ => none
theorem ints_dt {w : World} {K : PySem.W.Frag} {G : Hp} : ∀ {vs : List V} {ds : List D} {ns : List Int}, DtAll w K G vs ds → ints? ds = some ns → vs = ns.map V.int ∧ ds = ns.map .int
  | _, _, _, .nil, h => by cases h; exact ⟨rfl, rfl⟩
  | _, _, ns, .cons (d := d) t1 t2, h => by
    cases t1 with
    | int i =>
      simp only [ints?] at h
      obtain ⟨ms, h1, h2⟩ := Option.map_eq_some_iff.mp h
      subst h2
      obtain ⟨e1, e2⟩ := ints_dt t2 h1
      exact ⟨by rw [e1]; rfl, by rw [e2]; rfl⟩
    | non => cases h
    | bl _ => cases h
    | str _ => cases h
    | lst _ _ => cases h
    | tup _ _ => cases h
    | dct _ _ _ _ _ _ => cases h
    | scr _ _ => cases h
theorem ints_map : ∀ ns : List Int, ints? (ns.map .int) = some ns
  | [] => rfl
  | n :: ns => by rw [List.map_cons, ints?, ints_map ns]; rfl
def maxL : List Int → Int
  | [] => 0
  | x :: r => r.foldl max x
def minL : List Int → Int
  | [] => 0
  | x :: r => r.foldl min x
theorem foldl_max_le (r : List Int) : ∀ x : Int, x ≤ r.foldl max x ∧ (∀ y ∈ r, y ≤ r.foldl max x) ∧ (r.foldl max x = x ∨ r.foldl max x ∈ r) := by
  induction r with
  | nil => intro x; exact ⟨Int.le_refl _, (fun _ h => by cases h), .inl rfl⟩
  | cons a r ih =>
    intro x
    obtain ⟨h1, h2, h3⟩ := ih (max x a)
    rw [List.foldl_cons]
    refine ⟨by omega, fun y hy => ?_, ?_⟩
    · rcases List.mem_cons.mp hy with rfl | hy
      · omega
      · exact h2 y hy
    · rcases h3 with h3 | h3
      · rw [h3]
        by_cases h : x ≤ a
        · right; rw [Int.max_eq_right h]; exact List.mem_cons_self
        · left; omega
      · right; exact List.mem_cons_of_mem _ h3
theorem foldl_min_le (r : List Int) : ∀ x : Int, r.foldl min x ≤ x ∧ (∀ y ∈ r, r.foldl min x ≤ y) ∧ (r.foldl min x = x ∨ r.foldl min x ∈ r) := by
  induction r with
  | nil => intro x; exact ⟨Int.le_refl _, (fun _ h => by cases h), .inl rfl⟩
  | cons a r ih =>
    intro x
    obtain ⟨h1, h2, h3⟩ := ih (min x a)
    rw [List.foldl_cons]
    refine ⟨by omega, fun y hy => ?_, ?_⟩
    · rcases List.mem_cons.mp hy with rfl | hy
      · omega
      · exact h2 y hy
    · rcases h3 with h3 | h3
      · rw [h3]
        by_cases h : x ≤ a
        · left; omega
        · right; rw [Int.min_eq_right (by omega)]; exact List.mem_cons_self
      · right; exact List.mem_cons_of_mem _ h3
theorem maxL_is {ns : List Int} {m : Int} (h : m ∈ ns) (hm : ∀ y ∈ ns, y ≤ m) : m = maxL ns := by
  cases ns with
  | nil => cases h
  | cons x r =>
    obtain ⟨h1, h2, h3⟩ := foldl_max_le r x
    show m = r.foldl max x
    have a1 : m ≤ r.foldl max x := by
      rcases List.mem_cons.mp h with rfl | h
      · exact h1
      · exact h2 m h
    have a2 : r.foldl max x ≤ m := by
      rcases h3 with h3 | h3
      · rw [h3]; exact hm x List.mem_cons_self
      · exact hm _ (List.mem_cons_of_mem _ h3)
    omega
theorem minL_is {ns : List Int} {m : Int} (h : m ∈ ns) (hm : ∀ y ∈ ns, m ≤ y) : m = minL ns := by
  cases ns with
  | nil => cases h
  | cons x r =>
    obtain ⟨h1, h2, h3⟩ := foldl_min_le r x
    show m = r.foldl min x
    have a1 : r.foldl min x ≤ m := by
      rcases List.mem_cons.mp h with rfl | h
      · exact h1
      · exact h2 m h
    have a2 : m ≤ r.foldl min x := by
      rcases h3 with h3 | h3
      · rw [h3]; exact hm x List.mem_cons_self
      · exact hm _ (List.mem_cons_of_mem _ h3)
    omega
def maxD : List D → R D
  | [.list ds] => opt (ints? ds) >>= fun ns => if 0 < ns.length then .ok (.int (maxL ns)) else stk
  | _ => stk
def minD : List D → R D
  | [.list ds] => opt (ints? ds) >>= fun ns => if 0 < ns.length then .ok (.int (minL ns)) else stk
  | _ => stk
theorem c_max (hc : X.calm = true) : CallR X (.builtin "max") (rC X.w X.K maxD) := callr_imp (cr_max hc) fun xs H Q ⟨G, ds, e, sb, t, q⟩ => by
  unfold maxD at q
  split at q
  · cases t with
    | cons t1 t2 =>
      cases t2
      cases t1 with
      | lst s1 a1 =>
        obtain ⟨ns, en, q2⟩ := opt_in (gd_bind.mp q)
        obtain ⟨rfl, rfl⟩ := ints_dt a1 en
        split at q2
        · rename_i hp
          exact ⟨_, ns, rfl, Rd.sq (Rd.sub sb s1), hp, fun m hm hle => by rw [maxL_is hm hle]; exact q2 _ G H (Gr.refl sb) (.int _)⟩
        · exact q2.elim
  · exact q.elim
theorem c_min (hc : X.calm = true) : CallR X (.builtin "min") (rC X.w X.K minD) := callr_imp (cr_min hc) fun xs H Q ⟨G, ds, e, sb, t, q⟩ => by
  unfold minD at q
  split at q
  · cases t with
    | cons t1 t2 =>
      cases t2
      cases t1 with
      | lst s1 a1 =>
        obtain ⟨ns, en, q2⟩ := opt_in (gd_bind.mp q)
        obtain ⟨rfl, rfl⟩ := ints_dt a1 en
        split at q2
        · rename_i hp
          exact ⟨_, ns, rfl, Rd.sq (Rd.sub sb s1), hp, fun m hm hle => by rw [minL_is hm hle]; exact q2 _ G H (Gr.refl sb) (.int _)⟩
        · exact q2.elim
  · exact q.elim
def max2D : List D → R D
  | [.int i, .int j] => .ok (.int (if j > i then j else i))
  | _ => stk
def min2D : List D → R D
  | [.int i, .int j] => .ok (.int (if j < i then j else i))
  | _ => stk
theorem c_max2 (hc : X.calm = true) : CallR X (.builtin "max") (rC X.w X.K max2D) := callr_imp (call_max2 hc) fun xs H Q ⟨G, ds, e, sb, t, q⟩ => by
  unfold max2D at q
  split at q
  · cases t with
    | cons t1 t2 =>
      cases t2 with
      | cons t2 t3 =>
        cases t3
        cases t1
        cases t2
        exact ⟨_, _, rfl, q _ G H (Gr.refl sb) (.int _)⟩
  · exact q.elim
theorem c_min2 (hc : X.calm = true) : CallR X (.builtin "min") (rC X.w X.K min2D) := callr_imp (call_min2 hc) fun xs H Q ⟨G, ds, e, sb, t, q⟩ => by
  unfold min2D at q
  split at q
  · cases t with
    | cons t1 t2 =>
      cases t2 with
      | cons t2 t3 =>
        cases t3
        cases t1
        cases t2
        exact ⟨_, _, rfl, q _ G H (Gr.refl sb) (.int _)⟩
  · exact q.elim
def bls? : List D → Option (List Bool)
  | [] => some []
  | .bool i :: r => (bls? r).map (i :: ·)
  | _ :: _ => none
theorem bls_dt {w : World} {K : PySem.W.Frag} {G : Hp} : ∀ {vs : List V} {ds : List D} {ns : List Bool}, DtAll w K G vs ds → bls? ds = some ns → vs = ns.map V.bl ∧ ds = ns.map .bool
  | _, _, _, .nil, h => by cases h; exact ⟨rfl, rfl⟩
  | _, _, ns, .cons (d := d) t1 t2, h => by
    cases t1 with
    | bl i =>
      simp only [bls?] at h
      obtain ⟨ms, h1, h2⟩ := Option.map_eq_some_iff.mp h
      subst h2
      obtain ⟨e1, e2⟩ := bls_dt t2 h1
      exact ⟨by rw [e1]; rfl, by rw [e2]; rfl⟩
    | non => cases h
    | int _ => cases h
    | str _ => cases h
    | lst _ _ => cases h
    | tup _ _ => cases h
    | dct _ _ _ _ _ _ => cases h
    | scr _ _ => cases h
theorem bls_map : ∀ ns : List Bool, bls? (ns.map .bool) = some ns
  | [] => rfl
  | n :: ns => by rw [List.map_cons, bls?, bls_map ns]; rfl
def allD : List D → R D
  | [.list ds] => opt (bls? ds) >>= fun bs => .ok (.bool (bs.all id))
  | _ => stk
def anyD : List D → R D
  | [.list ds] => opt (bls? ds) >>= fun bs => .ok (.bool (bs.any id))
  | _ => stk
theorem c_all (hc : X.calm = true) : CallR X (.builtin "all") (rC X.w X.K allD) := callr_imp (cr_all hc) fun xs H Q ⟨G, ds, e, sb, t, q⟩ => by
  unfold allD at q
  split at q
  · cases t with
    | cons t1 t2 =>
      cases t2
      cases t1 with
      | lst s1 a1 =>
        obtain ⟨ns, en, q2⟩ := opt_in (gd_bind.mp q)
        obtain ⟨rfl, rfl⟩ := bls_dt a1 en
        exact ⟨_, ns, rfl, Rd.sq (Rd.sub sb s1), q2 _ G H (Gr.refl sb) (.bl _)⟩
  · exact q.elim
theorem c_any (hc : X.calm = true) : CallR X (.builtin "any") (rC X.w X.K anyD) := callr_imp (cr_any hc) fun xs H Q ⟨G, ds, e, sb, t, q⟩ => by
  unfold anyD at q
  split at q
  · cases t with
    | cons t1 t2 =>
      cases t2
      cases t1 with
      | lst s1 a1 =>
        obtain ⟨ns, en, q2⟩ := opt_in (gd_bind.mp q)
        obtain ⟨rfl, rfl⟩ := bls_dt a1 en
        exact ⟨_, ns, rfl, Rd.sq (Rd.sub sb s1), q2 _ G H (Gr.refl sb) (.bl _)⟩
  · exact q.elim
/-- list(x) of a list or a tuple, as one's own -/
def listD : List D → R D
  | [.list ds] => .ok (.list ds)
  | [.tuple ds] => .ok (.list ds)
  | _ => stk
theorem own_new {w : World} {K : PySem.W.Frag} {G H : Hp} {p : Addr} {vs : List V} {ds : List D} (sb : Sub G H) (np : H p = none) (t : DtAll w K G vs ds) : Gr G H G (upd H p (.lst vs)) ∧ G p = none ∧ Own w K G (upd H p (.lst vs)) p (.list ds) := by
  refine ⟨Gr.own sb np, ?_, .inl ⟨vs, ds, rfl, upd_same, t⟩⟩
  cases z : G p with
  | none => rfl
  | some o => rw [sb p o z] at np; cases np
theorem c_list : CallR X (.type "list") (rCo X.w X.K listD) := callr_imp call_list_of fun xs H Q ⟨G, ds, e, sb, t, q⟩ => by
  unfold listD at q
  split at q
  · cases t with
    | cons t1 t2 =>
      cases t2
      cases t1 with
      | lst s1 a1 => exact ⟨_, _, rfl, .inl (Rd.sq (Rd.sub sb s1)), fun p np => let ⟨g, n, o⟩ := own_new sb np a1; q p _ _ g np n o⟩
  · cases t with
    | cons t1 t2 =>
      cases t2
      cases t1 with
      | tup s1 a1 => exact ⟨_, _, rfl, .inr (SqT.sub sb s1), fun p np => let ⟨g, n, o⟩ := own_new sb np a1; q p _ _ g np n o⟩
  · exact q.elim
section
variable {e : Nat → D → Prop}
def asStr : D → R Str
  | .str z => .ok z
  | _ => stk
theorem asStr_in {w : World} {K : PySem.W.Frag} {d : D} {v : V} {G : Hp} {q : Str → Prop} (t : Dt w K G v d) (h : gd (asStr d) q e) : ∃ z, d = .str z ∧ v = .str z ∧ q z := by
  cases t with
  | str z => exact ⟨z, rfl, rfl, h⟩
  | non => exact h.elim
  | bl _ => exact h.elim
  | int _ => exact h.elim
  | lst _ _ => exact h.elim
  | tup _ _ => exact h.elim
  | dct _ _ _ _ _ _ => exact h.elim
  | scr _ _ => exact h.elim
end
/-! ### join -/
def strs? : List D → Option (List Str)
  | [] => some []
  | .str i :: r => (strs? r).map (i :: ·)
  | _ :: _ => none
theorem strs_dt {w : World} {K : PySem.W.Frag} {G : Hp} : ∀ {vs : List V} {ds : List D} {ns : List Str}, DtAll w K G vs ds → strs? ds = some ns → vs = ns.map V.str ∧ ds = ns.map .str
  | _, _, _, .nil, h => by cases h; exact ⟨rfl, rfl⟩
  | _, _, ns, .cons (d := d) t1 t2, h => by
    cases t1 with
    | str i =>
      simp only [strs?] at h
      obtain ⟨ms, h1, h2⟩ := Option.map_eq_some_iff.mp h
      subst h2
      obtain ⟨e1, e2⟩ := strs_dt t2 h1
      exact ⟨by rw [e1]; rfl, by rw [e2]; rfl⟩
    | non => cases h
    | bl _ => cases h
    | int _ => cases h
    | lst _ _ => cases h
    | tup _ _ => cases h
    | dct _ _ _ _ _ _ => cases h
    | scr _ _ => cases h
theorem strs_map : ∀ ns : List Str, strs? (ns.map .str) = some ns
  | [] => rfl
  | n :: ns => by rw [List.map_cons, strs?, strs_map ns]; rfl
def joinD (s l : D) : R D := match s, l with
  | .str a, .list ds => opt (strs? ds) >>= fun ys => if (ys.map (·.length)).sum + ys.length * a.length ≤ 16777216 then .ok (.str (Str.join a ys)) else stk
  | _, _ => stk
theorem v_join {o a : Expr} {apos pos : Pos} {e : Nat → D → Prop} {O : List Nat} {fo fa : Env' → R D} (ho : PE X o (tV X.w X.K e O fo)) (ha : PE X a (tV X.w X.K e O fa)) (hs : starEach [a] X.env = [(false, eval a X.env)] := by rfl) (hbase : attributeBase o "join" X.env (eval o X.env) = eval o X.env := by rfl) (hline : (apos.endLine == pos.line) = true := by rfl) :
    PE X (.Call (.Attribute o "join" apos) [a] [] pos) (tV X.w X.K e O fun ρ => fo ρ >>= fun x => asStr x >>= fun _ => fa ρ >>= fun y => joinD x y) := by
  refine pe_imp (pe_join ho ha hs hbase hline) fun σ H Q ⟨B, ρ, G, r, q⟩ => ⟨B, ρ, G, r, gd_mono (gd_bind.mp q) fun d q v G1 H1 g1 t1 => ?_⟩
  obtain ⟨z, rfl, rfl, q⟩ := asStr_in t1 (gd_bind.mp q)
  refine ⟨⟨z, rfl⟩, B, ρ, G1, r.grow g1, gd_mono (gd_bind.mp q) fun d2 q u G2 H2 g2 t2 => ?_⟩
  unfold joinD at q
  split at q
  · rename_i hz
    cases hz
    cases t2 with
    | lst s1 a1 =>
      obtain ⟨ys, ey, q2⟩ := opt_in (gd_bind.mp q)
      obtain ⟨rfl, rfl⟩ := strs_dt a1 ey
      split at q2
      · rename_i hp
        refine ⟨_, _, ys, rfl, rfl, .inl (Rd.sq (Rd.sub g2.sub s1)), hp, ?_⟩
        rw [TL.join_eq]
        exact q2 _ G2 H2 (g1.trans g2) (.str _)
      · exact q2.elim
  · exact q.elim
end
end Vs

set_option Elab.async false
set_option linter.all false
set_option maxRecDepth 100000
/-! More rules on data: stars, counts, places, sums, order, comprehensions stored. -/
namespace Vs
open PySem PySem.Spec PyProof.Rows L2

theorem hu64 {k : Nat} {A : Around} (hr : Room k A) : A.units + 64 < cLine := by have := hr.un; omega
theorem hu65 {k : Nat} {A : Around} (hr : Room k A) : A.units + 65 < cLine := by have := hr.un; omega
theorem wish0 {w : World} {K : PySem.W.Frag} {cl : Nat → Addr} {E : XK} : Wish noE w K cl E := fun _ _ h => h.elim
/-- turns that a while may take -/
def FU : Nat := 1000000

section
variable {X : Cx} {a b : Expr} {es : List Expr} {pos p apos cpos : Pos} {e : Nat → D → Prop} {O O' vs ws : List Nat} {fr : Bool} {fa fb : Env' → R D} {fs : Env' → R (List D)}

/-! ### - -/
theorem v_negc {i : Int} {j p1} : PE X (.UnaryOp .USub (.Constant (.int i) j p1) pos) (tV X.w X.K e O fun _ => .ok (.int (-i))) :=
  pe_imp (pe_un un_neg pe_int) fun σ H Q ⟨B, ρ, G, r, q⟩ => ⟨i, rfl, q _ G H r.here (.int _)⟩
def negD (d : D) : R D := asI d >>= fun i => .ok (.int (-i))
theorem v_neg (h : PE X a (tV X.w X.K e O fa)) : PE X (.UnaryOp .USub a pos) (tV X.w X.K e O fun ρ => fa ρ >>= fun x => negD x) :=
  pe_imp (pe_un un_neg h) fun σ H Q ⟨B, ρ, G, r, q⟩ => ⟨B, ρ, G, r, gd_mono (gd_bind.mp q) fun d q v G1 H1 g1 t => by
    obtain ⟨i, rfl, q⟩ := asI_in t (gd_bind.mp q)
    exact ⟨i, rfl, q _ G1 H1 g1 (.int _)⟩⟩

/-! ### order (whole numbers) -/
def ltD : D → D → R D := cmpI fun i j => decide (i < j)
def leD : D → D → R D := cmpI fun i j => decide (i ≤ j)
def gtD : D → D → R D := cmpI fun i j => decide (j < i)
def geD : D → D → R D := cmpI fun i j => decide (j ≤ i)
theorem d_lt : OpR X (compareOp .Lt) (r2 X.w X.K ltD) := d_ltI
theorem d_le : OpR X (compareOp .LtE) (r2 X.w X.K leD) := d_leI
theorem d_gt : OpR X (compareOp .Gt) (r2 X.w X.K gtD) := d_gtI
theorem d_ge : OpR X (compareOp .GtE) (r2 X.w X.K geD) := d_geI

/-! ### is True -/
def asBB (a b : D) (g : Bool → Bool → Bool) : R D := match a, b with
  | .bool x, .bool y => .ok (.bool (g x y))
  | _, _ => stk
def isBD (a b : D) : R D := asBB a b fun x y => decide (x = y)
def notBD (a b : D) : R D := asBB a b fun x y => !decide (x = y)
theorem d_isb : OpR X (compareOp .Is) (r2 X.w X.K isBD) := opr_imp op_isBl fun x y H Q ⟨G, da, db, e, sb, t1, t2, q⟩ => by
  unfold isBD asBB at q
  split at q
  · cases t1; cases t2
    exact ⟨_, _, rfl, rfl, q _ G H (Gr.refl sb) (.bl _)⟩
  · exact q.elim
theorem d_isnb : OpR X (compareOp .IsNot) (r2 X.w X.K notBD) := opr_imp op_notBl fun x y H Q ⟨G, da, db, e, sb, t1, t2, q⟩ => by
  unfold notBD asBB at q
  split at q
  · cases t1; cases t2
    exact ⟨_, _, rfl, rfl, q _ G H (Gr.refl sb) (.bl _)⟩
  · exact q.elim

/-! ### stars -/
def seqOf : D → R (List D)
  | .list ds => .ok ds
  | .tuple ds => .ok ds
  | _ => stk
theorem a_star {p1 : Pos} (ha : PE X a (tV X.w X.K e O fa)) (hs : PA X es (tA X.w X.K e O fs)) (h : starEach (.Starred a p1 :: es) X.env = (true, eval a X.env) :: starEach es X.env := by rfl) :
    PA X (.Starred a p1 :: es) (tA X.w X.K e O fun ρ => fa ρ >>= fun x => seqOf x >>= fun zs => fs ρ >>= fun xs => .ok (zs ++ xs)) := by
  refine pa_imp (StX.pa_star ha hs h) fun σ H Q ⟨B, ρ, G, r, q⟩ => ⟨B, ρ, G, r, gd_mono (gd_bind.mp q) fun x q v G1 H1 g1 t1 => ?_⟩
  have key : ∀ (A : Addr) (us : List V) (zs : List D), v = .ref A → (SqT X.K H1 A us ∨ SqL X.K H1 A us) → DtAll X.w X.K G1 us zs → gd (fs ρ >>= fun xs => .ok (zs ++ xs)) (fun ds => ∀ vs G' H', Gr G H G' H' → DtAll X.w X.K G' vs ds → Q vs H') e →
      ∃ a xs, v = .ref a ∧ (SqT X.K H1 a xs ∨ SqL X.K H1 a xs) ∧ tA X.w X.K e O fs σ H1 fun vs H2 => Q (xs ++ vs) H2 := fun A us zs e1 h1 h2 q =>
    ⟨A, us, e1, h1, B, ρ, G1, r.grow g1, gd_mono (gd_bind.mp q) fun xs q vs G2 H2 g2 t2 => q _ G2 H2 (g1.trans g2) ((h2.sub (g2.up g1.sub)).append t2)⟩
  unfold seqOf at q
  split at q
  · cases t1 with
    | lst s1 a1 => exact key _ _ _ rfl (.inr (Rd.sq (Rd.sub g1.sub s1))) a1 q
  · cases t1 with
    | tup s1 a1 => exact key _ _ _ rfl (.inl (SqT.sub g1.sub s1)) a1 q
  · exact q.elim

/-! ### texts: count -/
def countD (x y : D) : R D := asStr x >>= fun a => asStr y >>= fun b => .ok (.int (Txt.count a b))
theorem v_count (ho : PE X a (tV X.w X.K e O fa)) (hb : PE X b (tV X.w X.K e O fb)) (hs : starEach [b] X.env = [(false, eval b X.env)] := by rfl) (hbase : attributeBase a "count" X.env (eval a X.env) = eval a X.env := by rfl) (hline : (apos.endLine == pos.line) = true := by rfl) :
    PE X (.Call (.Attribute a "count" apos) [b] [] pos) (tV X.w X.K e O fun ρ => fa ρ >>= fun x => asStr x >>= fun _ => fb ρ >>= fun y => countD x y) := by
  refine pe_imp (pe_m1 PySem.F.slot_str_count PySem.F.type_str_count mt_count ho hb hs hbase hline) fun σ H Q ⟨B, ρ, G, r, q⟩ => ⟨B, ρ, G, r, gd_mono (gd_bind.mp q) fun d q v G1 H1 g1 t1 => ?_⟩
  obtain ⟨z, rfl, rfl, q⟩ := asStr_in t1 (gd_bind.mp q)
  refine ⟨⟨z, rfl⟩, B, ρ, G1, r.grow g1, gd_mono (gd_bind.mp q) fun d2 q u G2 H2 g2 t2 => ?_⟩
  unfold countD at q
  obtain ⟨z1, e1, _, q⟩ := asStr_in t1 (gd_bind.mp q)
  cases e1
  obtain ⟨y, rfl, rfl, q⟩ := asStr_in t2 (gd_bind.mp q)
  exact ⟨_, _, rfl, rfl, q _ G2 H2 (g1.trans g2) (.int _)⟩

/-! ### lists: the place of an item -/
def indexD (l d : D) : R D := itL l >>= fun ds => if SeqAt.shaped (.list ds) = true ∧ SeqAt.shaped d = true then opt (ds.findIdx? fun z => PyData.eqv z d) >>= fun j => .ok (.int (j : Nat)) else stk
theorem v_index (hu : X.A.units + 65 < cLine) (ho : PE X a (tV X.w X.K e O fa)) (hb : PE X b (tV X.w X.K e O fb))
    (hbase : attributeBase a "index" X.env (eval a X.env) = eval a X.env := by rfl)
    (hfew : ((backTo cpos (starEach [b] X.env)).all (fun x => !x.1) && (backToKw cpos (keywordEach [] X.env)).all (fun x => x.1.isSome) && decide ([b].length + ([] : List Keyword).length + (if ([] : List Keyword).isEmpty then 0 else 1) < 30)) = true := by rfl)
    (hline : (apos.endLine == cpos.line) = true := by rfl) (hst : starEach [b] X.env = (false, eval b X.env) :: starEach [] X.env := by rfl) (hpl : (backTo cpos (starEach [] X.env)).any (·.1) = false := by rfl) :
    PE X (.Call (.Attribute a "index" apos) [b] [] cpos) (tV X.w X.K e O fun ρ => fa ρ >>= fun x => itL x >>= fun _ => fb ρ >>= fun y => indexD x y) := by
  refine pe_imp (pe_bm PySem.F.plainAttrs_list PySem.F.slot_list_index PySem.F.type_list_index (mt_indexD hu) ho (pa_cons hb pa_nil hst) hbase hfew hline hst hpl) fun σ H Q ⟨B, ρ, G, r, q⟩ => ⟨B, ρ, G, r, gd_mono (gd_bind.mp q) fun d q v G1 H1 g1 t1 => ?_⟩
  cases t1 with
  | lst s1 a1 =>
    rename_i A xs ds
    refine ⟨.inl ⟨rfl, xs, Rd.sq (Rd.sub g1.sub s1)⟩, B, ρ, G1, r.grow g1, gd_mono (gd_bind.mp q) fun d2 q u G2 H2 g2 t2 => ?_⟩
    have q : gd (if SeqAt.shaped (.list ds) = true ∧ SeqAt.shaped d2 = true then opt (ds.findIdx? fun z => PyData.eqv z d2) >>= fun j => .ok (.int (j : Nat)) else stk) (fun d => ∀ v G' H', Gr G H G' H' → Dt X.w X.K G' v d → Q v H') e := q
    split at q
    · rename_i hc
      obtain ⟨j, ej, q⟩ := opt_in (gd_bind.mp q)
      obtain ⟨hj, h1, h2⟩ := List.findIdx?_eq_some_iff_getElem.mp ej
      have tl : Dt X.w X.K G2 (.ref A) (.list ds) := .lst (Rd.sub (g2.up g1.sub) s1) (a1.sub (g2.up g1.sub))
      exact ⟨A, u, d2, ds, j, ds[j], rfl, rfl, tl.dp g2.sub (shaped_lay hc.1), t2.dp g2.sub (shaped_lay hc.2), hc.1, hc.2, List.getElem?_eq_getElem hj, h1, fun m z hm hz => by
        obtain ⟨hm2, ez⟩ := List.getElem?_eq_some_iff.mp hz
        have := h2 m hm
        rw [ez] at this
        simpa using this, q _ G2 H2 (g1.trans g2) (.int _)⟩
    · exact q.elim
  | non => exact q.elim
  | bl _ => exact q.elim
  | int _ => exact q.elim
  | str _ => exact q.elim
  | tup _ _ => exact q.elim
  | dct _ _ _ _ _ _ => exact q.elim
  | scr _ _ => exact q.elim

/-! ### sums -/
def sumD : List D → R D
  | [.list ds] => opt (ints? ds) >>= fun ns => .ok (.int ns.sum)
  | _ => stk
theorem c_sum (hc : X.calm = true) : CallR X (.builtin "sum") (rC X.w X.K sumD) := callr_imp (cr_sum hc) fun xs H Q ⟨G, ds, e, sb, t, q⟩ => by
  unfold sumD at q
  split at q
  · cases t with
    | cons t1 t2 =>
      cases t2
      cases t1 with
      | lst s1 a1 =>
        obtain ⟨ns, en, q2⟩ := opt_in (gd_bind.mp q)
        obtain ⟨rfl, rfl⟩ := ints_dt a1 en
        exact ⟨_, ns, rfl, Rd.sq (Rd.sub sb s1), q2 _ G H (Gr.refl sb) (.int _)⟩
  · exact q.elim

/-! ### a slot of one's own: its item -/
theorem v_ixo (i : Nat) {x : Str} (hb : PE X b (tV X.w X.K e O fb)) (hi : i ∈ O := by decide) (hN : X.N[i]? = some x := by rfl) (hv : Vis X.env.scope x := by first | exact Or.inl rfl | exact Or.inr (Or.inl rfl) | exact Or.inr (Or.inr rfl)) (hd : (x == ("__debug__" : Str)) = false := by decide)
    (hc : (x == ("__classdict__" : Str)) = false := by decide) (hs : PlainIx b := by exact fun _ _ => rfl) :
    PE X (.Subscript (.Name x p) b pos) (tV X.w X.K e O fun ρ => gl ρ i >>= fun ds => fb ρ >>= fun y => asI y >>= fun j => opt (atI ds j)) := by
  refine pe_imp (pe_ix ix_list (pv i hN hv hd hc) hb hs) fun σ H Q ⟨B, ρ, G, r, q⟩ => ?_
  obtain ⟨ds, e0, q⟩ := gl_in (gd_bind.mp q)
  obtain ⟨A, s0, o, n1, n2⟩ := r.own i _ e0 hi
  rcases o with ⟨us, ds', ed, hA, tA⟩ | ⟨_, _, _, _, ed, _⟩
  · cases ed
    refine ⟨.ref A, s0, B, ρ, G, r, gd_mono (gd_bind.mp q) fun d q v G1 H1 g1 t => ?_⟩
    obtain ⟨j, rfl, q⟩ := asI_in t (gd_bind.mp q)
    obtain ⟨y, ey, q⟩ := opt_in q
    obtain ⟨z, ez, tz⟩ := atI_dt tA ey
    exact ⟨A, us, j, z, rfl, rfl, .inl (.inl (g1.keep A _ hA)), ez, q z G1 H1 g1 (tz.sub (g1.up r.sub))⟩
  · cases ed

/-! ### x = [..] on one line, frozen -/
section
variable {elt tgt iter : Expr} {ifs : List Expr} {scope : Scope} {fi : Env' → R (List D)} {tg : D → Env' → R Env'} {ft : Env' → R Bool} {fe : Env' → R D}
theorem s_lcV (i : Nat) (own : List (Str × Nat)) {y : Str} {py spos : Pos} (hc : X.calm = true) (hN : X.N.Nodup) (hi : PI X tgt iter (iV X.w X.K e O fi)) (ok : BlkOk X.N X.env.scope scope own) (hg : Blk X scope fun Y => PG Y tgt (gT Y.w Y.K noE O ws tg)) (ht : Blk X scope fun Y => PTs Y ifs (tW Y.w Y.K noE O ft)) (he : Blk X scope fun Y => PE Y elt (tV Y.w Y.K noE O fe))
    (h1 : ∀ j ∈ O', j ∈ O ∧ j ≠ i := by decide) (h2 : ∀ j ∈ O, j = i ∨ j ∈ O' := by decide) (hy : X.N[i]? = some y := by rfl) (hyl : X.env.scope.names.lookup y = some .local := by rfl) (hv : ∀ j ∈ ws, j ∈ own.map (·.2) := by decide) (hs : ∀ x, foldedSetIterable iter X.env x = pure x := by intro _; rfl)
    (hsw : swapsWith (.ListComp elt [⟨tgt, iter, ifs, 0⟩] scope pos) (some (.Name y py)) spos.line X.env = pure true := by exact sw_true rfl rfl rfl (by decide +kernel)) :
    PS X (.Assign [.Name y py] (.ListComp elt [⟨tgt, iter, ifs, 0⟩] scope pos) spos) (sV X.w X.K e O O' fr fun ρ => compD (own.map (·.2)) fi tg ft fe ρ >>= fun d => setD i d ρ) := by
  refine ps_imp (ps_setLc (g := gT X.w X.K noE O ws tg) (tt := tW X.w X.K noE O ft) (te := tV X.w X.K noE O fe) hc hN hy hyl hsw hi ok hg ht he hs) fun Dn σ H ⟨B, ρ, G, r, q⟩ => ?_
  refine lc_in (e := e) hv ⟨B, ρ, G, r, gd_mono (gd_bind.mp q) fun d q p G1 H1 g1 n1 n2 o => ?_⟩
  obtain ⟨u, hu⟩ := o.there
  have g2 := g1.frz n1 hu
  exact q _ _ H1 (g2.up r.sub) ((r.grow g2).put (o.dt n2 hu) h1 h2)
end
end
end Vs

set_option Elab.async false
set_option linter.all false
set_option maxRecDepth 100000
namespace Vs
open PySem PySem.Spec PyProof.Rows L2

/-! ### constants of the module -/
section
variable {w : World} {K : PySem.W.Frag} {mg : Str → Option Value} {x : Str}
theorem Kon.int {i : Int} {t : Tok} (m : mg x = some (.int i t)) : Kon w K mg x (.int i) := ⟨.int i, _, m, ⟨t, rfl⟩, fun _ => .int i⟩
theorem Kon.str {z : Str} {t : Tok} (m : mg x = some (.str z t)) : Kon w K mg x (.str z) := ⟨.str z, _, m, ⟨t, rfl⟩, fun _ => .str z⟩
end

section
variable {w : World} {K : PySem.W.Frag} {mg : Str → Option Value} {x : Str}
theorem Kon.stx {z : Str} {t : Tok} {l : List Nat} (m : mg x = some (.str z t)) (h : z = tx l := by decide +kernel) : Kon w K mg x (.str (tx l)) := by subst h; exact Kon.str m
end
theorem v_stx {X : Cx} {e : Nat → D → Prop} {O : List Nat} {i : Str} {j p} (l : List Nat) (h : i = tx l := by decide +kernel) : PE X (.Constant (.str i) j p) (tV X.w X.K e O fun _ => .ok (.str (tx l))) := by subst h; exact v_str
/-! ### the script -/
theorem sp_law {w : World} {K : PySem.W.Frag} {cl : Nat → Addr} {H : Hp} {a : Addr} {ns : List Int} {f : List D → R D} (hS : SqL K H a (ns.map V.int)) (hf : f [.dict [(.none, .list (ns.map .int)), (.none, .none)]] = .ok (.bool true)) :
    spD w K cl 1 false f [.ref a] H (fun v _ => v = .bl true) fun _ _ _ => False := by
  have hd : ∀ ns : List Int, DtAll w K H (ns.map V.int) (ns.map .int) := fun ns => by
    induction ns with
    | nil => exact .nil
    | cons i ns ih => exact .cons (.int i) ih
  refine ⟨_, H, Sub.refl H, .one (.scr hS (hd ns)), ?_⟩
  unfold fnD
  rw [List.length_singleton, if_pos rfl, hf]
  intro v G' H' b
  cases b.2
  rfl

/-! ### x = [.. for .. for ..] on one line -/
section
variable {X : Cx} {e : Nat → D → Prop} {O O' ws ws1 : List Nat} {fr : Bool} {elt tgt iter tgt1 iter1 : Expr} {ifs ifs1 : List Expr} {scope : Scope} {pos : Pos} {fi fi1 : Env' → R (List D)} {tg tg1 : D → Env' → R Env'} {ft ft1 : Env' → R Bool} {fe : Env' → R D}
theorem s_lc2 (i : Nat) (own : List (Str × Nat)) (vs1 : List Nat) {y : Str} {py spos : Pos} (hc : X.calm = true) (hN : X.N.Nodup) (hi : PI X tgt iter (iV X.w X.K e O fi)) (ok : BlkOk X.N X.env.scope scope own) (hg : Blk X scope fun Y => PG Y tgt (gT Y.w Y.K noE O ws tg)) (ht : Blk X scope fun Y => PTs Y ifs (tW Y.w Y.K noE O ft))
    (hi1 : Blk X scope fun Y => PI Y tgt1 iter1 (iV Y.w Y.K noE O fi1)) (hg1 : Blk X scope fun Y => PG Y tgt1 (gT Y.w Y.K noE O ws1 tg1)) (ht1 : Blk X scope fun Y => PTs Y ifs1 (tW Y.w Y.K noE O ft1)) (he : Blk X scope fun Y => PE Y elt (tV Y.w Y.K noE O fe))
    (h1 : ∀ j ∈ O', j ∈ O ∧ j ≠ i := by decide) (h2 : ∀ j ∈ O, j = i ∨ j ∈ O' := by decide) (hy : X.N[i]? = some y := by rfl) (hyl : X.env.scope.names.lookup y = some .local := by rfl)
    (hvo : ∀ i ∈ vs1, i ∈ own.map (·.2) := by decide) (hv : ∀ j ∈ ws, j ∈ own.map (·.2) := by decide) (hv1 : ∀ j ∈ ws1, j ∈ vs1 := by decide) (hs : ∀ x, foldedSetIterable iter X.env x = pure x := by intro _; rfl) (hs1 : ∀ env x, foldedSetIterable iter1 env x = pure x := by intro _ _; rfl)
    (hsw : swapsWith (.ListComp elt [⟨tgt, iter, ifs, 0⟩, ⟨tgt1, iter1, ifs1, 0⟩] scope pos) (some (.Name y py)) spos.line X.env = pure true := by exact sw_true rfl rfl rfl (by decide +kernel)) :
    PS X (.Assign [.Name y py] (.ListComp elt [⟨tgt, iter, ifs, 0⟩, ⟨tgt1, iter1, ifs1, 0⟩] scope pos) spos) (sV X.w X.K e O O' fr fun ρ => compD2 (own.map (·.2)) vs1 fi tg ft fi1 tg1 ft1 fe ρ >>= fun d => setD i d ρ) := by
  refine ps_imp (ps_setLc2 (g := gT X.w X.K noE O ws tg) (tt := tW X.w X.K noE O ft) (wi1 := iV X.w X.K noE O fi1) (g1 := gT X.w X.K noE O ws1 tg1) (tt1 := tW X.w X.K noE O ft1) (te := tV X.w X.K noE O fe) hc hN hy hyl hsw hi ok hvo hg ht hi1 hg1 ht1 he hs hs1) fun Dn σ H ⟨B, ρ, G, r, q⟩ => ?_
  refine lc2_in (e := e) hv hv1 ⟨B, ρ, G, r, gd_mono (gd_bind.mp q) fun d q p G1 H1 g1 n1 n2 o => ?_⟩
  obtain ⟨u, hu⟩ := o.there
  have g2 := g1.frz n1 hu
  exact q _ _ H1 (g2.up r.sub) ((r.grow g2).put (o.dt n2 hu) h1 h2)
end
end Vs

set_option Elab.async false
set_option linter.all false
set_option maxRecDepth 100000
/-! sorted, on data that are alike. -/
namespace Vs
open PySem PySem.Spec PyProof.Rows L2
open PySem.W (EachIs AllAlike Sortable alike dataLe dataLt)

/-! ### the order, and sorting by inserting -/
def insD (x : D) : List D → List D
  | [] => [x]
  | y :: r => if dle x y then x :: y :: r else y :: insD x r
where dle (a b : D) : Bool := !dataLt b a
def isort : List D → List D
  | [] => []
  | x :: r => insD x (isort r)
theorem ins_len (x : D) : ∀ l : List D, (insD x l).length = l.length + 1
  | [] => rfl
  | y :: r => by
    show (if insD.dle x y then _ else _ : List D).length = _
    split
    · rfl
    · rw [List.length_cons, ins_len x r, List.length_cons]
theorem isort_len : ∀ l : List D, (isort l).length = l.length
  | [] => rfl
  | x :: r => by
    show (insD x (isort r)).length = _
    rw [ins_len, isort_len r, List.length_cons]
theorem le_is : dataLe false (fun d : D => d) = insD.dle := PySem.W.dataLe_eq false _
theorem le_tot : PySem.W.TotalLe insD.dle := by
  rw [← le_is]
  exact PySem.W.sortLe_total _ _ _
theorem ins_at {x : D} : ∀ {l r : List D}, (∀ b ∈ l, (!insD.dle x b) = true) → (∀ b ∈ r, insD.dle x b = true) → insD x (l ++ r) = l ++ x :: r
  | [], [], _, _ => rfl
  | [], y :: r, _, h => by
    show (if insD.dle x y then _ else _) = _
    rw [if_pos (h y List.mem_cons_self)]
    rfl
  | y :: l, r, h1, h2 => by
    have e := h1 y List.mem_cons_self
    rw [Bool.not_eq_true'] at e
    show (if insD.dle x y then _ else _) = _
    rw [e, if_neg Bool.false_ne_true]
    exact congrArg (y :: ·) (ins_at (fun b hb => h1 b (List.mem_cons_of_mem _ hb)) h2)
theorem isort_is : ∀ l : List D, l.mergeSort insD.dle = isort l
  | [] => by rw [List.mergeSort_nil]; rfl
  | x :: l => by
    have tr : ∀ a b c : D, insD.dle a b = true → insD.dle b c = true → insD.dle a c = true := le_tot.trans
    have to : ∀ a b : D, (insD.dle a b || insD.dle b a) = true := fun a b => by
      rcases le_tot.total a b with h | h <;> simp [h]
    obtain ⟨l1, l2, e1, e2, h⟩ := List.mergeSort_cons (le := insD.dle) tr to x l
    have p := List.pairwise_mergeSort (le := insD.dle) tr to (x :: l)
    rw [e1] at p ⊢
    show l1 ++ x :: l2 = insD x (isort l)
    rw [← isort_is l, e2]
    exact (ins_at h fun b hb => (List.pairwise_cons.mp (List.pairwise_append.mp p).2.1).1 b hb).symm
/-- what sorted may be asked -/
def srtOk (ds : List D) : Bool := ds.all (fun d => d.canLay0 && decide (d.depth ≤ 60) && ds.all fun d' => alike d d') && (ds.all (fun d => match d with | .tuple (_ :: _) => true | _ => false) || ds.all fun d => match d with | .none => false | .tuple _ => false | _ => true)
theorem srtOk_is {ds : List D} (h : srtOk ds = true) : (∀ d ∈ ds, d.canLay0 = true ∧ d.depth ≤ 60) ∧ AllAlike ds ∧ Sortable ds := by
  unfold srtOk at h
  rw [Bool.and_eq_true, Bool.or_eq_true, List.all_eq_true, List.all_eq_true, List.all_eq_true] at h
  obtain ⟨h1, h2⟩ := h
  refine ⟨fun d hd => ?_, fun d hd d' hd' => ?_, ?_⟩
  · have := h1 d hd
    rw [Bool.and_eq_true, Bool.and_eq_true] at this
    exact ⟨this.1.1, of_decide_eq_true this.1.2⟩
  · have := h1 d hd
    rw [Bool.and_eq_true, List.all_eq_true] at this
    exact this.2 d' hd'
  · rcases h2 with h2 | h2
    · refine .inl fun d hd => ?_
      have := h2 d hd
      split at this
      · exact ⟨_, _, rfl⟩
      · cases this
    · refine .inr fun d hd => ?_
      have := h2 d hd
      split at this
      · cases this
      · cases this
      · rename_i n1 n2
        exact ⟨n1, n2⟩

/-! ### sorted of what collects -/
section
variable {prog : Program} {w : World} {A : Around} {E : Value → Shared → Prop} {s : Shared}
theorem sorted_from {x : Value} {ds : List D} {R : Value → D → Prop} {Q : Value → Shared → Prop} (hL : ds.length ≤ sizeLine)
    (hc : ∀ Q' : List Value → Shared → Prop, (∀ (vs : List Value) (h' : Heap) (tk : Nat), (∀ b o, s.heap.get? b = some o → h'.get? b = some o) → EachIs R vs ds → EachIs (fun v b => ∃ as, Reads s.heap v b as) vs ds → Q' vs { s with heap := h', toks := tk }) → wpAny (model prog w) A.in1 (collect x) Q' E s)
    (hal : AllAlike ds) (hk : Sortable ds) (hu : ∀ d ∈ ds, A.units + 4 + d.depth < cLine)
    (h : ∀ (out : List Value) (h' : Heap) (tk n : Nat) (p : Addr), EachIs R out (isort ds) → (∀ b o, s.heap.get? b = some o → h'.get? b = some o) → s.heap.get? p = none → h'.get? p = some (seqObj "list" out.toArray n) → Q (.ref p) { s with heap := h', toks := tk }) :
    wpAny (model prog w) A (call (.builtin "sorted") [x]) Q E s := by
  refine PySem.Calls.call_function_entry kind_sorted plain_sorted entry_sorted (args_sorted1 _) ?_
  unfold Builtin.«sorted»
  refine wpAny_bind (m := checkCount "sorted" 1 1 _) (wpAny_pure ?_)
  refine wpAny_bind (hc _ fun vs h1 tk k1 e er => ?_)
  have hv : vs.length ≤ sizeLine := by rw [e.length]; exact hL
  refine wpAny_bind (wpAny_newList ?_ hv)
  have at1 : (h1.push (seqObj "list" vs.toArray 0)).get? h1.objs.size = some (seqObj "list" vs.toArray 0) := Heap.get?_push_size _ rfl
  have k2 : ∀ b o, s.heap.get? b = some o → (h1.push (seqObj "list" vs.toArray 0)).get? b = some o := fun b o q => Heap.get?_push_of_some _ (k1 b o q)
  have ne : ∀ b o, s.heap.get? b = some o → b ≠ h1.objs.size := fun b o q => Nat.ne_of_lt (Heap.lt_size (k1 b o q))
  have sz : s.heap.get? h1.objs.size = none := by
    cases q : s.heap.get? h1.objs.size with
    | none => rfl
    | some o => exact absurd rfl (ne _ o q)
  have er' : EachIs (fun v b => ∃ as, Reads (PySem.W.sortingHeap (h1.push (seqObj "list" vs.toArray 0)) h1.objs.size vs) v b as) vs ds := er.mono fun v d ⟨as, r⟩ => ⟨as, PyProof.Rows.Reads.keeps (fun b o q => PySem.W.sortingHeap_old (ne b o q) (k2 b o q)) r⟩
  have fin : ∀ out : List Value, EachIs R out (isort ds) → Q (.ref h1.objs.size) { s with heap := sortedHeap (h1.push (seqObj "list" vs.toArray 0)) h1.objs.size vs out.toArray, toks := tk } := fun out eo => by
    obtain ⟨n, hn⟩ := sortedHeap_at (out := out.toArray) at1
    refine h out _ tk n _ eo (fun b o q => ?_) sz hn
    rw [sortedHeap_old (ne b o q) (Heap.lt_size (k2 b o q))]
    exact k2 b o q
  refine wpAny_bind (wpAny_holding (wpAny_call_entry slot_list_sort ⟨_, at1, rfl⟩ entry_list_sort (PySem.W.list_sort_vals (κ := PySem.W.dataKind (PySem.W.sortingHeap (h1.push (seqObj "list" vs.toArray 0)) h1.objs.size vs) ds) at1 ?_ hv ⟨_, rfl, ?_⟩) (args_list_sort _)))
  · exact PySem.W.SortsAt.data er' hal hk fun d hd => by
      have := hu d hd
      show A.units + 1 + 1 + d.depth < cLine
      omega
  · refine wpAny_pure ⟨_, rfl, fin _ ?_⟩
    have q := PySem.W.sortVals_data (enc := fun d : D => d) false e er' (by rw [List.map_id']; exact hal)
    rw [List.map_id', le_is, isort_is] at q
    exact q
end

/-! ### the rule -/
section
variable {w : World} {K : PySem.W.Frag} {G : Hp}
def RD (w : World) (K : PySem.W.Frag) (G : Hp) (u : Value) (d : D) : Prop := ∃ v, RelV v u ∧ Dt w K G v d
theorem rd_of : ∀ {vs : List V} {us : List Value} {ds : List D}, Vals vs us → DtAll w K G vs ds → EachIs (RD w K G) us ds
  | _, _, _, .nil, .nil => .nil
  | _, _, _, .cons r rs, .cons t ts => .cons ⟨_, r, t⟩ (rd_of rs ts)
theorem rd_back : ∀ {us : List Value} {ds : List D}, EachIs (RD w K G) us ds → ∃ vs, Vals vs us ∧ DtAll w K G vs ds
  | _, _, .nil => ⟨[], .nil, .nil⟩
  | _, _, .cons ⟨v, r, t⟩ e => by
    obtain ⟨vs, rs, ts⟩ := rd_back e
    exact ⟨v :: vs, .cons r rs, .cons t ts⟩
theorem rd_reads {X : Cx} {pins : List (Addr × Obj)} {σ : L2.St} {H : Hp} {s : Shared} (I : Inv X pins σ H s) (sb : Sub G H) : ∀ {us : List Value} {ds : List D}, (∀ d ∈ ds, d.canLay0 = true ∧ d.depth ≤ 60) → EachIs (RD X.w X.K G) us ds → EachIs (fun v b => ∃ as, Reads s.heap v b as) us ds
  | _, _, _, .nil => .nil
  | _, _, h, .cons ⟨v, r, t⟩ e => .cons (Dp.reads I _ v _ (t.dp sb (h _ List.mem_cons_self).1) r) (rd_reads I sb (fun d hd => h d (List.mem_cons_of_mem _ hd)) e)
end
def srt (ds : List D) : R D := if srtOk ds = true ∧ ds.length ≤ sizeLine then .ok (.list (isort ds)) else stk
def sortedD : List D → R D
  | [.list ds] => srt ds
  | [.str x] => srt (x.cps.toList.map fun c => .str ⟨#[c]⟩)
  | _ => stk
theorem signs_rd {w : World} {K : PySem.W.Frag} {G : Hp} {x : Str} {acc : Array Value} (h : ItemsOf (SignAt x) acc x.cps.size) : EachIs (RD w K G) acc.toList (x.cps.toList.map fun c => .str ⟨#[c]⟩) := by
  have key : ∀ (us : List Value) (cs : List Nat), us.length = cs.length → (∀ (j : Nat) (v : Value), us[j]? = some v → ∃ c u, cs[j]? = some c ∧ v = Value.str ⟨#[c]⟩ u) → EachIs (RD w K G) us (cs.map fun c => .str ⟨#[c]⟩) := by
    intro us
    induction us with
    | nil => intro cs hl _; cases cs with
      | nil => exact .nil
      | cons _ _ => cases hl
    | cons v us ih => intro cs hl hj; cases cs with
      | nil => cases hl
      | cons c cs =>
        obtain ⟨c', u, e1, e2⟩ := hj 0 v rfl
        cases e1
        exact .cons ⟨.str ⟨#[c]⟩, ⟨u, e2⟩, .str _⟩ (ih cs (Nat.succ.inj hl) fun j v hv => hj (j + 1) v hv)
  refine key _ _ (by rw [Array.length_toList, Array.length_toList]; exact h.1) fun j v hv => ?_
  obtain ⟨c, u, e1, e2⟩ := h.2 j v (by rw [← Array.getElem?_toList]; exact hv)
  exact ⟨c, u, by rw [Array.getElem?_toList]; exact e1, e2⟩
theorem srt_run {X : Cx} {pins : List (Addr × Obj)} {σ : L2.St} {G H : Hp} {s : Shared} {Q : VK} {e : Nat → D → Prop} {u : Value} {ds : List D} (hu : X.A.units + 65 < cLine) (I : Inv X pins σ H s) (sb : Sub G H)
    (hc : ∀ Q' : List Value → Shared → Prop, (∀ (vs : List Value) (h' : Heap) (tk : Nat), (∀ b o, s.heap.get? b = some o → h'.get? b = some o) → EachIs (RD X.w X.K G) vs ds → Q' vs { s with heap := h', toks := tk }) → wpAny (model X.prog X.w) X.A.in1 (collect u) Q' X.xe s)
    (q : gd (srt ds) (fun d => ∀ a G' H', Gr G H G' H' → H a = none → G' a = none → Own X.w X.K G' H' a d → Q (.ref a) H') e) :
    wpAny (model X.prog X.w) X.A (call (.builtin "sorted") [u]) (EP X pins σ Q) X.xe s := by
  unfold srt at q
  split at q
  · rename_i hs
    obtain ⟨k1, k2, k3⟩ := srtOk_is hs.1
    refine sorted_from (R := RD X.w X.K G) hs.2 (fun Q' h => hc Q' fun vs h' tk k e => h vs h' tk k e (rd_reads I sb k1 e)) k2 k3 (fun d hd => ?_) fun out h' tk n p eo k pn hp => ?_
    · have := (k1 d hd).2
      omega
    · obtain ⟨xs, rv, t⟩ := rd_back eo
      have Hp : H p = none := I.hok.gone pn
      obtain ⟨g, n2, o⟩ := own_new sb Hp t
      have hl : xs.length ≤ sizeLine := by
        rw [t.length, isort_len]
        exact hs.2
      exact ⟨.ref p, upd H p (.lst xs), I.laidN (t' := tk) k pn Hp ⟨hl, out, n, rv, hp⟩, rfl, q p _ _ g Hp n2 o⟩
  · exact q.elim
theorem c_sorted {X : Cx} (hu : X.A.units + 65 < cLine) (hh : X.A.handled = none) : CallR X (.builtin "sorted") (rCo X.w X.K sortedD) := by
  intro pins s σ H xs us Q I r ⟨G, ds, e, sb, t, q⟩
  unfold sortedD at q
  split at q
  · cases t with
    | cons t1 t2 =>
      cases t2
      cases t1 with
      | lst s1 a1 =>
        obtain ⟨its, rv, hl, hz⟩ := I.list (Rd.sq (Rd.sub sb s1))
        rw [Vals.ref1 r]
        refine srt_run hu I sb (fun Q' h => collect_list hl.isList ?_ (by rw [← rv.length]; exact hz)) q
        refine h its _ s.toks (fun b o z => ?_) (rd_of rv a1)
        rw [Heap.get?_update_ne _ _ _ _ (Nat.ne_of_lt (Heap.lt_size z))]
        exact Heap.get?_push_of_some _ z
  · cases t with
    | cons t1 t2 =>
      cases t2
      cases t1 with
      | str =>
        rename_i x
        obtain ⟨u, rfl, ru⟩ := vals1 r
        obtain ⟨tk, rfl⟩ := ru
        have hlen : x.cps.size ≤ sizeLine := by
          unfold srt at q
          split at q
          · rename_i hs
            have := hs.2
            rw [List.length_map, Array.length_toList] at this
            exact this
          · exact q.elim
        refine srt_run hu I sb (fun Q' h => wpAny_collect_str (A := X.A.in1) (show X.A.in1.handled = none from hh) x tk (fun s' acc k1 k2 k3 k4 k5 => ?_) hlen) q
        obtain ⟨h', g', d', t', o'⟩ := s'
        cases k2; cases k3; cases k4
        exact h acc.toList h' t' k1 (signs_rd k5)
  · exact q.elim
end Vs

set_option Elab.async false
set_option linter.all false
set_option maxRecDepth 100000
/-! sets made of lists: whole numbers and texts. -/
namespace Vs
open PySem PySem.Spec PyProof.Rows L2

/-! ### each once -/
def addK {α : Type} [DecidableEq α] (l : List α) (x : α) : List α := if x ∈ l then l else l ++ [x]
def onceTo {α : Type} [DecidableEq α] (val : Nat → α) : Nat → List α
  | 0 => []
  | i + 1 => addK (onceTo val i) (val i)
theorem onceTo_le {α : Type} [DecidableEq α] (val : Nat → α) : ∀ i, (onceTo val i).length ≤ i
  | 0 => Nat.le_refl _
  | i + 1 => by
    have := onceTo_le val i
    show (addK _ _).length ≤ _
    unfold addK
    split
    · omega
    · rw [List.length_append, List.length_singleton]; omega
section
variable {prog : Program} {w : World} {κ : Type} [DecidableEq κ] {knd : KeyKind prog w κ} {A : Around} {R : Result → Shared → Prop} {I : Addr} {fp wr : List Addr} {Γ : Array GenState → Array GenState → Prop} {n : Nat} {P : Nat → Value → Prop} {St : Nat → Shared → Prop}
/-- the set at S holds just l -/
def SetL (knd : KeyKind prog w κ) (h : Heap) (S : Addr) (l : List κ) : Prop := h.SetOf knd S (fun k => decide (k ∈ l)) l.length
theorem SetL.keep {h h' : Heap} {S : Addr} {l : List κ} (x : SetL knd h S l) (k : ∀ o, h.get? S = some o → h'.get? S = some o) : SetL knd h' S l := by
  obtain ⟨o, es, ep, tb, ho, rest⟩ := x
  exact ⟨o, es, ep, tb, k o ho, rest⟩
theorem SetL.add {h : Heap} {S : Addr} {l : List κ} {k : κ} (x : h.SetOf knd S (fun k' => decide (k' ∈ l) || decide (k' = k)) (if decide (k ∈ l) then l.length else l.length + 1)) : SetL knd h S (addK l k) := by
  unfold SetL addK
  by_cases hk : k ∈ l
  · rw [if_pos hk]
    rw [decide_eq_true hk, if_pos rfl] at x
    refine cast (congrArg (fun f => h.SetOf knd S f l.length) (funext fun k' => ?_)) x
    by_cases e : k' = k
    · subst e; simp [hk]
    · simp [e]
  · rw [if_neg hk]
    rw [decide_eq_false hk, if_neg Bool.false_ne_true] at x
    rw [List.length_append, List.length_singleton]
    refine cast (congrArg (fun f => h.SetOf knd S f (l.length + 1)) (funext fun k' => ?_)) x
    simp [List.mem_append]
end
/-- how a set is kept: what stands at it when just l is in it -/
structure SetF (prog : Program) (w : World) (κ : Type) [DecidableEq κ] where
  isk : κ → Value → Prop
  Φ : Heap → Addr → List κ → Prop
  keep : ∀ {h h' : Heap} {S : Addr} {l : List κ}, Φ h S l → (∀ o, h.get? S = some o → h'.get? S = some o) → Φ h' S l
  add : ∀ {A : Around} {E : Value → Shared → Prop} {s : Shared} {S : Addr} {l : List κ} {k : κ} {v : Value} {Q : Bool → Shared → Prop}, isk k v → Φ s.heap S l → l.length + 1 < scanBound →
    (∀ b h', Heap.SameBut S s.heap h' → Φ h' S (addK l k) → Q b { s with heap := h', toks := s.toks + 1 }) → wpAny (model prog w) A (setAdd S v) Q E s
  new : ∀ {h : Heap} {S : Addr}, h.get? S = some { cls := .type "set", dict := none, data := .set #[] 0 (.fresh 0 0 (!w.params.followText "set-order")) } → Φ h S []
def setF_of {prog : Program} {w : World} {κ : Type} [DecidableEq κ] (knd : KeyKind prog w κ) : SetF prog w κ where
  isk := fun k v => knd.is k v = true ∧ v.scannable = true
  Φ := SetL knd
  keep := fun x k => x.keep k
  add := fun {A E s S l k v Q} hk x1 hl h => by
    unfold setAdd
    refine wpAny_holding (wpAny_bind (knd.pyHash hk.1 ?_))
    exact wpAny_setAddHashed_of (s := { s with toks := s.toks + 1 }) hk.1 hk.2 x1 hl fun h' sb x2 => h _ h' sb (SetL.add x2)
  new := fun {h S} e => cast (congrArg (fun f => h.SetOf knd S f 0) (funext fun k => by simp)) ((PyProof.Rows.setObjOf_fresh (knd := knd) _).setOf e (by decide))
section
variable {prog : Program} {w : World} {κ : Type} [DecidableEq κ] {knd : KeyKind prog w κ} {A : Around} {R : Result → Shared → Prop} {I : Addr} {fp wr : List Addr} {Γ : Array GenState → Array GenState → Prop} {n : Nat} {P : Nat → Value → Prop} {St : Nat → Shared → Prop}
theorem set_loop (W : WalksS prog w A.in1 I fp wr Γ n P St) (S : Addr) (nS : S ∉ fp) (F : SetF prog w κ) (val : Nat → κ) (hval : ∀ i v, P i v → F.isk (val i) v) (hn : n + 1 < scanBound) :
    ∀ (m i : Nat) (s : Shared), i + m = n → St i s → F.Φ s.heap S (onceTo val i) →
      (∀ s', Moved (S :: wr) Γ s s' → F.Φ s'.heap S (onceTo val n) → R (.ok (.ret .none)) s') →
      codeAny (model prog w) A (.builtin "set.update.loop" ⟨[.ref S, .ref I], []⟩) R s
  | 0, i, s, e, st, x, r => by
    obtain rfl : i = n := by omega
    refine codeAny_builtin PyProof.Rows.F.entry_set_update_loop ?_
    rw [Around.under_plainId PyProof.Rows.F.plain_set_update_loop _]
    show wpAny _ A.in1 (pyNext (.ref I) >>= _) _ _ s
    refine wpAny_bind (W.done s _ _ st fun s' mv => ?_)
    exact wpAny_pure (r s' (mv.mono fun b hb => List.mem_cons_of_mem _ hb) (F.keep x fun o => mv.heap S o fun z => nS (W.sub _ z)))
  | m + 1, i, s, e, st, x, r => by
    have lt : i < n := by omega
    refine codeAny_builtin PyProof.Rows.F.entry_set_update_loop ?_
    rw [Around.under_plainId PyProof.Rows.F.plain_set_update_loop _]
    show wpAny _ A.in1 (pyNext (.ref I) >>= _) _ _ s
    refine wpAny_bind (W.item i s _ _ lt st fun v s1 hP st1 mv => ?_)
    have hk := hval i v hP
    have x1 : F.Φ s1.heap S (onceTo val i) := F.keep x fun o => mv.heap S o fun z => nS (W.sub _ z)
    show wpAny _ A.in1 (holding [v] (setAdd S v) >>= _) _ _ s1
    refine wpAny_bind (wpAny_holding ?_)
    refine F.add hk x1 (by have := onceTo_le val i; omega) fun b h' sb x2 => ?_
    have x3 : F.Φ h' S (onceTo val (i + 1)) := x2
    have st2 := W.frame (i + 1) s1 h' (s1.toks + 1) st1 (Nat.le_succ _) fun b hb o q => (sb.2 b fun z => nS (z ▸ hb)).trans q
    refine wpAny_pure ⟨plainId_quiet PyProof.Rows.F.plain_set_update_loop _, set_loop W S nS F val hval hn m (i + 1) _ (by omega) st2 x3 fun s' mv2 x4 => r s' ?_ x4⟩
    exact Moved.trans W.gtrans ((mv.mono fun b hb => List.mem_cons_of_mem _ hb).then_heap (Nat.le_succ _) fun b o hb q => (sb.2 b fun z => hb (z ▸ List.mem_cons_self)).trans q) mv2
end

section
variable {prog : Program} {w : World} {κ : Type} [DecidableEq κ] {knd : KeyKind prog w κ} {A : Around} {E : Value → Shared → Prop} {s : Shared}
/-- an empty set, new -/
abbrev newSet (led : Bool) : Obj := { cls := .type "set", dict := none, data := .set #[] 0 (.fresh 0 0 led) }
theorem set_new_as (a : Value) {Q₁ : Value → Shared → Prop} (h : Q₁ (.ref s.heap.objs.size) { s with heap := s.heap.push (newSet (!w.params.followText "set-order")) }) : codeAny (model prog w) A (.call (.builtin "set.__new__") ⟨[.type "set", a], []⟩) (wants Q₁ E) s := by
  refine codeAny_of_tree ?_
  show wpAny _ A.in1 (do checkBuiltinCall "set.__new__" ⟨[.type "set", a], []⟩; again _) _ _ s
  refine wpAny_bind (wpAny_of_eq (PySem.F.newCall_set_1 a) (wpAny_pure ⟨plainId_quiet PySem.F.plain_set_new _, codeAny_builtin PySem.F.entry_set_new ?_⟩))
  rw [Around.under_plainId PySem.F.plain_set_new _]
  have hsub := PySem.sub_set_self
  unfold Builtin.«set.__new__» Builtin.Frozenset.newClass
  cases s
  dsimp only
  wp_walk
  refine PySem.wpAny_askSetting (wpAny_pure ?_)
  dsimp only
  simp only [newObj]
  exact wpAny_bind (wpAny_alloc (wpAny_pure (wpAny_pure h)))
set_option maxHeartbeats 3200000 in
theorem call_set_F {l : Addr} {items : Array Value} {Q : Value → Shared → Prop} (F : SetF prog w κ) (val : Nat → κ) (hh : A.handled = none) (hl : s.heap.IsList l items) (hval : ∀ i v, items[i]? = some v → F.isk (val i) v) (hn : items.size + 1 < scanBound)
    (q : ∀ (h' : Heap) (tk : Nat), F.Φ h' s.heap.objs.size (onceTo val items.size) → (∀ b o, s.heap.get? b = some o → h'.get? b = some o) → Q (.ref s.heap.objs.size) { s with heap := h', toks := tk }) :
    wpAny (model prog w) A (call (.type "set") [.ref l]) Q E s := by
  obtain ⟨c, tl, hmro⟩ := PySem.F.called_set.mro
  have u1 := PySem.F.called_set.made
  have u2 := PySem.F.called_set.sub
  have u3 := PySem.F.called_set.notType
  have u4 := PySem.F.called_set.canCreate
  have u5 := PySem.F.typeCall_set_1 (.ref l)
  refine wpAny_call (codeAny_of_tree ?_)
  show wpAny _ _ (callAny (.type "set") _) _ _ _
  refine wpAny_pure ⟨Code.quiet_builtin _ (by decide +kernel), codeAny_builtin PySem.F.entry_type_call ?_⟩
  rw [Around.under_plain (weight_type_call_type "set" [.ref l] []) rfl]
  repeat (any_goals (first | assumption | wp_step))
  generalize hled : (!w.params.followText "set-order") = led
  refine codeAny_mono (set_new_as (.ref l) (E := E) (Q₁ := fun ob t => ob = .ref s.heap.objs.size ∧ t = { s with heap := s.heap.push (newSet led) }) ⟨rfl, by rw [hled]⟩) fun r t hr => ?_
  cases r with
  | error e => exact hr
  | ok fl =>
    cases fl with
    | ret ob =>
      obtain ⟨rfl, rfl⟩ := hr
      have atS : (s.heap.push (newSet led)).get? s.heap.objs.size = some (newSet led) := Heap.get?_push_size _ rfl
      have isS : Shared.TypeIs { s with heap := s.heap.push (newSet led) } (.ref s.heap.objs.size) "set" := ⟨_, atS, rfl⟩
      have v1 := PySem.F.called_set.init.lookup
      have v2 := PySem.F.called_set.init.bind (.ref s.heap.objs.size)
      repeat (any_goals (first | assumption | wp_step))
      refine codeAny_mono (codeAny_call_builtin (R := wants (fun r t => r = .none ∧ ∃ h' tk, t = { s with heap := h', toks := tk } ∧ F.Φ h' s.heap.objs.size (onceTo val items.size) ∧ ∀ b o, s.heap.get? b = some o → h'.get? b = some o) E) PySem.F.called_set.init.plain PySem.F.entry_set_init (check_set_init_1 isS ?_)) fun r2 t2 hr2 => ?_
      · obtain ⟨⟨ocls, odict, odata, oslots⟩, hol, hcl, nl, hdl⟩ := hl
        simp only at hcl hdl
        subst hcl; subst hdl
        have hol2 := Heap.get?_push_of_some (newSet led) hol
        have x1 := PySem.F.sub_list_set
        have x2 := PySem.F.sub_list_frozenset
        have x3 : (Value.type "list" == Value.type "dict") = false := by decide
        have hl1 : (s.heap.push (newSet led)).IsList l items := ⟨_, hol2, rfl, nl, rfl⟩
        unfold Builtin.«set.__init__» noKeywords Builtin.Frozenset.updateFrom
        generalize hPI : pyIter = PI
        wp_walk
        subst hPI
        refine wpAny_pyIter_list hl1 (wpAny_bind (wpAny_runValue ?_))
        have lS : l < s.heap.objs.size := Heap.lt_size hol
        have hh3 : A.in1.in1.in1.handled = none := by simp [hh]
        have nI : l ≠ (s.heap.push (newSet led)).objs.size := by
          rw [Heap.size_push]; exact Nat.ne_of_lt (Nat.lt_succ_of_lt lS)
        have nS : s.heap.objs.size ∉ [(s.heap.push (newSet led)).objs.size, l] := by
          rw [Heap.size_push]; simp only [List.mem_cons, List.mem_singleton, List.not_mem_nil, or_false, not_or]; exact ⟨Nat.ne_of_lt (Nat.lt_succ_self _), Nat.ne_of_gt lS⟩
        refine set_loop ((Walks.list hh3 _ l nI items).toS) s.heap.objs.size nS F val hval hn items.size 0 _ (Nat.zero_add _) ⟨⟨_, Heap.get?_push_size _ rfl, rfl, rfl⟩, (hl1.push _)⟩ (F.new (by rw [hled]; exact Heap.get?_push_of_some _ atS)) ?_
        intro t mv x
        obtain ⟨h', g', d', tk', os'⟩ := t
        have eg : g' = s.gens := mv.gens
        have ed : d' = s.drawn := mv.drawn
        have eo : os' = s.os := mv.os
        subst eg; subst ed; subst eo
        show wpAny _ _ _ _ _ _
        refine wpAny_pure ?_
        show wpAny _ _ (PySem.ret Value.none) _ _ _
        refine wpAny_pure ⟨rfl, h', tk', rfl, x, fun b o e => mv.heap b o ?_ (Heap.get?_push_of_some _ (Heap.get?_push_of_some _ e))⟩
        have lb := Heap.lt_size e
        rw [Heap.size_push]
        simp only [List.mem_cons, List.mem_singleton, List.not_mem_nil, or_false, not_or]
        exact ⟨Nat.ne_of_lt lb, Nat.ne_of_lt (Nat.lt_succ_of_lt lb)⟩
      · cases r2 with
        | error e => exact hr2
        | ok f2 =>
          cases f2 with
          | ret r =>
            obtain ⟨rfl, h', tk, rfl, x, k⟩ := hr2
            repeat (any_goals (first | assumption | wp_step))
            exact q _ _ x k
          | _ => exact hr2.elim
    | _ => exact hr.elim
theorem call_set_l {l : Addr} {items : Array Value} {Q : Value → Shared → Prop} (val : Nat → κ) (hh : A.handled = none) (hl : s.heap.IsList l items) (hval : ∀ i v, items[i]? = some v → knd.is (val i) v = true ∧ v.scannable = true) (hn : items.size + 1 < scanBound)
    (q : ∀ (h' : Heap) (tk : Nat), SetL knd h' s.heap.objs.size (onceTo val items.size) → (∀ b o, s.heap.get? b = some o → h'.get? b = some o) → Q (.ref s.heap.objs.size) { s with heap := h', toks := tk }) :
    wpAny (model prog w) A (call (.type "set") [.ref l]) Q E s := call_set_F (setF_of knd) val hh hl hval hn q
end
end Vs

set_option Elab.async false
set_option linter.all false
set_option maxRecDepth 100000
namespace Vs
open PySem PySem.Spec PyProof.Rows L2

/-! ### len(set(xs)), xs a list of whole numbers, of texts -/
def keys? : List D → Option (List Key)
  | [] => some []
  | d :: r => match atomK d with
    | some k => (keys? r).map (k :: ·)
    | none => none
def once {α : Type} [DecidableEq α] (l : List α) : List α := l.foldl addK []
theorem onceTo_is {α : Type} [DecidableEq α] (x0 : α) : ∀ (l : List α) (i : Nat), i ≤ l.length → onceTo (fun j => l.getD j x0) i = once (l.take i)
  | l, 0, _ => by rw [List.take_zero]; rfl
  | l, i + 1, h => by
    have h1 : i < l.length := by omega
    rw [List.take_add_one, List.getElem?_eq_getElem h1]
    show addK (onceTo _ i) (l.getD i x0) = once (l.take i ++ [l[i]])
    rw [onceTo_is x0 l i (by omega)]
    unfold once
    rw [List.foldl_append, List.getD_eq_getElem?_getD, List.getElem?_eq_getElem h1]
    rfl
def lenSetD (d : D) : R D := itL d >>= fun ds => opt (keys? ds) >>= fun ks => if ks.length + 1 < 4096 then .ok (.int (once ks).length) else stk
theorem keys_dt {w : World} {K : PySem.W.Frag} {G : Hp} : ∀ {vs : List V} {ds : List D} {ks : List Key}, DtAll w K G vs ds → keys? ds = some ks → vs = ks.map kV
  | _, _, _, .nil, h => by cases h; rfl
  | _, _, ks, .cons (d := d) t ts, h => by
    unfold keys? at h
    split at h
    · rename_i k hk
      obtain ⟨ms, h1, h2⟩ := Option.map_eq_some_iff.mp h
      subst h2
      rw [keys_dt ts h1, atom_V t hk]
      rfl
    · cases h
theorem keys_at : ∀ {ks : List Key} {us : List Value}, Vals (ks.map kV) us → ∀ (i : Nat) (v : Value), us[i]? = some v → ∃ k, ks[i]? = some k ∧ RelV (kV k) v
  | [], _, .nil, i, v, h => by simp at h
  | k :: ks, _, .cons r rs, 0, v, h => by simp at h; subst h; exact ⟨k, rfl, r⟩
  | k :: ks, _, .cons r rs, i + 1, v, h => keys_at rs i v (by simpa using h)
section
variable {X : Cx} {a : Expr} {e : Nat → D → Prop} {O : List Nat} {fa : Env' → R D} {p p2 q pos : Pos}
theorem v_lenset (hm : X.mg "len" = none) (hm2 : X.mg "set" = none) (hc : X.calm = true) (ha : PE X a (tV X.w X.K e O fa)) (hg : Gl X "len" := by rfl) (hg2 : Gl X "set" := by rfl) (na : starEach [a] X.env = (false, eval a X.env) :: starEach [] X.env := by rfl) :
    PE X (.Call (.Name "len" p) [.Call (.Name "set" p2) [a] [] q] [] pos) (tV X.w X.K e O fun ρ => fa ρ >>= fun x => lenSetD x) := by
  refine ⟨fun pins s σ H Q I ⟨B, ρ, G, r, g⟩ => ?_⟩
  refine Call_ (ld_blt I hg hm boot_len ?_)
  refine PyProof.Rows.callWith_builtin1 (PyProof.Rows.args_cons ?_ rfl) rfl rfl
  refine Call_ (ld_blt I hg2 hm2 boot_set ?_)
  have key : tV X.w X.K e O fa σ H fun x H1 => ∃ (l : Addr) (ks : List Key), x = .ref l ∧ SqL X.K H1 l (ks.map kV) ∧ ks.length + 1 < 4096 ∧ Q (.int (once ks).length) H1 := by
    refine ⟨B, ρ, G, r, gd_mono (gd_bind.mp g) fun d g v G1 H1 g1 t => ?_⟩
    unfold lenSetD at g
    cases t with
    | lst s1 a1 =>
      obtain ⟨ks, hk, g⟩ := opt_in (gd_bind.mp g)
      split at g
      · rename_i hl
        refine ⟨_, ks, rfl, ?_, hl, g _ G1 H1 g1 (.int _)⟩
        rw [← keys_dt a1 hk]
        exact Rd.sq (Rd.sub g1.sub s1)
      · exact g.elim
    | non => exact g.elim
    | bl _ => exact g.elim
    | int _ => exact g.elim
    | str _ => exact g.elim
    | tup _ _ => exact g.elim
    | dct _ _ _ _ _ _ => exact g.elim
    | scr _ _ => exact g.elim
  refine PyProof.Rows.callWith_type1 (PyProof.Rows.args_cons (thn (ha.run pins s σ H _ I key) fun v s1 ⟨x, H1, I1, r1, l, ks, e1, hS, hl, q1⟩ => PyProof.Rows.args_nil ?_) na) na rfl
  subst e1
  cases r1
  obtain ⟨its, rv, pl, hz⟩ := I1.list hS
  have hlen : its.toArray.size = ks.length := by rw [List.size_toArray, ← rv.length, List.length_map]
  refine call_set_l (knd := mixKind X.prog X.w) (fun j => ks.getD j (.inl 0)) (I1.ok.hd hc) pl.isList (fun i v hv => ?_) (by rw [hlen]; exact hl) fun h' tk x k => PyProof.Rows.args_nil ?_
  · obtain ⟨kk, e2, r2⟩ := keys_at rv i v (by simpa using hv)
    show (mixKind X.prog X.w).is (ks.getD i (.inl 0)) v = true ∧ _
    rw [List.getD_eq_getElem?_getD, e2]
    exact ⟨kV_is r2, key_scan r2⟩
  · rw [hlen, onceTo_is (.inl 0) ks ks.length (Nat.le_refl _), List.take_length] at x
    obtain ⟨o, es, ep, t, ho, hex, hd, _, _, _, hf, hn⟩ := x
    have I2 : Inv X pins σ H1 { s1 with heap := h', toks := tk } := I1.kept k
    refine call_len_set ho hex hd hf (by rw [hn]; have := onceTo_le (fun j => ks.getD j (.inl 0)) ks.length; rw [onceTo_is (.inl 0) ks ks.length (Nat.le_refl _), List.take_length] at this; omega) ⟨.int (once ks).length, H1, I2.tok _, ⟨_, by rw [hn]⟩, q1⟩
end

/-! ### a text, so many times -/
def repS (x : Str) (n : Int) : Str := Txt.mul x n
def mulOkB (x : Str) (n : Int) : Bool := decide (0 ≤ n) && decide (n ≤ 1000) && decide (x.length ≤ 1000)
theorem mulOk_of {x : Str} {n : Int} (h : mulOkB x n = true) : MulOk x n := by
  unfold mulOkB at h
  rw [Bool.and_eq_true, Bool.and_eq_true] at h
  have h1 := of_decide_eq_true h.1.1
  have h2 := of_decide_eq_true h.1.2
  have h3 := of_decide_eq_true h.2
  refine ⟨by rw [decide_eq_false (by omega), decide_eq_false (by omega)]; rfl, fun n1 _ z => ?_, fun n1 _ => ?_⟩
  · have : (2 ^ 63 - 1) / n ≥ 1000 := by
      refine (Int.le_ediv_iff_mul_le (by omega)).mpr ?_
      omega
    omega
  · have : x.length * n.toNat ≤ 1000 * 1000 := Nat.mul_le_mul h3 (by omega)
    unfold Builtin.Str.tooLong
    rw [sizeLine_eq]
    exact decide_eq_false (by
                              omega)
def mulD (a b : D) : R D := match a, b with
  | .str x, .int n => if mulOkB x n then .ok (.str (repS x n)) else stk
  | _, _ => mulI a b
theorem d_mul {X : Cx} : OpR X (binaryOp .Mult) (r2 X.w X.K mulD) := by
  intro pins s σ H x y v u Q I rx ry ⟨G, da, db, e, sb, t1, t2, q⟩
  unfold mulD at q
  split at q
  · cases t1; cases t2
    split at q
    · rename_i hc
      obtain ⟨t, rfl⟩ := rx
      obtain ⟨t', rfl⟩ := ry
      refine SB.mul (mulOk_of hc) fun tk k => ⟨.str _, H, I.tok _, ⟨_, rfl⟩, q _ G H (Gr.refl sb) (.str _)⟩
    · exact q.elim
  · exact d_mulI pins s σ H x y v u Q I rx ry ⟨G, da, db, e, sb, t1, t2, q⟩
end Vs

set_option Elab.async false
set_option linter.all false
set_option maxRecDepth 100000
/-! The plain side: meanings told in plain words. -/
namespace Vs
open PySem PySem.Spec PyProof.Rows L2
def m_draws_b0 : Env' → R Out := fun ρ => ((gv ρ 3 >>= fun x => .ok (.int 0) >>= fun y => gtD x y) >>= asB) >>= fun k => if k then (seqD (fun ρ => gl ρ 1 >>= fun xs => (((gv ρ 3 >>= fun x => .ok [] >>= fun xs => .ok (x :: xs)) >>= intD) >>= fun x => .ok (.int 65536) >>= fun y => modI x y) >>= fun d => apD 1 xs d ρ) (fun ρ => (gv ρ 3 >>= fun x => .ok (.int 65536) >>= fun y => fdivI x y) >>= fun d => setD 3 d ρ)) ρ else (fun ρ => .ok (.nx ρ)) ρ
def m_draws_b1 : Env' → R Out := seqD (fun ρ => (((gv ρ 0 >>= fun x => gv ρ 2 >>= fun y => ixD x y) >>= fun x => .ok [] >>= fun xs => .ok (x :: xs)) >>= absD) >>= fun d => setD 3 d ρ) (fun ρ => ((gv ρ 3 >>= fun x => (.ok (.int 10) >>= fun x => .ok (.int 18) >>= fun y => powI x y) >>= fun y => geD x y) >>= asB) >>= fun k => if k then (fun ρ => ((.ok (.int 60) >>= fun x => .ok [] >>= fun xs => .ok (x :: xs)) >>= rg1) >>= fun ds => forD (tgN 4) m_draws_b0 ds ρ) ρ else (seqD (fun ρ => (((((gv ρ 3 >>= fun x => .ok (.int 48271) >>= fun y => mulD x y) >>= fun x => ((gv ρ 2 >>= fun x => .ok (.int 1) >>= fun y => addD x y) >>= fun x => .ok (.int 69621) >>= fun y => mulD x y) >>= fun y => addD x y) >>= fun x => .ok [] >>= fun xs => .ok (x :: xs)) >>= intD) >>= fun x => .ok (.int 2147483647) >>= fun y => modI x y) >>= fun d => setD 5 d ρ) (seqD (fun ρ => ((((((gv ρ 5 >>= fun x => .ok (.int 16807) >>= fun y => mulD x y) >>= fun x => (.ok (.int 11) >>= fun x => gv ρ 2 >>= fun y => mulD x y) >>= fun y => addD x y) >>= fun x => .ok (.int 5) >>= fun y => addD x y) >>= fun x => .ok [] >>= fun xs => .ok (x :: xs)) >>= intD) >>= fun x => .ok (.int 2147483629) >>= fun y => modI x y) >>= fun d => setD 5 d ρ) (seqD (fun ρ => gl ρ 1 >>= fun xs => (((gv ρ 5 >>= fun x => .ok [] >>= fun xs => .ok (x :: xs)) >>= intD) >>= fun x => .ok (.int 65536) >>= fun y => modI x y) >>= fun d => apD 1 xs d ρ) (fun ρ => gl ρ 1 >>= fun xs => ((((gv ρ 5 >>= fun x => .ok (.int 65536) >>= fun y => fdivI x y) >>= fun x => .ok [] >>= fun xs => .ok (x :: xs)) >>= intD) >>= fun x => .ok (.int 32768) >>= fun y => modI x y) >>= fun d => apD 1 xs d ρ)))) ρ)
def m_draws : Env' → R Out := seqD (fun ρ => (.ok [] >>= fun xs => lenOk xs.length >>= fun _ => .ok (.list xs)) >>= fun d => setD 1 d ρ) (seqD (fun ρ => ((((.ok (.int 63) >>= fun x => (((gv ρ 0 >>= fun x => .ok [] >>= fun xs => .ok (x :: xs)) >>= lenD) >>= fun x => .ok [] >>= fun xs => .ok (x :: xs)) >>= fun xs => .ok (x :: xs)) >>= min2D) >>= fun x => .ok [] >>= fun xs => .ok (x :: xs)) >>= rg1) >>= fun ds => forD (tgN 2) m_draws_b1 ds ρ) (fun ρ => gv ρ 1 >>= fun d => .ok (.rt d)))
def f_draws : List D → R D := fun ds => noX (m_draws (arg0 6 ds)) >>= ret true
def m_mix : Env' → R Out := seqD (fun ρ => .ok (.int 0) >>= fun d => setD 3 d ρ) (seqD (fun ρ => ((((gv ρ 0 >>= fun x => .ok [] >>= fun xs => .ok (x :: xs)) >>= lenD) >>= fun x => .ok (.int 0) >>= fun y => gtD x y) >>= asB) >>= fun k => if k then (fun ρ => (gv ρ 0 >>= fun x => (((gv ρ 1 >>= fun x => .ok [] >>= fun xs => .ok (x :: xs)) >>= intD) >>= fun x => ((gv ρ 0 >>= fun x => .ok [] >>= fun xs => .ok (x :: xs)) >>= lenD) >>= fun y => modI x y) >>= fun y => ixD x y) >>= fun d => setD 3 d ρ) ρ else (fun ρ => .ok (.nx ρ)) ρ) (seqD (fun ρ => ((gv ρ 1 >>= fun x => ((gv ρ 0 >>= fun x => .ok [] >>= fun xs => .ok (x :: xs)) >>= lenD) >>= fun y => ltD x y) >>= asB) >>= fun k => if k then (fun ρ => (((gv ρ 3 >>= fun x => .ok [] >>= fun xs => .ok (x :: xs)) >>= intD) >>= fun x => gv ρ 2 >>= fun y => modI x y) >>= fun d => .ok (.rt d)) ρ else (fun ρ => .ok (.nx ρ)) ρ) (fun ρ => ((((((((gv ρ 3 >>= fun x => .ok (.int 7919) >>= fun y => mulD x y) >>= fun x => (gv ρ 1 >>= fun x => .ok (.int 104729) >>= fun y => mulD x y) >>= fun y => addD x y) >>= fun x => .ok [] >>= fun xs => .ok (x :: xs)) >>= intD) >>= fun x => .ok (.int 3) >>= fun y => fdivI x y) >>= fun x => .ok [] >>= fun xs => .ok (x :: xs)) >>= intD) >>= fun x => gv ρ 2 >>= fun y => modI x y) >>= fun d => .ok (.rt d))))
def f_mix : List D → R D := fun ds => noX (m_mix (arg0 4 ds)) >>= ret false

/-! ### steps -/
theorem okb {α β : Type} (a : α) (f : α → R β) : (Except.ok a >>= f : R β) = f a := rfl
theorem noX_ok {α : Type} (a : α) : noX (.ok a : R α) = .ok a := rfl
theorem seq_eq (f g : Env' → R Out) (ρ : Env') : seqD f g ρ = (f ρ >>= fun o => match o with
    | .nx ρ' => g ρ'
    | .rt d => .ok (.rt d)) := rfl
theorem seq_nx {f g : Env' → R Out} {ρ ρ' : Env'} (h : f ρ = .ok (.nx ρ')) : seqD f g ρ = g ρ' := by
  rw [seq_eq, h]; rfl
theorem seq_rt {f g : Env' → R Out} {ρ : Env'} {d : D} (h : f ρ = .ok (.rt d)) : seqD f g ρ = .ok (.rt d) := by
  rw [seq_eq, h]; rfl
theorem gv_at {ρ : Env'} {i : Nat} {d : D} (h : ρ[i]? = some (some d)) : gv ρ i = .ok d := by
  unfold gv; rw [h]
theorem gl_at {ρ : Env'} {i : Nat} {ds : List D} (h : ρ[i]? = some (some (.list ds))) : gl ρ i = .ok ds := by
  unfold gl; rw [gv_at h]; rfl
theorem add_ii (i j : Int) : addD (.int i) (.int j) = .ok (.int (i + j)) := rfl
theorem sub_ii (i j : Int) : subI (.int i) (.int j) = .ok (.int (i - j)) := rfl
theorem mul_r {i j : Int} (h : j.natAbs < 18446744073709551616) : mulD (.int i) (.int j) = .ok (.int (i * j)) := by
  show mulI (.int i) (.int j) = _
  unfold mulI
  exact if_pos (.inr h)
theorem mul_l {i j : Int} (h : i.natAbs < 18446744073709551616) : mulD (.int i) (.int j) = .ok (.int (i * j)) := by
  show mulI (.int i) (.int j) = _
  unfold mulI
  exact if_pos (.inl h)
theorem mod_i {i j : Int} (h : 0 < j) : modI (.int i) (.int j) = .ok (.int (i % j)) := by
  show (if 0 < j then _ else _ : R D) = _
  exact if_pos h
theorem fdiv_i {i j : Int} (h : 0 < j ∧ j < 1073741824) : fdivI (.int i) (.int j) = .ok (.int (i / j)) := by
  show (if _ then _ else _ : R D) = _
  exact if_pos h
theorem lenOk_i {n : Nat} (h : n ≤ 16777216) : lenOk n = .ok () := if_pos h
theorem gl_is (ρ : Env') (i : Nat) : gl ρ i = (gv ρ i >>= itL) := rfl
theorem lenD_l (ds : List D) : lenD [.list ds] = .ok (.int ds.length) := rfl
theorem lenD_t (ds : List D) : lenD [.tuple ds] = .ok (.int ds.length) := rfl
theorem lenD_s {x : Str} (h : x.length ≤ 16777216) : lenD [.str x] = .ok (.int x.length) := by
  show (lenOk x.length >>= fun _ => _ : R D) = _
  rw [lenOk_i h]; rfl
theorem asStr_is (x : Str) : asStr (.str x) = .ok x := rfl
theorem lenD_scr (ds : List D) : lenD [.dict [(.none, .list ds), (.none, .none)]] = .ok (.int ds.length) := rfl
theorem intD_i (i : Int) : intD [.int i] = .ok (.int i) := rfl
theorem intD_b (b : Bool) : intD [.bool b] = .ok (.int (if b then 1 else 0)) := by cases b <;> rfl
theorem asB_b (b : Bool) : asB (.bool b) = .ok b := rfl
theorem lt_ii (i j : Int) : ltD (.int i) (.int j) = .ok (.bool (decide (i < j))) := rfl
theorem le_ii (i j : Int) : leD (.int i) (.int j) = .ok (.bool (decide (i ≤ j))) := rfl
theorem gt_ii (i j : Int) : gtD (.int i) (.int j) = .ok (.bool (decide (j < i))) := rfl
theorem ge_ii (i j : Int) : geD (.int i) (.int j) = .ok (.bool (decide (j ≤ i))) := rfl
theorem eq_ii (i j : Int) : eqD (.int i) (.int j) = .ok (.bool (decide (i = j))) := if_pos (c := SeqAt.shaped (.int i) = true ∧ SeqAt.shaped (.int j) = true) (e := stk) ⟨rfl, rfl⟩
theorem ne_ii (i j : Int) : neD (.int i) (.int j) = .ok (.bool (!decide (i = j))) := if_pos (c := SeqAt.shaped (.int i) = true ∧ SeqAt.shaped (.int j) = true) (e := stk) ⟨rfl, rfl⟩
theorem asI_i (i : Int) : asI (.int i) = .ok i := rfl
theorem itL_l (ds : List D) : itL (.list ds) = .ok ds := rfl
theorem itT_t (ds : List D) : itT (.tuple ds) = .ok ds := rfl
theorem fnD_is (n : Nat) (f : List D → R D) (ds : List D) : fnD n f ds = if ds.length = n then f ds else stk := rfl
theorem tgN_is (i : Nat) (d : D) (ρ : Env') : tgN i d ρ = .ok (ρ.set i (some d)) := rfl
theorem min2_ii (i j : Int) : min2D [.int i, .int j] = .ok (.int (min i j)) := by
  show (.ok (.int (if j < i then j else i)) : R D) = _
  rw [show (if j < i then j else i) = min i j by split <;> omega]
theorem max2_ii (i j : Int) : max2D [.int i, .int j] = .ok (.int (max i j)) := by
  show (.ok (.int (if j > i then j else i)) : R D) = _
  rw [show (if j > i then j else i) = max i j by split <;> omega]
theorem abs_i (i : Int) : absD [.int i] = .ok (.int i.natAbs) := by
  show (.ok (.int (if i < 0 then -i else i)) : R D) = _
  rw [show (if i < 0 then -i else i) = (i.natAbs : Int) by split <;> omega]
theorem rg1_i {n : Int} (h : n.natAbs < 4611686018427387904) : rg1 [.int n] = .ok (rgD 0 n.toNat) := if_pos h
theorem rg2_i {m n : Int} (h : m.natAbs < 4611686018427387904 ∧ n.natAbs < 4611686018427387904) : rg2 [.int m, .int n] = .ok (rgD m (n - m).toNat) := if_pos h
theorem opt_s {α : Type} (a : α) : opt (some a) = .ok a := rfl
theorem ret_rt (fr : Bool) (d : D) : ret fr (.rt d) = .ok d := rfl
theorem retf_nx (ρ : Env') : ret false (.nx ρ) = .ok .none := rfl
theorem ix_li {ds : List D} {i : Int} {d : D} (h : atI ds i = some d) : ixD (.list ds) (.int i) = .ok d := by
  show (opt (atI ds i) : R D) = _
  rw [h]; rfl
theorem ix_ti {ds : List D} {i : Int} {d : D} (h : atI ds i = some d) : ixD (.tuple ds) (.int i) = .ok d := by
  show (opt (atI ds i) : R D) = _
  rw [h]; rfl
theorem ix_sc {ds : List D} {i : Int} {d : D} (h : atI ds i = some d) : ixD (.dict [(.none, .list ds), (.none, .none)]) (.int i) = .ok d := by
  show (opt (atI ds i) : R D) = _
  rw [h]; rfl
theorem app1 (zs : List Int) (a : Int) : zs.map PyData.int ++ [PyData.int a] = (zs ++ [a]).map PyData.int := by rw [List.map_append]; rfl
theorem app2 (zs : List Int) (a b : Int) : zs.map PyData.int ++ [PyData.int a, PyData.int b] = (zs ++ [a, b]).map PyData.int := by rw [List.map_append]; rfl
/-! ### loops -/
/-- it goes on, with q -/
def gN (r : R Out) (q : Env' → Prop) : Prop := ∃ ρ, r = .ok (.nx ρ) ∧ q ρ
theorem gN_ok {ρ : Env'} {q : Env' → Prop} : gN (.ok (.nx ρ)) q ↔ q ρ := ⟨fun ⟨_, e, h⟩ => by cases e; exact h, fun h => ⟨ρ, rfl, h⟩⟩
/-- it ends so -/
def gO (r : R Out) (q : Out → Prop) : Prop := ∃ o, r = .ok o ∧ q o
theorem gO_ok {o : Out} {q : Out → Prop} : gO (.ok o) q ↔ q o := ⟨fun ⟨_, e, h⟩ => by cases e; exact h, fun h => ⟨o, rfl, h⟩⟩
theorem for_is (tg : D → Env' → R Env') (fb : Env' → R Out) (d : D) (ds : List D) (ρ : Env') : forD tg fb (d :: ds) ρ = ((tg d ρ >>= fb) >>= fun o => match o with
      | .nx ρ2 => forD tg fb ds ρ2
      | .rt r => .ok (.rt r)) := by
  show (tg d ρ >>= fun ρ1 => fb ρ1 >>= fun o => _) = _
  cases tg d ρ with
  | ok ρ1 => rfl
  | error e => rfl
theorem for_nil (tg : D → Env' → R Env') (fb : Env' → R Out) (ρ : Env') : forD tg fb [] ρ = .ok (.nx ρ) := rfl
theorem for_rel {tg : D → Env' → R Env'} {fb : Env' → R Out} (I : Nat → Env' → Prop) : ∀ (ds : List D) (k : Nat) (ρ : Env'), I k ρ → (∀ i d ρ, ds[i]? = some d → I (k + i) ρ → gN (tg d ρ >>= fb) (I (k + i + 1))) →
    gN (forD tg fb ds ρ) (I (k + ds.length))
  | [], k, ρ, h, _ => ⟨ρ, rfl, h⟩
  | d :: ds, k, ρ, h, hs => by
    obtain ⟨ρ2, e2, h2⟩ := hs 0 d ρ rfl h
    have := for_rel I ds (k + 1) ρ2 h2 fun i d ρ e q => by
      have := hs (i + 1) d ρ e (by rw [show k + (i + 1) = k + 1 + i by omega]; exact q)
      rw [show k + (i + 1) + 1 = k + 1 + i + 1 by omega] at this
      exact this
    rw [for_is, e2, okb, List.length_cons, show k + (ds.length + 1) = k + 1 + ds.length by omega]
    exact this
/-- with a way out: each turn goes on, or ends all with q -/
theorem for_out {tg : D → Env' → R Env'} {fb : Env' → R Out} (I : Nat → Env' → Prop) (q : Out → Prop) : ∀ (ds : List D) (k : Nat) (ρ : Env'), I k ρ → (∀ i d ρ, ds[i]? = some d → I (k + i) ρ → gO (tg d ρ >>= fb) (fun o => match o with | .nx ρ' => I (k + i + 1) ρ' | .rt r => q (.rt r))) → (∀ ρ, I (k + ds.length) ρ → q (.nx ρ)) →
    gO (forD tg fb ds ρ) q
  | [], k, ρ, h, _, hq => ⟨_, rfl, hq ρ h⟩
  | d :: ds, k, ρ, h, hs, hq => by
    obtain ⟨o, e2, h2⟩ := hs 0 d ρ rfl h
    rw [for_is, e2, okb]
    cases o with
    | rt r => exact ⟨_, rfl, h2⟩
    | nx ρ2 =>
      refine for_out I q ds (k + 1) ρ2 h2 (fun i d ρ e q => ?_) fun ρ h => hq ρ (by rw [List.length_cons, show k + (ds.length + 1) = k + 1 + ds.length by omega]; exact h)
      have := hs (i + 1) d ρ e (by rw [show k + (i + 1) = k + 1 + i by omega]; exact q)
      rw [show k + (i + 1) + 1 = k + 1 + i + 1 by omega] at this
      exact this
theorem rg_at {lo : Int} {n i : Nat} {d : D} (h : (rgD lo n)[i]? = some d) : i < n ∧ d = .int (lo + i) := by
  unfold rgD at h
  rw [List.getElem?_map] at h
  by_cases hi : i < n
  · rw [List.getElem?_range hi] at h
    cases h
    exact ⟨hi, rfl⟩
  · rw [List.getElem?_eq_none (by rw [List.length_range]; omega)] at h
    cases h
theorem rg_len (lo : Int) (n : Nat) : (rgD lo n).length = n := by
  unfold rgD; rw [List.length_map, List.length_range]
end Vs

set_option Elab.async false
set_option linter.all false
set_option maxRecDepth 100000
namespace Vs
open PySem PySem.Spec PyProof.Rows L2
def scr (ns : List Int) : D := .dict [(.none, .list (ns.map .int)), (.none, .none)]
theorem mix_ok {zs : List Int} {k many : Int} (hk : 0 ≤ k) (hm : 0 < many) : ∃ r : Int, 0 ≤ r ∧ r < many ∧ f_mix [.list (zs.map .int), .int k, .int many] = .ok (.int r) := by
  have hmod : ∀ v : Int, 0 ≤ v % many ∧ v % many < many := fun v => ⟨Int.emod_nonneg _ (by omega), Int.emod_lt_of_pos _ hm⟩
  have key : ∀ v : Int, (zs.length = 0 → v = 0) → (0 < zs.length → zs[(k % zs.length).toNat]? = some v) → f_mix [.list (zs.map .int), .int k, .int many] = .ok (.int (if k < zs.length then v % many else (v * 7919 + k * 104729) / 3 % many)) := by
    intro v h0 h1
    unfold f_mix m_mix
    by_cases hz : 0 < zs.length
    · have hz' : (0 : Int) < zs.length := by omega
      have hat : atI (zs.map PyData.int) (k % zs.length) = some (.int v) := by
        have h2 := h1 hz
        have h3 : k % zs.length = ((k % zs.length).toNat : Int) := (Int.toNat_of_nonneg (Int.emod_nonneg _ (by omega))).symm
        rw [h3]
        refine L2.atI_nat ?_
        rw [List.getElem?_map, h2]
        rfl
      by_cases hk2 : k < zs.length
      · simp -implicitDefEqProofs only [app1, app2, gN_ok, gO_ok, arg0, seq_eq, okb, setD, gv, gl_is, List.map_cons, List.map_nil, List.length_cons, List.length_nil, List.replicate, List.cons_append, List.nil_append, List.set_cons_succ, List.set_cons_zero, List.getElem?_cons_succ, List.getElem?_cons_zero, add_ii, sub_ii, mul_r, mul_l, mod_i, fdiv_i, lenD_l, lenD_t, lenD_scr, asStr_is, intD_i, intD_b, asB_b, lt_ii, le_ii, gt_ii, ge_ii, eq_ii, ne_ii, asI_i, itL_l, itT_t, noX_ok, fnD_is, ite_true, ite_false, Bool.false_eq_true, decide_true, decide_false, Nat.reduceAdd, Nat.reduceSub, reduceIte, tgN_is, min2_ii, max2_ii, abs_i, rg1_i, rg2_i, opt_s, ret_rt, retf_nx, and_self, true_and, and_true, or_true, true_or, not_true_eq_false, not_false_eq_true, Bool.not_true, Bool.not_false, Int.reduceLT, Int.reduceLE, Int.reduceNeg, Int.reducePow, Int.reduceAdd, Int.reduceSub, Int.reduceMul, Int.reduceMod, Int.reduceDiv, Int.reduceEq, Int.reduceNe, Nat.reduceLT, Nat.reduceLeDiff, Nat.reduceMul, Nat.reduceEqDiff, Int.reduceToNat, Int.reduceAbs, Int.natAbs_natCast, ix_li hat, List.length_map, hz', hk2, hm]
      · simp -implicitDefEqProofs only [app1, app2, gN_ok, gO_ok, arg0, seq_eq, okb, setD, gv, gl_is, List.map_cons, List.map_nil, List.length_cons, List.length_nil, List.replicate, List.cons_append, List.nil_append, List.set_cons_succ, List.set_cons_zero, List.getElem?_cons_succ, List.getElem?_cons_zero, add_ii, sub_ii, mul_r, mul_l, mod_i, fdiv_i, lenD_l, lenD_t, lenD_scr, asStr_is, intD_i, intD_b, asB_b, lt_ii, le_ii, gt_ii, ge_ii, eq_ii, ne_ii, asI_i, itL_l, itT_t, noX_ok, fnD_is, ite_true, ite_false, Bool.false_eq_true, decide_true, decide_false, Nat.reduceAdd, Nat.reduceSub, reduceIte, tgN_is, min2_ii, max2_ii, abs_i, rg1_i, rg2_i, opt_s, ret_rt, retf_nx, and_self, true_and, and_true, or_true, true_or, not_true_eq_false, not_false_eq_true, Bool.not_true, Bool.not_false, Int.reduceLT, Int.reduceLE, Int.reduceNeg, Int.reducePow, Int.reduceAdd, Int.reduceSub, Int.reduceMul, Int.reduceMod, Int.reduceDiv, Int.reduceEq, Int.reduceNe, Nat.reduceLT, Nat.reduceLeDiff, Nat.reduceMul, Nat.reduceEqDiff, Int.reduceToNat, Int.reduceAbs, Int.natAbs_natCast, ix_li hat, List.length_map, hz', hk2, hm]
    · have hz' : ¬ (0 : Int) < zs.length := by omega
      have hv := h0 (by omega)
      subst hv
      have hk2 : ¬ k < zs.length := by omega
      simp -implicitDefEqProofs only [app1, app2, gN_ok, gO_ok, arg0, seq_eq, okb, setD, gv, gl_is, List.map_cons, List.map_nil, List.length_cons, List.length_nil, List.replicate, List.cons_append, List.nil_append, List.set_cons_succ, List.set_cons_zero, List.getElem?_cons_succ, List.getElem?_cons_zero, add_ii, sub_ii, mul_r, mul_l, mod_i, fdiv_i, lenD_l, lenD_t, lenD_scr, asStr_is, intD_i, intD_b, asB_b, lt_ii, le_ii, gt_ii, ge_ii, eq_ii, ne_ii, asI_i, itL_l, itT_t, noX_ok, fnD_is, ite_true, ite_false, Bool.false_eq_true, decide_true, decide_false, Nat.reduceAdd, Nat.reduceSub, reduceIte, tgN_is, min2_ii, max2_ii, abs_i, rg1_i, rg2_i, opt_s, ret_rt, retf_nx, and_self, true_and, and_true, or_true, true_or, not_true_eq_false, not_false_eq_true, Bool.not_true, Bool.not_false, Int.reduceLT, Int.reduceLE, Int.reduceNeg, Int.reducePow, Int.reduceAdd, Int.reduceSub, Int.reduceMul, Int.reduceMod, Int.reduceDiv, Int.reduceEq, Int.reduceNe, Nat.reduceLT, Nat.reduceLeDiff, Nat.reduceMul, Nat.reduceEqDiff, Int.reduceToNat, Int.reduceAbs, Int.natAbs_natCast, List.length_map, hz', hk2, hm]
  by_cases hz : 0 < zs.length
  · have hlt : (k % zs.length).toNat < zs.length := by
      have := Int.emod_lt_of_pos k (show (0 : Int) < zs.length by omega)
      have := Int.emod_nonneg k (show (zs.length : Int) ≠ 0 by omega)
      omega
    refine ⟨_, ?_, ?_, key zs[(k % zs.length).toNat] (fun h => by omega) fun _ => List.getElem?_eq_getElem hlt⟩
    · split <;> exact (hmod _).1
    · split <;> exact (hmod _).2
  · refine ⟨_, ?_, ?_, key 0 (fun _ => rfl) fun h => absurd h hz⟩
    · split <;> exact (hmod _).1
    · split <;> exact (hmod _).2
theorem b0_ok {S : D} {zs : List Int} {r : Int} {a2 a4 a5 : Option D} (hz : zs.length ≤ 100000) :
    gN (forD (tgN 4) m_draws_b0 (rgD 0 60) [some S, some (.list (zs.map .int)), a2, some (.int r), a4, a5]) fun ρ => ∃ (zs' : List Int) (r' : Int) (a4' : Option D), zs'.length ≤ zs.length + 60 ∧ ρ = [some S, some (.list (zs'.map .int)), a2, some (.int r'), a4', a5] := by
  have := for_rel (tg := tgN 4) (fb := m_draws_b0)
    (fun i ρ => ∃ (zs' : List Int) (r' : Int) (a4' : Option D), zs'.length ≤ zs.length + i ∧ ρ = [some S, some (.list (zs'.map .int)), a2, some (.int r'), a4', a5]) (rgD 0 60) 0 _ ⟨zs, r, a4, by omega, rfl⟩ fun i d ρ hd hI => by
      obtain ⟨hi, rfl⟩ := rg_at hd
      obtain ⟨zs', r', a4', hl, rfl⟩ := hI
      by_cases hr : 0 < r'
      · have hs : (zs'.map PyData.int).length < 16777216 := by rw [List.length_map]; omega
        simp -implicitDefEqProofs only [app1, app2, gN_ok, gO_ok, arg0, seq_eq, okb, setD, gv, gl_is, List.map_cons, List.map_nil, List.length_cons, List.length_nil, List.replicate, List.cons_append, List.nil_append, List.set_cons_succ, List.set_cons_zero, List.getElem?_cons_succ, List.getElem?_cons_zero, add_ii, sub_ii, mul_r, mul_l, mod_i, fdiv_i, lenD_l, lenD_t, lenD_scr, asStr_is, intD_i, intD_b, asB_b, lt_ii, le_ii, gt_ii, ge_ii, eq_ii, ne_ii, asI_i, itL_l, itT_t, noX_ok, fnD_is, ite_true, ite_false, Bool.false_eq_true, decide_true, decide_false, Nat.reduceAdd, Nat.reduceSub, reduceIte, tgN_is, min2_ii, max2_ii, abs_i, rg1_i, rg2_i, opt_s, ret_rt, retf_nx, and_self, true_and, and_true, or_true, true_or, not_true_eq_false, not_false_eq_true, Bool.not_true, Bool.not_false, Int.reduceLT, Int.reduceLE, Int.reduceNeg, Int.reducePow, Int.reduceAdd, Int.reduceSub, Int.reduceMul, Int.reduceMod, Int.reduceDiv, Int.reduceEq, Int.reduceNe, Nat.reduceLT, Nat.reduceLeDiff, Nat.reduceMul, Nat.reduceEqDiff, Int.reduceToNat, Int.reduceAbs, Int.natAbs_natCast, m_draws_b0, hr, apD, hs]
        exact ⟨_, _, _, by rw [List.length_append]; simp only [List.length_singleton]; omega, rfl⟩
      · simp -implicitDefEqProofs only [app1, app2, gN_ok, gO_ok, arg0, seq_eq, okb, setD, gv, gl_is, List.map_cons, List.map_nil, List.length_cons, List.length_nil, List.replicate, List.cons_append, List.nil_append, List.set_cons_succ, List.set_cons_zero, List.getElem?_cons_succ, List.getElem?_cons_zero, add_ii, sub_ii, mul_r, mul_l, mod_i, fdiv_i, lenD_l, lenD_t, lenD_scr, asStr_is, intD_i, intD_b, asB_b, lt_ii, le_ii, gt_ii, ge_ii, eq_ii, ne_ii, asI_i, itL_l, itT_t, noX_ok, fnD_is, ite_true, ite_false, Bool.false_eq_true, decide_true, decide_false, Nat.reduceAdd, Nat.reduceSub, reduceIte, tgN_is, min2_ii, max2_ii, abs_i, rg1_i, rg2_i, opt_s, ret_rt, retf_nx, and_self, true_and, and_true, or_true, true_or, not_true_eq_false, not_false_eq_true, Bool.not_true, Bool.not_false, Int.reduceLT, Int.reduceLE, Int.reduceNeg, Int.reducePow, Int.reduceAdd, Int.reduceSub, Int.reduceMul, Int.reduceMod, Int.reduceDiv, Int.reduceEq, Int.reduceNe, Nat.reduceLT, Nat.reduceLeDiff, Nat.reduceMul, Nat.reduceEqDiff, Int.reduceToNat, Int.reduceAbs, Int.natAbs_natCast, m_draws_b0, hr]
        exact ⟨zs', r', _, by omega, rfl⟩
  rw [rg_len] at this
  exact this
theorem pow_ii {i j : Int} (h : 0 ≤ j ∧ j ≤ 1000000 ∧ i.natAbs < 18446744073709551616) : powI (.int i) (.int j) = .ok (.int (i ^ j.toNat)) := by
  show (if _ then _ else _ : R D) = _
  exact if_pos h
theorem h1 : (0 : Int) ≤ 18 ∧ (18 : Int) ≤ 1000000 ∧ (10 : Int).natAbs < 18446744073709551616 := ⟨by decide, by decide, by decide⟩
theorem b1_a {T : Int} (hT : powI (.int 10) (.int 18) = .ok (.int T)) {ns zs : List Int} {i : Nat} {a2 a3 a4 a5 : Option D} (hl : zs.length ≤ 60 * (0 + i)) (hi2 : i < ns.length) (hi3 : i < 63) (hb : T ≤ (ns[i].natAbs : Int)) : gN (m_draws_b1 [some (scr ns), some (.list (zs.map .int)), some (.int (0 + i)), a3, a4, a5]) fun ρ => ∃ (zs : List Int) (a2 a3 a4 a5 : Option D), zs.length ≤ 60 * (0 + i + 1) ∧ ρ = [some (scr ns), some (.list (zs.map .int)), a2, a3, a4, a5] := by
  have hat : atI (ns.map PyData.int) (0 + (i : Int)) = some (.int ns[i]) := by
    rw [Int.zero_add]
    refine L2.atI_nat ?_
    rw [List.getElem?_map, List.getElem?_eq_getElem hi2]
    rfl
  obtain ⟨ρ', e3, zs', r', a4', e4, rfl⟩ := b0_ok (S := scr ns) (zs := zs) (r := (ns[i].natAbs : Int)) (a2 := some (.int (0 + i))) (a4 := a4) (a5 := a5) (by clear hb; omega)
  unfold scr at e3 ⊢
  simp -implicitDefEqProofs only [app1, app2, gN_ok, gO_ok, arg0, seq_eq, okb, setD, gv, gl_is, List.map_cons, List.map_nil, List.length_cons, List.length_nil, List.replicate, List.cons_append, List.nil_append, List.set_cons_succ, List.set_cons_zero, List.getElem?_cons_succ, List.getElem?_cons_zero, add_ii, sub_ii, mul_r, mul_l, mod_i, fdiv_i, lenD_l, lenD_t, lenD_scr, asStr_is, intD_i, intD_b, asB_b, lt_ii, le_ii, gt_ii, ge_ii, eq_ii, ne_ii, asI_i, itL_l, itT_t, noX_ok, fnD_is, ite_true, ite_false, Bool.false_eq_true, decide_true, decide_false, Nat.reduceAdd, Nat.reduceSub, reduceIte, tgN_is, min2_ii, max2_ii, abs_i, rg1_i, rg2_i, opt_s, ret_rt, retf_nx, and_self, true_and, and_true, or_true, true_or, not_true_eq_false, not_false_eq_true, Bool.not_true, Bool.not_false, Int.reduceLT, Int.reduceLE, Int.reduceNeg, Int.reducePow, Int.reduceAdd, Int.reduceSub, Int.reduceMul, Int.reduceMod, Int.reduceDiv, Int.reduceEq, Int.reduceNe, Nat.reduceLT, Nat.reduceLeDiff, Nat.reduceMul, Nat.reduceEqDiff, Int.reduceToNat, Int.reduceAbs, Int.natAbs_natCast, m_draws_b1, ix_sc hat, hT, hb, e3]
  exact ⟨zs', _, _, _, _, by clear hb; omega, rfl⟩
theorem b1_b {T : Int} (hT : powI (.int 10) (.int 18) = .ok (.int T)) {ns zs : List Int} {i : Nat} {a2 a3 a4 a5 : Option D} (hl : zs.length ≤ 60 * (0 + i)) (hi2 : i < ns.length) (hi3 : i < 63) (hb : ¬ T ≤ (ns[i].natAbs : Int)) : gN (m_draws_b1 [some (scr ns), some (.list (zs.map .int)), some (.int (0 + i)), a3, a4, a5]) fun ρ => ∃ (zs : List Int) (a2 a3 a4 a5 : Option D), zs.length ≤ 60 * (0 + i + 1) ∧ ρ = [some (scr ns), some (.list (zs.map .int)), a2, a3, a4, a5] := by
  have hat : atI (ns.map PyData.int) (0 + (i : Int)) = some (.int ns[i]) := by
    rw [Int.zero_add]
    refine L2.atI_nat ?_
    rw [List.getElem?_map, List.getElem?_eq_getElem hi2]
    rfl
  have hs1 : zs.length < 16777216 := by clear hb; omega
  have hs2 : zs.length + 1 < 16777216 := by clear hb; omega
  unfold scr
  simp -implicitDefEqProofs only [app1, app2, gN_ok, gO_ok, arg0, seq_eq, okb, setD, gv, gl_is, List.map_cons, List.map_nil, List.length_cons, List.length_nil, List.replicate, List.cons_append, List.nil_append, List.set_cons_succ, List.set_cons_zero, List.getElem?_cons_succ, List.getElem?_cons_zero, add_ii, sub_ii, mul_r, mul_l, mod_i, fdiv_i, lenD_l, lenD_t, lenD_scr, asStr_is, intD_i, intD_b, asB_b, lt_ii, le_ii, gt_ii, ge_ii, eq_ii, ne_ii, asI_i, itL_l, itT_t, noX_ok, fnD_is, ite_true, ite_false, Bool.false_eq_true, decide_true, decide_false, Nat.reduceAdd, Nat.reduceSub, reduceIte, tgN_is, min2_ii, max2_ii, abs_i, rg1_i, rg2_i, opt_s, ret_rt, retf_nx, and_self, true_and, and_true, or_true, true_or, not_true_eq_false, not_false_eq_true, Bool.not_true, Bool.not_false, Int.reduceLT, Int.reduceLE, Int.reduceNeg, Int.reducePow, Int.reduceAdd, Int.reduceSub, Int.reduceMul, Int.reduceMod, Int.reduceDiv, Int.reduceEq, Int.reduceNe, Nat.reduceLT, Nat.reduceLeDiff, Nat.reduceMul, Nat.reduceEqDiff, Int.reduceToNat, Int.reduceAbs, Int.natAbs_natCast, m_draws_b1, ix_sc hat, hT, hb, apD, hs1, hs2, List.length_map, List.length_append, List.append_assoc]
  exact ⟨_, _, _, _, _, by rw [List.length_append]; simp only [List.length_cons, List.length_nil]; clear hb; omega, rfl⟩
theorem draws_ok (ns : List Int) : ∃ zs : List Int, f_draws [scr ns] = .ok (.list (zs.map .int)) := by
  obtain ⟨T, hT⟩ : ∃ T, powI (.int 10) (.int 18) = .ok (.int T) := ⟨_, pow_ii ⟨by decide, by decide, by decide⟩⟩
  obtain ⟨ρ, e1, zs, a2, a3, a4, a5, e2, rfl⟩ := for_rel (tg := tgN 2) (fb := m_draws_b1)
    (fun i ρ => ∃ (zs : List Int) (a2 a3 a4 a5 : Option D), zs.length ≤ 60 * i ∧ ρ = [some (scr ns), some (.list (zs.map .int)), a2, a3, a4, a5]) (rgD 0 (min 63 ns.length)) 0 [some (scr ns), some (.list []), none, none, none, none] ⟨[], none, none, none, none, by decide, rfl⟩ fun i d ρ hd hI => by
      obtain ⟨hi, rfl⟩ := rg_at hd
      obtain ⟨zs, a2, a3, a4, a5, hl, rfl⟩ := hI
      have hi2 : i < ns.length := by omega
      rw [tgN_is, okb]
      by_cases hb : T ≤ (ns[i].natAbs : Int)
      · exact b1_a hT (a2 := a2) hl hi2 (by omega) hb
      · exact b1_b hT (a2 := a2) hl hi2 (by omega) hb
  have hm : (min 63 (ns.length : Int)).toNat = min 63 ns.length := by omega
  have hr : (min 63 (ns.length : Int)).natAbs < 4611686018427387904 := by omega
  have h0 : lenOk 0 = .ok () := lenOk_i (by decide)
  unfold f_draws m_draws
  unfold scr at e1 ⊢
  refine ⟨zs, ?_⟩
  simp -implicitDefEqProofs only [app1, app2, gN_ok, gO_ok, arg0, seq_eq, okb, setD, gv, gl_is, List.map_cons, List.map_nil, List.length_cons, List.length_nil, List.replicate, List.cons_append, List.nil_append, List.set_cons_succ, List.set_cons_zero, List.getElem?_cons_succ, List.getElem?_cons_zero, add_ii, sub_ii, mul_r, mul_l, mod_i, fdiv_i, lenD_l, lenD_t, lenD_scr, asStr_is, intD_i, intD_b, asB_b, lt_ii, le_ii, gt_ii, ge_ii, eq_ii, ne_ii, asI_i, itL_l, itT_t, noX_ok, fnD_is, ite_true, ite_false, Bool.false_eq_true, decide_true, decide_false, Nat.reduceAdd, Nat.reduceSub, reduceIte, tgN_is, min2_ii, max2_ii, abs_i, rg1_i, rg2_i, opt_s, ret_rt, retf_nx, and_self, true_and, and_true, or_true, true_or, not_true_eq_false, not_false_eq_true, Bool.not_true, Bool.not_false, Int.reduceLT, Int.reduceLE, Int.reduceNeg, Int.reducePow, Int.reduceAdd, Int.reduceSub, Int.reduceMul, Int.reduceMod, Int.reduceDiv, Int.reduceEq, Int.reduceNe, Nat.reduceLT, Nat.reduceLeDiff, Nat.reduceMul, Nat.reduceEqDiff, Int.reduceToNat, Int.reduceAbs, Int.natAbs_natCast, h0, List.length_map, rg1_i hr, hm, e1]
end Vs

set_option Elab.async false
set_option linter.all false
set_option maxRecDepth 100000
/-! The plain side: texts as lists of signs, comprehensions, tests. -/
namespace Vs
open PySem PySem.Spec PyProof.Rows L2

/-! ### texts -/
theorem tx_cps (l : List Nat) : (tx l).cps.toList = l := rfl
theorem tx_len (l : List Nat) : (tx l).length = l.length := by
  show l.toArray.size = _
  exact List.size_toArray
theorem tx_inj {l m : List Nat} : tx l = tx m ↔ l = m := ⟨fun h => by have := congrArg (fun x : Str => x.cps.toList) h; exact this, fun h => h ▸ rfl⟩
theorem tx_app (l m : List Nat) : tx l ++ tx m = tx (l ++ m) := by
  show (⟨l.toArray ++ m.toArray⟩ : Str) = ⟨(l ++ m).toArray⟩
  rw [List.append_toArray]
theorem tx_one (c : Nat) : (⟨#[c]⟩ : Str) = tx [c] := rfl
theorem tx_nil : Str.empty = tx [] := rfl
theorem count_tx (l : List Nat) (c : Nat) : Txt.count (tx l) (tx [c]) = (l.count c : Int) := by
  rw [← tx_one, PyProof.Rows.count_is, tx_cps]
  show PyProof.Rows.cnt c l = _
  induction l with
  | nil => rfl
  | cons n r ih =>
    rw [PyProof.Rows.cnt_cons, ih, List.count_cons]
    by_cases e : n = c
    · subst e; simp; omega
    · rw [if_neg e, if_neg (by simpa using e)]; simp
theorem join_tx : ∀ ls : List (List Nat), Str.join (tx []) (ls.map tx) = tx ls.flatten
  | [] => rfl
  | [l] => by simp [Str.join]
  | l :: m :: r => by
    have ih := join_tx (m :: r)
    show tx l ++ tx [] ++ Str.join (tx []) ((m :: r).map tx) = _
    rw [ih, tx_app, tx_app, List.append_nil]
    rfl
theorem add_ss {x y : Str} (h : x.length + y.length ≤ 16777216) : addD (.str x) (.str y) = .ok (.str (x ++ y)) := if_pos h
theorem add_tx {l m : List Nat} (h : l.length + m.length ≤ 16777216) : addD (.str (tx l)) (.str (tx m)) = .ok (.str (tx (l ++ m))) := by
  rw [add_ss (by rw [tx_len, tx_len]; exact h), tx_app]
theorem len_tx {l : List Nat} (h : l.length ≤ 16777216) : lenD [.str (tx l)] = .ok (.int l.length) := by
  rw [lenD_s (by rw [tx_len]; exact h), tx_len]
theorem ix_tx {l : List Nat} {i : Int} {c : Nat} (h : l.length ≤ 16777216) (hc : atI l i = some c) : ixD (.str (tx l)) (.int i) = .ok (.str (tx [c])) := by
  show (lenOk (tx l).length >>= fun _ => opt (atI l i) >>= fun c => .ok (.str ⟨#[c]⟩) : R D) = _
  rw [lenOk_i (by rw [tx_len]; exact h), okb, hc]
  rfl
theorem dec_tx (l m : List Nat) : decide (tx l = tx m) = decide (l = m) := decide_eq_decide.mpr tx_inj
theorem eq_tx (l m : List Nat) : eqD (.str (tx l)) (.str (tx m)) = .ok (.bool (decide (l = m))) := by
  show (.ok (.bool (decide (tx l = tx m))) : R D) = _
  rw [dec_tx]
theorem ne_tx (l m : List Nat) : neD (.str (tx l)) (.str (tx m)) = .ok (.bool (!decide (l = m))) := by
  show (.ok (.bool (!decide (tx l = tx m))) : R D) = _
  rw [dec_tx]
theorem it_tx (l : List Nat) : itS (.str (tx l)) = .ok (l.map fun c => .str (tx [c])) := rfl
theorem in_tx (c : Nat) (l : List Nat) : inD (.str (tx [c])) (.str (tx l)) = .ok (.bool (decide (c ∈ l))) := rfl
theorem cnt_tx (l : List Nat) (c : Nat) : countD (.str (tx l)) (.str (tx [c])) = .ok (.int (l.count c)) := by
  show (.ok (.int (Txt.count (tx l) (tx [c]))) : R D) = _
  rw [count_tx]

/-! ### comprehensions -/
theorem lc_is (tg : D → Env' → R Env') (ft : Env' → R Bool) (fe : Env' → R D) (ρ : Env') (d : D) (ds : List D) : lcD tg ft fe ρ (d :: ds) = (tg d ρ >>= fun ρ1 => ft ρ1 >>= fun b => if b then fe ρ1 >>= fun y => lcD tg ft fe ρ ds >>= fun ys => .ok (y :: ys) else lcD tg ft fe ρ ds) := rfl
theorem lc_map {tg : D → Env' → R Env'} {fe : Env' → R D} {ρ : Env'} (g : D → D) : ∀ ds : List D, (∀ d ∈ ds, (tg d ρ >>= fe) = .ok (g d)) → lcD tg (fun _ => .ok true) fe ρ ds = .ok (ds.map g)
  | [], _ => rfl
  | d :: ds, h => by
    have h1 := h d List.mem_cons_self
    rw [lc_is]
    cases e : tg d ρ with
    | error z => rw [e] at h1; cases h1
    | ok ρ1 =>
      rw [e, okb] at h1
      rw [okb, okb, if_pos rfl, h1, okb, lc_map g ds fun d hd => h d (List.mem_cons_of_mem _ hd), okb]
      rfl
/-- with a test -/
theorem lc_filter {tg : D → Env' → R Env'} {ft : Env' → R Bool} {fe : Env' → R D} {ρ : Env'} (p : D → Bool) (g : D → D) : ∀ ds : List D, (∀ d ∈ ds, (tg d ρ >>= ft) = .ok (p d) ∧ (p d = true → (tg d ρ >>= fe) = .ok (g d))) → lcD tg ft fe ρ ds = .ok ((ds.filter p).map g)
  | [], _ => rfl
  | d :: ds, h => by
    have h1 := h d List.mem_cons_self
    rw [lc_is]
    cases e : tg d ρ with
    | error z => rw [e] at h1; cases h1.1
    | ok ρ1 =>
      rw [e, okb, okb] at h1
      rw [okb, h1.1, okb]
      have ih := lc_filter p g ds fun d hd => h d (List.mem_cons_of_mem _ hd)
      cases hp : p d with
      | true =>
        rw [if_pos rfl, h1.2 hp, okb, ih, okb, List.filter_cons_of_pos hp]
        rfl
      | false =>
        rw [if_neg Bool.false_ne_true, ih, List.filter_cons_of_neg (by rw [hp]; exact Bool.false_ne_true)]
theorem comp_is (vs : List Nat) (fi : Env' → R (List D)) (tg : D → Env' → R Env') (ft : Env' → R Bool) (fe : Env' → R D) (ρ : Env') : compD vs fi tg ft fe ρ = (fi ρ >>= fun ds => lenOk ds.length >>= fun _ => noX (lcD tg ft fe (wipeD ρ vs) ds) >>= fun ys => .ok (.list ys)) := rfl
theorem all_bl (bs : List Bool) : allD [.list (bs.map .bool)] = .ok (.bool (bs.all id)) := by
  show (opt (bls? (bs.map .bool)) >>= fun bs => .ok (.bool (bs.all id)) : R D) = _
  rw [bls_map]; rfl
theorem any_bl (bs : List Bool) : anyD [.list (bs.map .bool)] = .ok (.bool (bs.any id)) := by
  show (opt (bls? (bs.map .bool)) >>= fun bs => .ok (.bool (bs.any id)) : R D) = _
  rw [bls_map]; rfl
theorem sum_in (ns : List Int) : sumD [.list (ns.map .int)] = .ok (.int ns.sum) := by
  show (opt (ints? (ns.map .int)) >>= fun ns => .ok (.int ns.sum) : R D) = _
  rw [ints_map]; rfl
/-! ### loops that look -/
theorem wh_is (fw : Env' → R Bool) (fb : Env' → R Out) (n : Nat) (ρ : Env') : whileD fw fb (n + 1) ρ = (fw ρ >>= fun c => if c then fb ρ >>= fun o => match o with
      | .nx ρ2 => whileD fw fb n ρ2
      | .rt r => .ok (.rt r)
    else .ok (.nx ρ)) := rfl
theorem wh_rel {fw : Env' → R Bool} {fb : Env' → R Out} (I : Nat → Env' → Prop) (m : Nat) (hs : ∀ j ρ, j < m → I j ρ → fw ρ = .ok true ∧ gN (fb ρ) (I (j + 1))) (he : ∀ ρ, I m ρ → fw ρ = .ok false) : ∀ (k j : Nat) (ρ : Env'), j + k = m → I j ρ → ∀ n, k < n → gN (whileD fw fb n ρ) (I m)
  | 0, j, ρ, e, h, n + 1, _ => by
    obtain rfl : j = m := by omega
    rw [wh_is, he ρ h, okb, if_neg Bool.false_ne_true]
    exact gN_ok.mpr h
  | k + 1, j, ρ, e, h, n + 1, hn => by
    obtain ⟨h1, ρ2, h2, h3⟩ := hs j ρ (by omega) h
    rw [wh_is, h1, okb, if_pos rfl, h2, okb]
    exact wh_rel I m hs he k (j + 1) ρ2 (by omega) h3 n (by omega)
  | 0, _, _, _, _, 0, hn => absurd hn (by omega)
  | k + 1, _, _, _, _, 0, hn => absurd hn (by omega)
end Vs

set_option Elab.async false
set_option linter.all false
set_option maxRecDepth 100000
/-! extend, [::-1]. -/
namespace Vs
open PySem PySem.Spec PyProof.Rows L2
section
variable {X : Cx}
def rExtR : V → List V → Hp → VK → Prop := fun x vs H Q => ∃ l b xs zs, x = .ref l ∧ vs = [.ref b] ∧ H l = some (.lst xs) ∧ Rd H b (.lst zs) ∧ xs.length + zs.length ≤ sizeLine ∧ Q .non (upd H l (.lst (xs ++ zs)))
theorem mt_extR : MtM X "list.extend" rExtR := by
  intro pins s σ H x vs v us Q I rx rv h
  obtain ⟨l, b, xs, zs, rfl, rfl, hl, hb, hz, q⟩ := h
  cases rx
  obtain ⟨u, rfl, ru⟩ := rv.one
  cases ru
  obtain ⟨_, as, m, r1, l1, at1⟩ := I.lstM hl
  obtain ⟨_, bs, k, r2, at2⟩ := lst_at I hb
  have n2 := r2.length
  have both : as.toArray.size + bs.toArray.size ≤ sizeLine := by rw [List.size_toArray, List.size_toArray]; omega
  have no : ¬ (!as.toArray.isEmpty && Builtin.List.listTooLong (as.toArray.size + bs.toArray.size)) = true := by
    rw [notLongL both, Bool.and_false]; exact Bool.false_ne_true
  refine call_meets PySem.F.slot_list_extend ⟨_, at1, rfl⟩ PySem.F.entry_list_extend (PySem.F.args_list_extend_2 _ _)
    (AutoSeq1.list_extend_list_list_0 l as.toArray m b bs.toArray k no (by rw [List.size_toArray]; omega) (by omega)) ⟨at1, at2, ?_⟩
  exact ⟨.non, _, I.lset (its' := as ++ bs) hl at1 (by simp) (r1.append r2) (by rw [List.length_append]; omega), rfl, q⟩
variable {a : Expr} {pos p apos cpos : Pos} {e : Nat → D → Prop} {O : List Nat} {fr : Bool} {fa : Env' → R D}
theorem s_ext (i : Nat) {x : Str} (h : PE X a (tV X.w X.K e O fa)) (hi : i ∈ O := by decide) (hN : X.N[i]? = some x := by rfl) (hv : Vis X.env.scope x := by first | exact Or.inl rfl | exact Or.inr (Or.inl rfl) | exact Or.inr (Or.inr rfl)) (hd : (x == ("__debug__" : Str)) = false := by decide) (hc : (x == ("__classdict__" : Str)) = false := by decide)
    (hbase : attributeBase (.Name x p) "extend" X.env (eval (.Name x p) X.env) = eval (.Name x p) X.env := by rfl)
    (hfew : ((backTo cpos (starEach [a] X.env)).all (fun x => !x.1) && (backToKw cpos (keywordEach [] X.env)).all (fun x => x.1.isSome) && decide ([a].length + ([] : List Keyword).length + (if ([] : List Keyword).isEmpty then 0 else 1) < 30)) = true := by rfl)
    (hline : (apos.endLine == cpos.line) = true := by rfl) (hst : starEach [a] X.env = (false, eval a X.env) :: starEach [] X.env := by rfl) (hpl : (backTo cpos (starEach [] X.env)).any (·.1) = false := by rfl)
    (hs : swapsWith (.Call (.Attribute (.Name x p) "extend" apos) [a] [] cpos) none pos.line X.env = pure false := by rfl) :
    PS X (.Expr (.Call (.Attribute (.Name x p) "extend" apos) [a] [] cpos) pos) (sV X.w X.K e O O fr fun ρ => gl ρ i >>= fun xs => fa ρ >>= fun d => exD i xs d ρ) := by
  refine ps_imp (ps_expr (pe_bm PySem.F.plainAttrs_list PySem.F.slot_list_extend PySem.F.type_list_extend mt_extR (pv i hN hv hd hc) (pa_cons h pa_nil hst) hbase hfew hline hst hpl) hs) fun Dn σ H ⟨B, ρ, G, r, q⟩ => ?_
  obtain ⟨xs, e0, q⟩ := gl_in (gd_bind.mp q)
  obtain ⟨A, s0, o, n1, n2⟩ := r.own i _ e0 hi
  rcases o with ⟨vs, ds, ed, hA, tA⟩ | ⟨_, _, _, _, ed, _⟩
  · cases ed
    refine ⟨.ref A, s0, .inl ⟨rfl, vs, SqL.of hA⟩, B, ρ, G, r, gd_mono (gd_bind.mp q) fun d q v G1 H1 g1 t => ?_⟩
    unfold exD at q
    split at q
    · cases t with
      | lst s1 a1 =>
        split at q
        · rename_i hl
          have hA1 := g1.keep A _ hA
          exact ⟨A, _, vs, _, rfl, rfl, hA1, Rd.sub g1.sub s1, by rw [tA.length, a1.length, sizeLine_eq]; exact hl, q _ G1 _ (g1.up r.sub) ((r.grow g1).wr hi e0 s0 (.inl ⟨_, _, rfl, upd_same, (tA.sub (g1.up r.sub)).append a1⟩))⟩
        · exact q.elim
    · exact q.elim
  · cases ed
/-! ### [::-1] -/
def revD : D → R D
  | .list ds => .ok (.list ds.reverse)
  | _ => stk
theorem rev_dt {w : World} {K : PySem.W.Frag} {G : Hp} : ∀ {vs : List V} {ds : List D}, DtAll w K G vs ds → DtAll w K G vs.reverse ds.reverse
  | _, _, .nil => .nil
  | _, _, .cons t ts => by
    rw [List.reverse_cons, List.reverse_cons]
    exact (rev_dt ts).append (.one t)
theorem v_rev {k : Nat} {p1 p2 p3 : Pos} (h : PE X a (tV X.w X.K e O fa)) : PE X (.Subscript a (.Slice none none (some (.UnaryOp .USub (.Constant (.int 1) k p1) p2)) p3) pos) (tV X.w X.K e O fun ρ => fa ρ >>= fun x => revD x) :=
  pe_imp (pe_revL h) fun σ H Q ⟨B, ρ, G, r, q⟩ => ⟨B, ρ, G, r, gd_mono (gd_bind.mp q) fun d q v G1 H1 g1 t => by
    unfold revD at q
    split at q
    · cases t with
      | lst s1 a1 => exact ⟨_, _, rfl, Rd.sq (Rd.sub g1.sub s1), fun p np => q _ _ _ (g1.trans (Gr.new g1.sub np)) (.lst (.inl upd_same) ((rev_dt a1).sub ((Gr.new g1.sub np).up g1.sub)))⟩
    · exact q.elim⟩
end
end Vs

set_option Elab.async false
set_option linter.all false
set_option maxRecDepth 100000
/-! dicts keyed by tuples, nested. -/
namespace Vs
open PySem PySem.Spec PyProof.Rows L2

/-! ### keys -/
mutual
def nk : D → Option NestedKey
  | .int i => some (.num i)
  | .str x => some (.text x)
  | .tuple ds => (nkAll ds).map .tup
  | _ => none
def nkAll : List D → Option (List NestedKey)
  | [] => some []
  | d :: ds => match nk d, nkAll ds with
    | some k, some ks => some (k :: ks)
    | _, _ => none
end
/-- a tuple that may be a key -/
def tk : D → Option NestedKey
  | .tuple ds => match nkAll ds with
    | some ks => if NestedKey.depthAll ks ≤ 7 then some (.tup ks) else none
    | none => none
  | _ => none
mutual
theorem nk_hash (w : World) : ∀ (d : D) (k : NestedKey), nk d = some k → hashD w d = k.hash w
  | .int i, k, h => by unfold nk at h; cases h; rfl
  | .str x, k, h => by unfold nk at h; cases h; rfl
  | .tuple ds, k, h => by
    unfold nk at h
    obtain ⟨ks, h1, rfl⟩ := Option.map_eq_some_iff.mp h
    show reduceHash (Builtin.Tuple.tupleHashOf (hashAll w ds)) = reduceHash (Builtin.Tuple.tupleHashOf (NestedKey.hashes w ks))
    rw [nk_hashes w ds ks h1]
  | .none, _, h => by unfold nk at h; cases h
  | .bool _, _, h => by unfold nk at h; cases h
  | .list _, _, h => by unfold nk at h; cases h
  | .dict _, _, h => by unfold nk at h; cases h
theorem nk_hashes (w : World) : ∀ (ds : List D) (ks : List NestedKey), nkAll ds = some ks → hashAll w ds = NestedKey.hashes w ks
  | [], ks, h => by unfold nkAll at h; cases h; rfl
  | d :: ds, ks, h => by
    unfold nkAll at h
    split at h
    · rename_i k ks' e1 e2
      cases h
      show hashD w d :: hashAll w ds = NestedKey.hash w k :: NestedKey.hashes w ks'
      rw [nk_hash w d k e1, nk_hashes w ds ks' e2]
    · cases h
end
mutual
theorem nk_inj : ∀ (d d' : D) (k : NestedKey), nk d = some k → nk d' = some k → d = d'
  | .int i, d', k, h, h' => by
    unfold nk at h; cases h
    cases d' with
    | int j => unfold nk at h'; cases h'; rfl
    | tuple ds => unfold nk at h'; obtain ⟨_, _, e⟩ := Option.map_eq_some_iff.mp h'; cases e
    | _ => unfold nk at h'; cases h'
  | .str x, d', k, h, h' => by
    unfold nk at h; cases h
    cases d' with
    | str j => unfold nk at h'; cases h'; rfl
    | tuple ds => unfold nk at h'; obtain ⟨_, _, e⟩ := Option.map_eq_some_iff.mp h'; cases e
    | _ => unfold nk at h'; cases h'
  | .tuple ds, d', k, h, h' => by
    unfold nk at h
    obtain ⟨ks, h1, rfl⟩ := Option.map_eq_some_iff.mp h
    cases d' with
    | tuple ds' =>
      unfold nk at h'
      obtain ⟨ks', h2, e⟩ := Option.map_eq_some_iff.mp h'
      cases e
      rw [nkAll_inj ds ds' ks h1 h2]
    | _ => unfold nk at h'; cases h'
  | .none, _, _, h, _ => by unfold nk at h; cases h
  | .bool _, _, _, h, _ => by unfold nk at h; cases h
  | .list _, _, _, h, _ => by unfold nk at h; cases h
  | .dict _, _, _, h, _ => by unfold nk at h; cases h
theorem nkAll_inj : ∀ (ds ds' : List D) (ks : List NestedKey), nkAll ds = some ks → nkAll ds' = some ks → ds = ds'
  | [], [], _, _, _ => rfl
  | [], d :: ds, ks, h, h' => by
    unfold nkAll at h h'; cases h
    split at h' <;> cases h'
  | d :: ds, [], ks, h, h' => by
    unfold nkAll at h h'; cases h'
    split at h <;> cases h
  | d :: ds, d' :: ds', ks, h, h' => by
    unfold nkAll at h h'
    split at h
    · rename_i k1 ks1 e1 e2
      cases h
      split at h'
      · rename_i k2 ks2 e3 e4
        cases h'
        rw [nk_inj d d' _ e1 e3, nkAll_inj ds ds' _ e2 e4]
      · cases h'
    · cases h
end
section
variable {X : Cx} {pins : List (Addr × Obj)} {σ : L2.St} {G H : Hp} {s : Shared}
mutual
theorem nk_is (I : Inv X pins σ H s) (sb : Sub G H) : ∀ (d : D) (k : NestedKey) (v : V) (u : Value), nk d = some k → Dt X.w X.K G v d → RelV v u → NestedIs s.heap k u
  | .int i, k, v, u, h, t, r => by
    unfold nk at h; cases h; cases t
    obtain ⟨tk, rfl⟩ := r
    exact .int i tk
  | .str x, k, v, u, h, t, r => by
    unfold nk at h; cases h; cases t
    obtain ⟨tk, rfl⟩ := r
    exact .text x tk
  | .tuple ds, k, v, u, h, t, r => by
    unfold nk at h
    obtain ⟨ks, h1, rfl⟩ := Option.map_eq_some_iff.mp h
    cases t with
    | tup s1 a1 =>
      cases r
      obtain ⟨its, rv, ⟨o, ho, hc, n, hd⟩, hz⟩ := I.tuple (SqT.sub sb s1)
      exact .tup ho hc hd (nkAll_is I sb ds ks _ its h1 a1 rv)
  | .none, _, _, _, h, _, _ => by unfold nk at h; cases h
  | .bool _, _, _, _, h, _, _ => by unfold nk at h; cases h
  | .list _, _, _, _, h, _, _ => by unfold nk at h; cases h
  | .dict _, _, _, _, h, _, _ => by unfold nk at h; cases h
theorem nkAll_is (I : Inv X pins σ H s) (sb : Sub G H) : ∀ (ds : List D) (ks : List NestedKey) (vs : List V) (us : List Value), nkAll ds = some ks → DtAll X.w X.K G vs ds → Vals vs us → NestedAll s.heap ks us
  | [], ks, vs, us, h, t, r => by
    unfold nkAll at h; cases h; cases t; cases r; exact .nil
  | d :: ds, ks, vs, us, h, t, r => by
    unfold nkAll at h
    split at h
    · rename_i k ks' e1 e2
      cases h
      cases t with
      | cons t1 t2 =>
        cases r with
        | cons r1 r2 => exact .cons (nk_is I sb d k _ _ e1 t1 r1) (nkAll_is I sb ds ks' _ _ e2 t2 r2)
    · cases h
end
end

/-! ### the dict as the library's -/
def allTk (kvs : List (D × D)) : Bool := kvs.all fun p => (tk p.1).isSome
theorem tk_nk {d : D} {k : NestedKey} (h : tk d = some k) : nk d = some k ∧ k.depth ≤ 8 ∧ ∃ ds, d = .tuple ds := by
  unfold tk at h
  split at h
  · rename_i ds
    split at h
    · rename_i ks e
      split at h
      · rename_i hd
        cases h
        refine ⟨by unfold nk; rw [e]; rfl, ?_, ds, rfl⟩
        show NestedKey.depthAll ks + 1 ≤ 8
        omega
      · cases h
    · cases h
  · cases h
/-- entries, told as keys with their addresses -/
inductive Ents (w : World) (K : PySem.W.Frag) (G : Hp) (h : Heap) : List DictEntry → List (D × D) → List (NestedKey × Addr × Value) → Prop
  | nil : Ents w K G h [] [] []
  | cons {e : DictEntry} {es : List DictEntry} {dk dv : D} {kvs : List (D × D)} {k : NestedKey} {a : Addr} {vv : V} {xs : List (NestedKey × Addr × Value)} : tk dk = some k → NestedIs h k (.ref a) → Dt w K G (.ref a) dk → e = ⟨k.hash w, .ref a, e.val⟩ → RelV vv e.val → Dt w K G vv dv → Ents w K G h es kvs xs → Ents w K G h (e :: es) ((dk, dv) :: kvs) ((k, a, e.val) :: xs)
section
variable {X : Cx} {pins : List (Addr × Obj)} {σ : L2.St} {G H : Hp} {s : Shared}
theorem ents_of (I : Inv X pins σ H s) (sb : Sub G H) : ∀ {es : List DictEntry} {kvs : List (D × D)}, DtEs X.w X.K G es kvs → allTk kvs = true → ∃ xs, Ents X.w X.K G s.heap es kvs xs
  | _, _, .nil, _ => ⟨[], .nil⟩
  | _, _, .cons (e := e) (dk := dk) r1 t1 hh r2 t2 ts, h => by
    unfold allTk at h
    rw [List.all_cons, Bool.and_eq_true] at h
    obtain ⟨xs, ih⟩ := ents_of I sb ts h.2
    obtain ⟨k, hk⟩ := Option.isSome_iff_exists.mp h.1
    obtain ⟨hn, hd, ds, rfl⟩ := tk_nk hk
    have is1 := nk_is I sb _ k _ _ hn t1 r1
    cases t1 with
    | tup s1 a1 =>
      rename_i a xs0
      have ek : e.key = Value.ref a := r1
      rw [ek] at is1
      obtain ⟨eh, ekey, ev⟩ := e
      dsimp only at ek hh r2
      subst ek
      refine ⟨_, .cons hk is1 (.tup s1 a1) ?_ r2 t2 ih⟩
      rw [hh, nk_hash X.w _ k hn]
end

mutual
theorem nk_eqv : ∀ (d d' : D) (k k' : NestedKey), nk d = some k → nk d' = some k' → PyData.eqv d d' = NestedKey.beq k k'
  | .int i, d', k, k', h, h' => by
    unfold nk at h; cases h
    cases d' with
    | int j => unfold nk at h'; cases h'; rfl
    | str x => unfold nk at h'; cases h'; rfl
    | tuple ds => unfold nk at h'; obtain ⟨_, _, rfl⟩ := Option.map_eq_some_iff.mp h'; rfl
    | _ => unfold nk at h'; cases h'
  | .str x, d', k, k', h, h' => by
    unfold nk at h; cases h
    cases d' with
    | str j =>
      unfold nk at h'; cases h'
      show (x == j) = decide (x = j)
      rw [Bool.eq_iff_iff, beq_iff_eq, decide_eq_true_eq]
    | int x => unfold nk at h'; cases h'; rfl
    | tuple ds => unfold nk at h'; obtain ⟨_, _, rfl⟩ := Option.map_eq_some_iff.mp h'; rfl
    | _ => unfold nk at h'; cases h'
  | .tuple ds, d', k, k', h, h' => by
    unfold nk at h
    obtain ⟨ks, h1, rfl⟩ := Option.map_eq_some_iff.mp h
    cases d' with
    | tuple ds' =>
      unfold nk at h'
      obtain ⟨ks', h2, rfl⟩ := Option.map_eq_some_iff.mp h'
      show PyData.eqvAll ds ds' = NestedKey.beqAll ks ks'
      exact nkAll_eqv ds ds' ks ks' h1 h2
    | int j => unfold nk at h'; cases h'; rfl
    | str x => unfold nk at h'; cases h'; rfl
    | _ => unfold nk at h'; cases h'
  | .none, _, _, _, h, _ => by unfold nk at h; cases h
  | .bool _, _, _, _, h, _ => by unfold nk at h; cases h
  | .list _, _, _, _, h, _ => by unfold nk at h; cases h
  | .dict _, _, _, _, h, _ => by unfold nk at h; cases h
theorem nkAll_eqv : ∀ (ds ds' : List D) (ks ks' : List NestedKey), nkAll ds = some ks → nkAll ds' = some ks' → PyData.eqvAll ds ds' = NestedKey.beqAll ks ks'
  | [], [], _, _, h, h' => by unfold nkAll at h h'; cases h; cases h'; rfl
  | [], d :: ds, ks, ks', h, h' => by
    unfold nkAll at h h'; cases h
    split at h'
    · cases h'; rfl
    · cases h'
  | d :: ds, [], ks, ks', h, h' => by
    unfold nkAll at h h'; cases h'
    split at h
    · cases h; rfl
    · cases h
  | d :: ds, d' :: ds', ks, ks', h, h' => by
    unfold nkAll at h h'
    split at h
    · rename_i k1 ks1 e1 e2
      cases h
      split at h'
      · rename_i k2 ks2 e3 e4
        cases h'
        show (PyData.eqv d d' && PyData.eqvAll ds ds') = (NestedKey.beq k1 k2 && NestedKey.beqAll ks1 ks2)
        rw [nk_eqv d d' _ _ e1 e3, nkAll_eqv ds ds' _ _ e2 e4]
      · cases h'
    · cases h
end
section
variable {P : Program} {w : World} {K : PySem.W.Frag} {G : Hp} {h : Heap}
theorem Ents.map : ∀ {es : List DictEntry} {kvs : List (D × D)} {xs : List (NestedKey × Addr × Value)}, Ents w K G h es kvs xs → es = xs.map (entryOfKey (nestedKind P w)) ∧ (∀ x ∈ xs, (nestedKind P w).is h x.1 x.2.1) ∧ kvs.map (fun p => nk p.1) = xs.map (fun x => some x.1)
  | _, _, _, .nil => ⟨rfl, fun _ hx => (by cases hx), rfl⟩
  | _, _, _, .cons (xs := xs) hk hi t he r2 t2 ts => by
    obtain ⟨h1, h2, h3⟩ := ts.map
    obtain ⟨hn, hd, _⟩ := tk_nk hk
    refine ⟨?_, fun x hx => ?_, ?_⟩
    · rw [List.map_cons, ← h1]
      exact congrArg (· :: _) he
    · rcases List.mem_cons.mp hx with rfl | hx
      · exact ⟨hi, hd⟩
      · exact h2 x hx
    · rw [List.map_cons, List.map_cons, h3, hn]
theorem Ents.nodup {es : List DictEntry} {kvs : List (D × D)} {xs : List (NestedKey × Addr × Value)} (x : Ents w K G h es kvs xs) (hn : (kvs.map (·.1)).Nodup) : (xs.map (·.1)).Nodup := by
  induction x with
  | nil => exact List.nodup_nil
  | cons hk hi t he r2 t2 ts ih =>
    rename_i e es dk dv kvs k a vv xs
    rw [List.map_cons, List.nodup_cons] at hn ⊢
    refine ⟨fun hm => hn.1 ?_, ih hn.2⟩
    obtain ⟨_, _, h3⟩ := ts.map (P := default)
    obtain ⟨x, hx, ex⟩ := List.mem_map.mp hm
    have : some k ∈ xs.map (fun x => some x.1) := List.mem_map.mpr ⟨x, hx, by rw [ex]⟩
    rw [← h3] at this
    obtain ⟨p, hp, ep⟩ := List.mem_map.mp this
    exact List.mem_map.mpr ⟨p, hp, nk_inj _ _ k ep (tk_nk hk).1⟩
theorem Ents.find {d : D} {k : NestedKey} (hd : nk d = some k) {es : List DictEntry} {kvs : List (D × D)} {xs : List (NestedKey × Addr × Value)} (x : Ents w K G h es kvs xs) :
    match dfind kvs d with
    | some dv => ∃ a u vv, atKey xs k = some (a, u) ∧ RelV vv u ∧ Dt w K G vv dv
    | none => atKey xs k = none := by
  induction x with
  | nil => exact rfl
  | cons hk hi t he r2 t2 ts ih =>
    rename_i e es dk dv kvs k1 a vv xs
    have eq1 := nk_eqv _ _ _ _ (tk_nk hk).1 hd
    unfold dfind atKey at ih ⊢
    rw [List.find?_cons, List.find?_cons, eq1]
    have dec : decide (k1 = k) = NestedKey.beq k1 k := NestedKey.decide_eq k1 k
    cases hb : NestedKey.beq k1 k with
    | true =>
      rw [hb] at dec
      simp only [dec, Option.map_some]
      exact ⟨a, _, _, rfl, r2, t2⟩
    | false =>
      rw [hb] at dec
      simp only [dec]
      exact ih
end

/-! ### in, subscripts: keys that are tuples too -/
section
variable {X : Cx} {pins : List (Addr × Obj)} {σ : L2.St} {G H : Hp} {s : Shared}
theorem tk_dict (I : Inv X pins σ H s) (sb : Sub G H) {a : Addr} {o : Obj} {es : Array DictEntry} {ep : Nat} {kvs : List (D × D)} (h : DcA X.K G a o) (ho : o.ExactDict) (hd : o.data = .dict es ep) (t : DtEs X.w X.K G es.toList kvs) (hn : (kvs.map (·.1)).Nodup) (ha : allTk kvs = true) :
    ∃ xs, Ents X.w X.K G s.heap es.toList kvs xs ∧ s.heap.DictOfH (nestedKind X.prog X.w) a xs := by
  obtain ⟨xs, x⟩ := ents_of I sb t ha
  obtain ⟨h1, h2, _⟩ := x.map (P := X.prog)
  exact ⟨xs, x, o, es, ep, dc_at I sb h, ho, hd, h1, h2, x.nodup hn⟩
def inE (x c : D) : R D := match x, c with
  | .tuple ds, .dict kvs => if allTk kvs = true ∧ (tk (.tuple ds)).isSome = true then .ok (.bool (dfind kvs (.tuple ds)).isSome) else stk
  | x, c => inD x c
def ixE (c i : D) : R D := match c, i with
  | .dict kvs, .tuple ds => if allTk kvs = true ∧ (tk (.tuple ds)).isSome = true then opt (dfind kvs (.tuple ds)) else stk
  | c, i => ixD c i
theorem d_inE (hu : X.A.units + 65 < cLine) : OpR X (compareOp .In) (r2 X.w X.K inE) := by
  intro pins s σ H x y v u Q I rx ry ⟨G, da, db, e, sb, t1, t2, q⟩
  unfold inE at q
  split at q
  · split at q
    · rename_i hc
      obtain ⟨k, hk⟩ := Option.isSome_iff_exists.mp hc.2
      obtain ⟨hn, hd, _⟩ := tk_nk hk
      cases t2 with
      | scr _ _ => simp [allTk, tk] at hc
      | dct s1 s2 s3 s4 s5 s6 =>
        obtain rfl : u = Value.ref _ := ry
        obtain ⟨xs, xe, m⟩ := tk_dict I sb s1 s3 s4 s5 s6 hc.1
        have ik := nk_is I sb _ k x v hn t1 rx
        cases t1 with
        | tup q1 q2 =>
          obtain rfl : v = Value.ref _ := rx
          have f := xe.find hn
          refine wpAny_in_heap (knd := nestedKind X.prog X.w) (k := k) (show X.A.units + 1 + 8 < cLine by omega) ⟨ik, hd⟩ s2 m ⟨.bl (dfind _ _).isSome, H, I.tok _, ?_, q _ G H (Gr.refl sb) (.bl _)⟩
          split at f
          · rename_i dv e1
            obtain ⟨a, u, vv, f1, _⟩ := f
            rw [f1, e1]; rfl
          · rename_i e1
            rw [f, e1]; rfl
    · exact q.elim
  · exact d_in hu pins s σ H x y v u Q I rx ry ⟨G, _, _, e, sb, t1, t2, q⟩
theorem d_ixE (hu : X.A.units + 65 < cLine) : IxR X (r2 X.w X.K ixE) := by
  intro value slice pins s σ H x y v u Q I rx ry ⟨G, da, db, e, sb, t1, t2, q⟩ hs
  unfold ixE at q
  split at q
  · split at q
    · rename_i hc
      obtain ⟨k, hk⟩ := Option.isSome_iff_exists.mp hc.2
      obtain ⟨hn, hd, _⟩ := tk_nk hk
      obtain ⟨dv, ed, q⟩ := opt_in q
      cases t1 with
      | scr _ _ => simp [allTk, tk] at hc
      | dct s1 s2 s3 s4 s5 s6 =>
        obtain rfl : v = Value.ref _ := rx
        obtain ⟨xs, xe, m⟩ := tk_dict I sb s1 s3 s4 s5 s6 hc.1
        have ik := nk_is I sb _ k y u hn t2 ry
        cases t2 with
        | tup q1 q2 =>
          obtain rfl : u = Value.ref _ := ry
          have f := xe.find hn
          rw [ed] at f
          obtain ⟨a, w0, vv, f1, f2, f3⟩ := f
          exact tail_any m.typeIs slot_dict_getitem.lookup (wpAny_getItem_heap (knd := nestedKind X.prog X.w) (k := k) (show X.A.units + 1 + 8 < cLine by omega) ⟨ik, hd⟩ m f1 ⟨vv, H, I.tok _, f2, q vv G H (Gr.refl sb) f3⟩) hs
    · exact q.elim
  · exact d_ix value slice pins s σ H x y v u Q I rx ry ⟨G, _, _, e, sb, t1, t2, q⟩ hs
end
section
variable {prog : Program} {w : World} {κ : Type} [DecidableEq κ] {knd : HeapKind prog w κ} {A : Around} {E : Value → Shared → Prop} {s : Shared} {d a : Addr} {k : κ} {xs : List (κ × Addr × Value)}
theorem contains_h {Q : Bool → Shared → Prop} (hu : knd.room A.in1) (hkey : knd.is s.heap k a) (hd : (d == sysModules) = false) (hm : s.heap.DictOfH knd d xs) (q : Q (atKey xs k).isSome { s with toks := s.toks + knd.draws k }) :
    wpAny (model prog w) A (contains (.ref d) (.ref a)) Q E s := by
  unfold contains
  try with_reducible refine wpAny_holding ?_
  refine wpAny_bind (wpAny_specialOf hm.typeIs slot_dict_contains.lookup ?_)
  show wpAny _ _ (if (some (Value.builtin "dict.__contains__") == some Value.none) = true then _ else _) _ E s
  rw [if_neg (by rw [beq_builtin_none]; exact Bool.false_ne_true)]
  refine wpAny_bind (wpAny_callSpecialUnlessNone?_slot (name := Str.ofString "__contains__") hm.typeIs slot_dict_contains (wpAny_call_entry slot_dict_contains hm.typeIs entry_dict_contains ?_ (args_dict_contains _ _)))
  show wpAny _ _ (dictGet d (.ref a) >>= _) _ _ s
  refine wpAny_bind (wpAny_dictGet_heap hu hkey hm ?_)
  cases z : atKey xs k with
  | some p =>
    rw [z] at q
    show wpAny _ _ (PySem.ret (.bool true)) _ _ _
    exact wpAny_pure ⟨_, rfl, wpAny_truthy_bool q⟩
  | none =>
    rw [z] at q
    show wpAny _ _ (Builtin.Dict.pendingKey? d (.ref a) >>= _) _ _ _
    exact wpAny_bind (wpAny_pendingKey_other hd (wpAny_pure ⟨_, rfl, wpAny_truthy_bool q⟩))
theorem notIn_h {Q : Value → Shared → Prop} (hu : knd.room A.in1) (hkey : knd.is s.heap k a) (hd : (d == sysModules) = false) (hm : s.heap.DictOfH knd d xs) (q : Q (.bool (!(atKey xs k).isSome)) { s with toks := s.toks + knd.draws k }) :
    wpAny (model prog w) A (compareOp .NotIn (.ref a) (.ref d)) Q E s := by
  show wpAny _ _ (do return .bool (!(← contains (.ref d) (.ref a)))) Q E s
  exact wpAny_bind (contains_h hu hkey hd hm (wpAny_pure q))
end
section
variable {X : Cx} {pins : List (Addr × Obj)} {σ : L2.St} {G H : Hp} {s : Shared}
def ninE (x c : D) : R D := match x, c with
  | .tuple ds, .dict kvs => if allTk kvs = true ∧ (tk (.tuple ds)).isSome = true then .ok (.bool (!(dfind kvs (.tuple ds)).isSome)) else stk
  | x, c => ninD x c
theorem d_ninE (hu : X.A.units + 65 < cLine) : OpR X (compareOp .NotIn) (r2 X.w X.K ninE) := by
  intro pins s σ H x y v u Q I rx ry ⟨G, da, db, e, sb, t1, t2, q⟩
  unfold ninE at q
  split at q
  · split at q
    · rename_i hc
      obtain ⟨k, hk⟩ := Option.isSome_iff_exists.mp hc.2
      obtain ⟨hn, hd, _⟩ := tk_nk hk
      cases t2 with
      | scr _ _ => simp [allTk, tk] at hc
      | dct s1 s2 s3 s4 s5 s6 =>
        obtain rfl : u = Value.ref _ := ry
        obtain ⟨xs, xe, m⟩ := tk_dict I sb s1 s3 s4 s5 s6 hc.1
        have ik := nk_is I sb _ k x v hn t1 rx
        cases t1 with
        | tup q1 q2 =>
          obtain rfl : v = Value.ref _ := rx
          have f := xe.find hn
          refine notIn_h (knd := nestedKind X.prog X.w) (k := k) (show X.A.units + 1 + 8 < cLine by omega) ⟨ik, hd⟩ s2 m ⟨.bl (!(dfind _ _).isSome), H, I.tok _, ?_, q _ G H (Gr.refl sb) (.bl _)⟩
          split at f
          · rename_i dv e1
            obtain ⟨a, u, vv, f1, _⟩ := f
            rw [f1, e1]; rfl
          · rename_i e1
            rw [f, e1]; rfl
    · exact q.elim
  · exact d_nin hu pins s σ H x y v u Q I rx ry ⟨G, _, _, e, sb, t1, t2, q⟩
end
end Vs

set_option Elab.async false
set_option linter.all false
set_option maxRecDepth 100000
/-! dicts of one's own: displays, stores. -/
namespace Vs
open PySem PySem.Spec PyProof.Rows L2

def dput (kvs : List (D × D)) (k v : D) : List (D × D) := if kvs.any (fun p => PyData.eqv p.1 k) then kvs.map (fun p => if PyData.eqv p.1 k then (p.1, v) else p) else kvs ++ [(k, v)]
def putOk (kvs : List (D × D)) (k : D) : Bool := (allAt kvs && (atomK k).isSome) || (allTk kvs && (tk k).isSome)
theorem dput_len (kvs : List (D × D)) (k v : D) : (dput kvs k v).length ≤ kvs.length + 1 := by
  unfold dput
  split
  · rw [List.length_map]; omega
  · rw [List.length_append]; exact Nat.le_refl _

/-! ### keys that are whole numbers, texts -/
inductive AtP (w : World) (K : PySem.W.Frag) (G : Hp) : List (D × D) → List (Key × Value) → Prop
  | nil : AtP w K G [] []
  | cons {dk dv : D} {k : Key} {u : Value} {vv : V} {kvs : List (D × D)} {vs : List (Key × Value)} : atomK dk = some k → RelV vv u → Dt w K G vv dv → AtP w K G kvs vs → AtP w K G ((dk, dv) :: kvs) ((k, u) :: vs)
section
variable {P : Program} {w : World} {K : PySem.W.Frag} {G : Hp}
theorem at_of : ∀ {es : List DictEntry} {kvs : List (D × D)}, DtEs w K G es kvs → allAt kvs = true → ∃ vs : List (Key × Value), Pairs (mixKind P w) es vs ∧ AtP w K G kvs vs
  | _, _, .nil, _ => ⟨[], .nil, .nil⟩
  | _, _, .cons (e := e) (dk := dk) r1 t1 hh r2 t2 ts, h => by
    unfold allAt at h
    rw [List.all_cons, Bool.and_eq_true] at h
    obtain ⟨vs, h1, h2⟩ := at_of ts h.2
    obtain ⟨k, hk⟩ := Option.isSome_iff_exists.mp h.1
    exact ⟨(k, e.val) :: vs, .cons (atom_is r1 t1 hk) rfl h1, .cons hk r2 t2 h2⟩
theorem atom_dt {dk : D} {k : Key} (h : atomK dk = some k) : Dt w K G (kV k) dk := by
  cases dk with
  | int i => cases h; exact .int i
  | str x => cases h; exact .str x
  | _ => cases h
theorem at_es {es : List DictEntry} {vs : List (Key × Value)} (p : Pairs (mixKind P w) es vs) : ∀ {kvs : List (D × D)}, (∀ e ∈ es, ∃ k, (mixKind P w).is k e.key = true ∧ e.hash = (mixKind P w).hash k) → AtP w K G kvs vs → DtEs w K G es kvs := by
  induction p with
  | nil => intro kvs _ a; cases a; exact .nil
  | @cons e kv es vs h1 h2 h3 ih =>
    intro kvs hk a
    obtain ⟨k, u⟩ := kv
    cases a with
    | cons q1 q2 q3 q4 =>
      obtain ⟨k', i1, i2⟩ := hk e List.mem_cons_self
      have e2 : (mixKind P w).is k e.key = decide (k = k') := KeyKind.is_eq_decide i1 k
      rw [show (mixKind P w).is k e.key = true from h1] at e2
      have e3 : k = k' := of_decide_eq_true e2.symm
      subst e3
      refine .cons (kv := kV k) (relV_key h1) (atom_dt q1) (by rw [i2, atom_hash q1]; rfl) ?_ q3 (ih (fun e he => hk e (List.mem_cons_of_mem _ he)) q4)
      rw [show e.val = _ from h2]; exact q2
theorem at_any {dk : D} {k : Key} (hk : atomK dk = some k) : ∀ {kvs : List (D × D)} {vs : List (Key × Value)}, AtP w K G kvs vs → kvs.any (fun p => PyData.eqv p.1 dk) = vs.any (fun kv => decide (kv.1 = k))
  | _, _, .nil => rfl
  | _, _, .cons q1 _ _ q4 => by rw [List.any_cons, List.any_cons, at_any hk q4, atom_eqv q1 hk]
theorem at_map {dk dv : D} {k : Key} {u : Value} {vv : V} (hk : atomK dk = some k) (r : RelV vv u) (t : Dt w K G vv dv) : ∀ {kvs : List (D × D)} {vs : List (Key × Value)}, AtP w K G kvs vs →
    AtP w K G (kvs.map (fun p => if PyData.eqv p.1 dk then (p.1, dv) else p)) (vs.map fun kv => if kv.1 = k then (kv.1, u) else kv)
  | _, _, .nil => .nil
  | _, _, .cons (k := k1) q1 q2 q3 q4 => by
    rw [List.map_cons, List.map_cons]
    have e := atom_eqv q1 hk
    by_cases h : k1 = k
    · rw [decide_eq_true h] at e
      rw [if_pos e, if_pos h]
      exact .cons q1 r t (at_map hk r t q4)
    · rw [decide_eq_false h] at e
      rw [if_neg (by rw [e]; exact Bool.false_ne_true), if_neg h]
      exact .cons q1 q2 q3 (at_map hk r t q4)
theorem at_app {dk dv : D} {k : Key} {u : Value} {vv : V} (hk : atomK dk = some k) (r : RelV vv u) (t : Dt w K G vv dv) : ∀ {kvs : List (D × D)} {vs : List (Key × Value)}, AtP w K G kvs vs → AtP w K G (kvs ++ [(dk, dv)]) (vs ++ [(k, u)])
  | _, _, .nil => .cons hk r t .nil
  | _, _, .cons q1 q2 q3 q4 => .cons q1 q2 q3 (at_app hk r t q4)
theorem at_put {dk dv : D} {k : Key} {u : Value} {vv : V} {kvs : List (D × D)} {vs : List (Key × Value)} (hk : atomK dk = some k) (r : RelV vv u) (t : Dt w K G vv dv) (a : AtP w K G kvs vs) : AtP w K G (dput kvs dk dv) (stored vs k u) := by
  unfold dput stored
  rw [at_any hk a]
  split
  · exact at_map hk r t a
  · exact at_app hk r t a
theorem at_keys : ∀ {kvs : List (D × D)} {vs : List (Key × Value)}, AtP w K G kvs vs → kvs.map (fun p => atomK p.1) = vs.map fun kv => some kv.1
  | _, _, .nil => rfl
  | _, _, .cons q1 _ _ q4 => by rw [List.map_cons, List.map_cons, q1, at_keys q4]
theorem atom_inj {d d' : D} {k : Key} (h : atomK d = some k) (h' : atomK d' = some k) : d = d' := by
  cases d with
  | int i =>
    cases h
    cases d' with
    | int j => cases h'; rfl
    | _ => cases h'
  | str x =>
    cases h
    cases d' with
    | str j => cases h'; rfl
    | _ => cases h'
  | _ => cases h
theorem at_nd1 : ∀ {kvs : List (D × D)} {vs : List (Key × Value)}, AtP w K G kvs vs → (vs.map (·.1)).Nodup → (kvs.map (·.1)).Nodup
  | _, _, .nil, _ => List.nodup_nil
  | _, _, .cons (dk := dk) (kvs := kvs) (vs := vs) (k := k) q1 _ _ q4, h => by
    rw [List.map_cons, List.nodup_cons] at h ⊢
    refine ⟨fun hm => h.1 ?_, at_nd1 q4 h.2⟩
    obtain ⟨p, hp, ep⟩ := List.mem_map.mp hm
    have : some k ∈ kvs.map (fun p => atomK p.1) := List.mem_map.mpr ⟨p, hp, by rw [ep]; exact q1⟩
    rw [at_keys q4] at this
    obtain ⟨x, hx, ex⟩ := List.mem_map.mp this
    exact List.mem_map.mpr ⟨x, hx, Option.some.inj ex⟩
theorem at_nd2 : ∀ {kvs : List (D × D)} {vs : List (Key × Value)}, AtP w K G kvs vs → (kvs.map (·.1)).Nodup → (vs.map (·.1)).Nodup
  | _, _, .nil, _ => List.nodup_nil
  | _, _, .cons (dk := dk) (kvs := kvs) (vs := vs) (k := k) q1 _ _ q4, h => by
    rw [List.map_cons, List.nodup_cons] at h ⊢
    refine ⟨fun hm => h.1 ?_, at_nd2 q4 h.2⟩
    obtain ⟨x, hx, ex⟩ := List.mem_map.mp hm
    have : some k ∈ vs.map (fun kv => some kv.1) := List.mem_map.mpr ⟨x, hx, by rw [show x.1 = k from ex]⟩
    rw [← at_keys q4] at this
    obtain ⟨p, hp, ep⟩ := List.mem_map.mp this
    exact List.mem_map.mpr ⟨p, hp, atom_inj ep q1⟩
end

/-! ### keys that are tuples -/
inductive TkP (w : World) (K : PySem.W.Frag) (G : Hp) : List (D × D) → List (NestedKey × Addr × Value) → Prop
  | nil : TkP w K G [] []
  | cons {dk dv : D} {k : NestedKey} {a : Addr} {u : Value} {vv : V} {kvs : List (D × D)} {xs : List (NestedKey × Addr × Value)} : tk dk = some k → Dt w K G (.ref a) dk → RelV vv u → Dt w K G vv dv → TkP w K G kvs xs → TkP w K G ((dk, dv) :: kvs) ((k, a, u) :: xs)
section
variable {P : Program} {w : World} {K : PySem.W.Frag} {G : Hp} {h : Heap}
theorem tk_of : ∀ {es : List DictEntry} {kvs : List (D × D)} {xs : List (NestedKey × Addr × Value)}, Ents w K G h es kvs xs → TkP w K G kvs xs
  | _, _, _, .nil => .nil
  | _, _, _, .cons h1 h2 h3 h4 h5 h6 h7 => .cons h1 h3 h5 h6 (tk_of h7)
theorem tk_es : ∀ {kvs : List (D × D)} {xs : List (NestedKey × Addr × Value)}, TkP w K G kvs xs → DtEs w K G (xs.map (entryOfKey (nestedKind P w))) kvs
  | _, _, .nil => .nil
  | _, _, .cons (a := a) h1 h2 h3 h4 h5 => .cons (kv := .ref a) rfl h2 (nk_hash w _ _ (tk_nk h1).1).symm h3 h4 (tk_es h5)
theorem tk_at {dk : D} {k : NestedKey} (hk : tk dk = some k) : ∀ {kvs : List (D × D)} {xs : List (NestedKey × Addr × Value)}, TkP w K G kvs xs → kvs.any (fun p => PyData.eqv p.1 dk) = (atKey xs k).isSome
  | _, _, .nil => rfl
  | _, _, .cons (k := k1) h1 h2 h3 h4 h5 => by
    have ih := tk_at hk h5
    have e := nk_eqv _ _ _ _ (tk_nk h1).1 (tk_nk hk).1
    have dec : decide (k1 = k) = NestedKey.beq k1 k := NestedKey.decide_eq k1 k
    rw [List.any_cons, ih, e, ← dec]
    unfold atKey
    rw [List.find?_cons]
    by_cases q : k1 = k
    · rw [decide_eq_true q]; simp
    · simp [q]
theorem tk_map {dk dv : D} {k : NestedKey} {u : Value} {vv : V} (hk : tk dk = some k) (r : RelV vv u) (t : Dt w K G vv dv) : ∀ {kvs : List (D × D)} {xs : List (NestedKey × Addr × Value)}, TkP w K G kvs xs →
    TkP w K G (kvs.map (fun p => if PyData.eqv p.1 dk then (p.1, dv) else p)) (xs.map (putAt k u))
  | _, _, .nil => .nil
  | _, _, .cons (k := k1) h1 h2 h3 h4 h5 => by
    rw [List.map_cons, List.map_cons]
    have e := nk_eqv _ _ _ _ (tk_nk h1).1 (tk_nk hk).1
    rw [← NestedKey.decide_eq k1 k] at e
    unfold putAt
    by_cases q : k1 = k
    · rw [decide_eq_true q] at e
      rw [if_pos e, if_pos q]
      subst q
      exact .cons h1 h2 r t (tk_map hk r t h5)
    · rw [decide_eq_false q] at e
      rw [if_neg (by rw [e]; exact Bool.false_ne_true), if_neg q]
      exact .cons h1 h2 h3 h4 (tk_map hk r t h5)
theorem tk_app {dk dv : D} {k : NestedKey} {a : Addr} {u : Value} {vv : V} (hk : tk dk = some k) (ta : Dt w K G (.ref a) dk) (r : RelV vv u) (t : Dt w K G vv dv) : ∀ {kvs : List (D × D)} {xs : List (NestedKey × Addr × Value)}, TkP w K G kvs xs → TkP w K G (kvs ++ [(dk, dv)]) (xs ++ [(k, a, u)])
  | _, _, .nil => .cons hk ta r t .nil
  | _, _, .cons h1 h2 h3 h4 h5 => .cons h1 h2 h3 h4 (tk_app hk ta r t h5)
theorem tk_put {dk dv : D} {k : NestedKey} {a : Addr} {u : Value} {vv : V} {kvs : List (D × D)} {xs : List (NestedKey × Addr × Value)} (hk : tk dk = some k) (ta : Dt w K G (.ref a) dk) (r : RelV vv u) (t : Dt w K G vv dv) (p : TkP w K G kvs xs) : TkP w K G (dput kvs dk dv) (storedH xs k a u) := by
  unfold dput
  rw [tk_at hk p]
  cases q : atKey xs k with
  | none =>
    rw [storedH_new q, if_neg (by simp)]
    exact tk_app hk ta r t p
  | some z =>
    rw [storedH_old q, if_pos (by simp)]
    exact tk_map hk r t p
theorem tk_keys : ∀ {kvs : List (D × D)} {xs : List (NestedKey × Addr × Value)}, TkP w K G kvs xs → kvs.map (fun p => nk p.1) = xs.map fun x => some x.1
  | _, _, .nil => rfl
  | _, _, .cons h1 _ _ _ h5 => by rw [List.map_cons, List.map_cons, (tk_nk h1).1, tk_keys h5]
theorem tk_nd1 : ∀ {kvs : List (D × D)} {xs : List (NestedKey × Addr × Value)}, TkP w K G kvs xs → (xs.map (·.1)).Nodup → (kvs.map (·.1)).Nodup
  | _, _, .nil, _ => List.nodup_nil
  | _, _, .cons (kvs := kvs) (k := k) q1 _ _ _ q4, h => by
    rw [List.map_cons, List.nodup_cons] at h ⊢
    refine ⟨fun hm => h.1 ?_, tk_nd1 q4 h.2⟩
    obtain ⟨p, hp, ep⟩ := List.mem_map.mp hm
    have : some k ∈ kvs.map (fun p => nk p.1) := List.mem_map.mpr ⟨p, hp, by rw [ep]; exact (tk_nk q1).1⟩
    rw [tk_keys q4] at this
    obtain ⟨x, hx, ex⟩ := List.mem_map.mp this
    exact List.mem_map.mpr ⟨x, hx, Option.some.inj ex⟩
end

/-! ### the store -/
section
variable {X : Cx} {pins : List (Addr × Obj)} {σ : L2.St} {G H : Hp} {s : Shared} {a : Addr} {A : Around} {E : Value → Shared → Prop}
/-- what is known of a dict -/
structure DcH (w : World) (K : PySem.W.Frag) (G : Hp) (a : Addr) (o : Obj) (kvs : List (D × D)) : Prop where
  ns : (a == sysModules) = false
  ex : o.ExactDict
  dat : ∃ (es : Array DictEntry) (ep : Nat), o.data = .dict es ep ∧ DtEs w K G es.toList kvs
  nd : (kvs.map (·.1)).Nodup
theorem DcH.own {w : World} {K : PySem.W.Frag} {G H : Hp} {a : Addr} {o : Obj} {kvs : List (D × D)} (c : DcH w K G a o kvs) (h : H a = some (dO a o)) : Own w K G H a (.dict kvs) := by
  obtain ⟨es, ep, e1, e2⟩ := c.dat
  exact .inr ⟨o, es, ep, kvs, rfl, h, c.ns, c.ex, e1, e2, c.nd⟩
theorem dO_ok {P : Program} {w : World} {H : Hp} {h : Heap} {a : Addr} {o : Obj} (e : h.get? a = some o) : ObjOk P w H h a (dO a o) := ⟨e, ⟨o, e⟩, fun h1 h2 q k => k _ q⟩
theorem dset_core {o : Obj} {kvs : List (D × D)} {x vv : V} {u r : Value} {dk dv : D} {Q : Unit → Shared → Prop} (hu : A.units + 9 < cLine) (I : Inv X pins σ H s) (sb : Sub G H) (hH : H a = some (dO a o)) (c : DcH X.w X.K G a o kvs)
    (rx : RelV x u) (tx : Dt X.w X.K G x dk) (rv : RelV vv r) (tv : Dt X.w X.K G vv dv) (ok : putOk kvs dk = true) (hl : kvs.length ≤ sizeLine)
    (h : ∀ s' o', Inv X pins σ (upd H a (dO a o')) s' → DcH X.w X.K G a o' (dput kvs dk dv) → Q () s') : wpAny (model X.prog X.w) A (dictSet a u r) Q E s := by
  obtain ⟨es, ep, hd, t⟩ := c.dat
  have hg : s.heap.get? a = some o := (I.hok a _ hH).1
  unfold putOk at ok
  rw [Bool.or_eq_true, Bool.and_eq_true, Bool.and_eq_true] at ok
  rcases ok with ⟨ha, hk⟩ | ⟨ha, hk⟩
  · obtain ⟨k, hk⟩ := Option.isSome_iff_exists.mp hk
    obtain ⟨vs, p1, p2⟩ := at_of (P := X.prog) t ha
    have dd : s.heap.DictOf (mixKind X.prog X.w) a vs := ⟨o, es, ep, hg, c.ex, hd, fun e he => es_keys t ha e (Array.mem_toList_iff.mpr he), p1, at_nd2 p2 c.nd⟩
    have lv : vs.length = kvs.length := by
      have := congrArg List.length (at_keys p2)
      rw [List.length_map, List.length_map] at this
      exact this.symm
    refine wpAny_dictSet_pairs (hsz := by omega) (atom_is rx tx hk) dd fun h' dd' hs => ?_
    obtain ⟨o', es', ep', g1, g2, g3, g4, g5, g6⟩ := dd'
    have p3 := at_put hk rv tv p2
    refine h _ o' (d_write I (by rw [hH]; exact True.intro) hs ⟨_, g1⟩ (dO_ok g1)) ⟨c.ns, g2, ⟨es', ep', g3, at_es g5 (fun e he => g4 e (Array.mem_toList_iff.mp he)) p3⟩, at_nd1 p3 g6⟩
  · obtain ⟨k, hk⟩ := Option.isSome_iff_exists.mp hk
    obtain ⟨hn, hdp, ds, e1⟩ := tk_nk hk
    obtain ⟨xs, xe⟩ := ents_of I sb t ha
    obtain ⟨h1, h2, _⟩ := xe.map (P := X.prog)
    have p2 := tk_of xe
    have dd : s.heap.DictOfH (nestedKind X.prog X.w) a xs := ⟨o, es, ep, hg, c.ex, hd, h1, h2, xe.nodup c.nd⟩
    have lv : xs.length = kvs.length := by
      have := congrArg List.length (tk_keys p2)
      rw [List.length_map, List.length_map] at this
      exact this.symm
    subst e1
    cases tx with
    | tup q1 q2 =>
      rename_i b ys
      obtain rfl : u = Value.ref b := rx
      have ik := nk_is I sb _ k _ _ hn (.tup q1 q2) (show RelV (.ref b) (.ref b) from rfl)
      refine wpAny_dictSet_heap (knd := nestedKind X.prog X.w) (k := k) (hsz := by omega) (show A.units + 8 < cLine by omega) ⟨ik, hdp⟩ dd fun h' dd' hs => ?_
      obtain ⟨o', es', ep', g1, g2, g3, g4, g5, g6⟩ := dd'
      have p3 := tk_put hk (.tup q1 q2) rv tv p2
      refine h _ o' (d_write I (by rw [hH]; exact True.intro) hs ⟨_, g1⟩ (dO_ok g1)) ⟨c.ns, g2, ⟨es', ep', g3, by rw [g4]; exact tk_es p3⟩, tk_nd1 p3 g6⟩
/-- the object of a dict -/
theorem dc_type {o : Obj} {kvs : List (D × D)} (I : Inv X pins σ H s) (hH : H a = some (dO a o)) (c : DcH X.w X.K G a o kvs) : s.TypeIs (.ref a) "dict" := ⟨o, (I.hok a _ hH).1, c.ex.1⟩
theorem setItem_of {prog : Program} {w : World} {d : Addr} {key v : Value} {Q : Unit → Shared → Prop} (hT : s.TypeIs (.ref d) "dict") (h : wpAny (model prog w) A.in1 (dictSet d key v) Q E s) : wpAny (model prog w) A (setItem (.ref d) key v) Q E s := by
  unfold setItem
  try with_reducible refine wpAny_holding ?_
  refine wpAny_bind (wpAny_sequenceKey hT (by decide) ?_)
  refine wpAny_bind (wpAny_callSpecial?_slot (name := Str.ofString "__setitem__") hT slot_dict_setitem
    (wpAny_call_entry slot_dict_setitem hT entry_dict_setitem ?_ (args_dict_setitem _ _ _)))
  show wpAny _ _ (Builtin.Dict.notOrdered "__setitem__" ⟨[.ref d, key, v], []⟩ >>= _) _ _ s
  refine wpAny_bind (wpAny_notOrdered_dict hT ?_)
  show wpAny _ _ (dictSet d key v >>= _) _ _ s
  exact wpAny_bind (wpAny_mono h (fun _ s' h' => wpAny_pure ⟨.none, rfl, wpAny_pure h'⟩) fun _ _ e => e)
end

/-! ### x[k] = v -/
def asK : D → R (List (D × D))
  | .dict kvs => .ok kvs
  | _ => stk
def gk (ρ : Env') (i : Nat) : R (List (D × D)) := gv ρ i >>= asK
theorem gk_in {e : Nat → D → Prop} {ρ : Env'} {i : Nat} {q : List (D × D) → Prop} (h : gd (gk ρ i) q e) : ∃ kvs, ρ[i]? = some (some (.dict kvs)) ∧ q kvs := by
  obtain ⟨d, h1, h2⟩ := gv_in (gd_bind.mp h)
  cases d with
  | dict kvs => exact ⟨kvs, h1, h2⟩
  | _ => exact h2.elim
def dpD (i : Nat) (kvs : List (D × D)) (k v : D) (ρ : Env') : R Out := if putOk kvs k = true ∧ kvs.length < 16777216 then setD i (.dict (dput kvs k v)) ρ else stk
theorem Own.dct {w : World} {K : PySem.W.Frag} {G H : Hp} {a : Addr} {kvs : List (D × D)} (o : Own w K G H a (.dict kvs)) : ∃ ob, H a = some (dO a ob) ∧ DcH w K G a ob kvs := by
  rcases o with ⟨_, _, e, _⟩ | ⟨o, es, ep, kvs', e, h, q1, q2, q3, q4, q5⟩
  · cases e
  · cases e
    exact ⟨o, h, q1, q2, ⟨es, ep, q3, q4⟩, q5⟩
theorem DcH.sub {w : World} {K : PySem.W.Frag} {G G' : Hp} {a : Addr} {o : Obj} {kvs : List (D × D)} (s : Sub G G') (c : DcH w K G a o kvs) : DcH w K G' a o kvs := by
  obtain ⟨es, ep, e1, e2⟩ := c.dat
  exact ⟨c.ns, c.ex, ⟨es, ep, e1, e2.sub s⟩, c.nd⟩
section
variable {X : Cx} {k value : Expr} {pos p p2 : Pos} {e : Nat → D → Prop} {O : List Nat} {fr : Bool} {fk fv : Env' → R D}
theorem s_dput (i : Nat) {x : Str} (hu : X.A.units + 65 < cLine) (hk : PE X k (tV X.w X.K e O fk)) (hval : PE X value (tV X.w X.K e O fv)) (hi : i ∈ O := by decide) (hN : X.N[i]? = some x := by rfl) (hv : Vis X.env.scope x := by first | exact Or.inl rfl | exact Or.inr (Or.inl rfl) | exact Or.inr (Or.inr rfl)) (hd : (x == ("__debug__" : Str)) = false := by decide) (hc : (x == ("__classdict__" : Str)) = false := by decide)
    (hs : swapsWith value (some (.Subscript (.Name x p) k p2)) pos.line X.env = pure false := by rfl) :
    PS X (.Assign [.Subscript (.Name x p) k p2] value pos) (sV X.w X.K e O O fr fun ρ => fv ρ >>= fun v => gk ρ i >>= fun kvs => fk ρ >>= fun k => dpD i kvs k v ρ) := by
  refine ⟨fun pins s σ H Dn I ⟨B, ρ, G, r, q⟩ => ?_⟩
  refine wpAny_Assign_Subscript (thn (hval.run pins s σ H (fun v H1 => tVar i σ H1 fun y H2 => tV X.w X.K e O fk σ H2 fun z H3 => ∃ (A : Addr) (o : Obj) (kvs : List (D × D)) (G : Hp) (dk dv : D), y = .ref A ∧ Sub G H3 ∧ H3 A = some (dO A o) ∧ DcH X.w X.K G A o kvs ∧ Dt X.w X.K G z dk ∧ Dt X.w X.K G v dv ∧ putOk kvs dk = true ∧ kvs.length < 16777216 ∧
      ∀ o', DcH X.w X.K G A o' (dput kvs dk dv) → Dn.nx σ (upd H3 A (dO A o'))) I ?_) fun u s1 ⟨v, H1, I1, rv, q1⟩ => thn ((pv i hN hv hd hc).run pins s1 σ H1 _ I1 q1) fun ov s2 ⟨y, H2, I2, ry, q2⟩ => thn (hk.run pins s2 σ H2 _ I2 q2) fun iv s3 ⟨z, H3, I3, rz, q3⟩ => ?_) hs
  · refine ⟨B, ρ, G, r, gd_mono (gd_bind.mp q) fun dv q v G1 H1 g1 tv => ?_⟩
    obtain ⟨kvs, e0, q⟩ := gk_in (gd_bind.mp q)
    obtain ⟨A, s0, o, n1, n2⟩ := r.own i _ e0 hi
    refine ⟨.ref A, s0, B, ρ, G1, r.grow g1, gd_mono (gd_bind.mp q) fun dk q z G2 H2 g2 tz => ?_⟩
    unfold dpD at q
    split at q
    · rename_i hq
      obtain ⟨ob, ho, c⟩ := o.dct
      have g12 := g1.trans g2
      have ho2 := g12.keep A _ ho
      have c2 := c.sub (g12.up r.sub)
      refine ⟨A, ob, kvs, G2, dk, dv, rfl, g12.sub, ho2, c2, tz, tv.sub (g2.up g1.sub), hq.1, hq.2, fun o' c' => ?_⟩
      exact q _ G2 _ (g12.up r.sub) ((r.grow g12).wr hi e0 s0 (c'.own upd_same))
    · exact q.elim
  · obtain ⟨A, o, kvs, G3, dk, dv, rfl, sb, ho, c, tz, tv, ok, hl, q4⟩ := q3
    obtain rfl : ov = Value.ref A := ry
    refine setItem_of (dc_type I3 ho c) (dset_core (show X.A.in1.units + 9 < cLine by show X.A.units + 1 + 9 < cLine; omega) I3 sb ho c rz tz rv tv ok (by rw [sizeLine_eq]; omega) fun s' o' I' c' => ⟨σ, _, I', q4 o' c'⟩)
end

/-! ### x[k], x a dict of one's own -/
def dgD (kvs : List (D × D)) (k : D) : R (Option D) := if putOk kvs k = true then .ok (dfind kvs k) else stk
section
variable {X : Cx} {pins : List (Addr × Obj)} {σ : L2.St} {G H : Hp} {s : Shared} {a : Addr} {A : Around} {E : Value → Shared → Prop}
/-- what a look at a key finds: as a map of plain keys, or of tuples -/
theorem dlook {o : Obj} {kvs : List (D × D)} {x : V} {u : Value} {dk : D} (I : Inv X pins σ H s) (sb : Sub G H) (hg : s.heap.get? a = some o) (c : DcH X.w X.K G a o kvs) (rx : RelV x u) (tx : Dt X.w X.K G x dk) (ok : putOk kvs dk = true) :
    (∃ k f, (mixKind X.prog X.w).is k u = true ∧ s.heap.MapOf (mixKind X.prog X.w) a f ∧ (match dfind kvs dk with
      | some dv => ∃ u vv, f k = some u ∧ RelV vv u ∧ Dt X.w X.K G vv dv
      | none => f k = none)) ∨
    (∃ b k xs, u = .ref b ∧ (nestedKind X.prog X.w).is s.heap k b ∧ s.heap.DictOfH (nestedKind X.prog X.w) a xs ∧ xs.length = kvs.length ∧ (match dfind kvs dk with
      | some dv => ∃ a u vv, atKey xs k = some (a, u) ∧ RelV vv u ∧ Dt X.w X.K G vv dv
      | none => atKey xs k = none)) := by
  obtain ⟨es, ep, hd, t⟩ := c.dat
  unfold putOk at ok
  rw [Bool.or_eq_true, Bool.and_eq_true, Bool.and_eq_true] at ok
  rcases ok with ⟨ha, hk⟩ | ⟨ha, hk⟩
  · obtain ⟨k, hk⟩ := Option.isSome_iff_exists.mp hk
    exact .inl ⟨k, _, atom_is rx tx hk, ⟨o, es, ep, hg, c.ex, hd, fun e he => es_keys t ha e (Array.mem_toList_iff.mpr he), fun _ => rfl⟩, dc_find hk t ha⟩
  · obtain ⟨k, hk⟩ := Option.isSome_iff_exists.mp hk
    obtain ⟨hn, hdp, ds, e1⟩ := tk_nk hk
    obtain ⟨xs, xe⟩ := ents_of I sb t ha
    obtain ⟨h1, h2, _⟩ := xe.map (P := X.prog)
    have lv : xs.length = kvs.length := by
      have := congrArg List.length (tk_keys (tk_of xe))
      rw [List.length_map, List.length_map] at this
      exact this.symm
    subst e1
    cases tx with
    | tup q1 q2 =>
      rename_i b ys
      obtain rfl : u = Value.ref b := rx
      exact .inr ⟨b, k, xs, rfl, ⟨nk_is I sb _ k _ _ hn (.tup q1 q2) (show RelV (.ref b) (.ref b) from rfl), hdp⟩, ⟨o, es, ep, hg, c.ex, hd, h1, h2, xe.nodup c.nd⟩, lv, xe.find hn⟩
theorem dget_core {o : Obj} {kvs : List (D × D)} {x : V} {u : Value} {dk dv : D} {Q : Value → Shared → Prop} (hu : A.units + 9 < cLine) (I : Inv X pins σ H s) (sb : Sub G H) (hg : s.heap.get? a = some o) (c : DcH X.w X.K G a o kvs)
    (rx : RelV x u) (tx : Dt X.w X.K G x dk) (ok : putOk kvs dk = true) (hf : dfind kvs dk = some dv)
    (h : ∀ vv u' s', Inv X pins σ H s' → RelV vv u' → Dt X.w X.K G vv dv → Q u' s') : wpAny (model X.prog X.w) A (getItem (.ref a) u) Q E s := by
  rcases dlook I sb hg c rx tx ok with ⟨k, f, h1, h2, h3⟩ | ⟨b, k, xs, rfl, h1, h2, _, h3⟩
  · rw [hf] at h3
    obtain ⟨u', vv, e1, e2, e3⟩ := h3
    exact wpAny_getItem_of h1 h2 e1 (h vv u' _ (I.tok _) e2 e3)
  · rw [hf] at h3
    obtain ⟨a', u', vv, e1, e2, e3⟩ := h3
    exact wpAny_getItem_heap (knd := nestedKind X.prog X.w) (show A.units + 1 + 8 < cLine by omega) h1 h2 e1 (h vv u' _ (I.tok _) e2 e3)
theorem dget1_core {o : Obj} {kvs : List (D × D)} {x : V} {u : Value} {dk : D} {Q : Value → Shared → Prop} (hu : A.units + 9 < cLine) (I : Inv X pins σ H s) (sb : Sub G H) (hg : s.heap.get? a = some o) (c : DcH X.w X.K G a o kvs)
    (rx : RelV x u) (tx : Dt X.w X.K G x dk) (ok : putOk kvs dk = true)
    (h : ∀ vv u' s', Inv X pins σ H s' → RelV vv u' → Dt X.w X.K G vv ((dfind kvs dk).getD .none) → Q u' s') : wpAny (model X.prog X.w) A (call (.builtin "dict.get") [.ref a, u]) Q E s := by
  have hT : s.TypeIs (.ref a) "dict" := ⟨o, hg, c.ex.1⟩
  rcases dlook I sb hg c rx tx ok with ⟨k, f, h1, h2, h3⟩ | ⟨b, k, xs, rfl, h1, h2, _, h3⟩
  · refine call_meetsIn PySem.F.slot_dict_get hT PySem.F.entry_dict_get (PySem.F.args_dict_get_2 _ _) (meets_dict_get (mixKind X.prog X.w) a h1 c.ns) ⟨_, h2, ?_⟩
    cases q : dfind kvs dk with
    | some dv =>
      rw [q] at h3 h
      obtain ⟨u', vv, e1, e2, e3⟩ := h3
      rw [e1]
      exact h vv u' _ (I.tok _) e2 e3
    | none =>
      rw [q] at h3 h
      rw [show f k = none from h3]
      exact h .non .none _ (I.tok _) rfl .non
  · refine call_meetsIn PySem.F.slot_dict_get hT PySem.F.entry_dict_get (PySem.F.args_dict_get_2 _ _) (meetsH_dict_get (nestedKind X.prog X.w) a b c.ns) ⟨show A.units + 1 + 8 < cLine by omega, k, xs, h1, h2, ?_⟩
    cases q : dfind kvs dk with
    | some dv =>
      rw [q] at h3 h
      obtain ⟨a', u', vv, e1, e2, e3⟩ := h3
      rw [e1]
      exact h vv u' _ (I.tok _) e2 e3
    | none =>
      rw [q] at h3 h
      rw [show atKey xs k = none from h3]
      exact h .non .none _ (I.tok _) rfl .non
theorem dget2_core {o : Obj} {kvs : List (D × D)} {x z : V} {u r : Value} {dk dz : D} {Q : Value → Shared → Prop} (hu : A.units + 9 < cLine) (I : Inv X pins σ H s) (sb : Sub G H) (hg : s.heap.get? a = some o) (c : DcH X.w X.K G a o kvs)
    (rx : RelV x u) (tx : Dt X.w X.K G x dk) (rz : RelV z r) (tz : Dt X.w X.K G z dz) (ok : putOk kvs dk = true)
    (h : ∀ vv u' s', Inv X pins σ H s' → RelV vv u' → Dt X.w X.K G vv ((dfind kvs dk).getD dz) → Q u' s') : wpAny (model X.prog X.w) A (call (.builtin "dict.get") [.ref a, u, r]) Q E s := by
  have hT : s.TypeIs (.ref a) "dict" := ⟨o, hg, c.ex.1⟩
  rcases dlook I sb hg c rx tx ok with ⟨k, f, h1, h2, h3⟩ | ⟨b, k, xs, rfl, h1, h2, _, h3⟩
  · refine call_meetsIn PySem.F.slot_dict_get hT PySem.F.entry_dict_get (PySem.F.args_dict_get_3 _ _ _) (meets_dict_get_default (mixKind X.prog X.w) a h1 c.ns r) ⟨_, h2, ?_⟩
    cases q : dfind kvs dk with
    | some dv =>
      rw [q] at h3 h
      obtain ⟨u', vv, e1, e2, e3⟩ := h3
      rw [e1]
      exact h vv u' _ (I.tok _) e2 e3
    | none =>
      rw [q] at h3 h
      rw [show f k = none from h3]
      exact h z r _ (I.tok _) rz tz
  · refine call_meetsIn PySem.F.slot_dict_get hT PySem.F.entry_dict_get (PySem.F.args_dict_get_3 _ _ _) (meetsH_dict_get_default (nestedKind X.prog X.w) a b c.ns r) ⟨show A.units + 1 + 8 < cLine by omega, k, xs, h1, h2, ?_⟩
    cases q : dfind kvs dk with
    | some dv =>
      rw [q] at h3 h
      obtain ⟨a', u', vv, e1, e2, e3⟩ := h3
      rw [e1]
      exact h vv u' _ (I.tok _) e2 e3
    | none =>
      rw [q] at h3 h
      rw [show atKey xs k = none from h3]
      exact h z r _ (I.tok _) rz tz
end
section
variable {X : Cx} {b : Expr} {pos p : Pos} {e : Nat → D → Prop} {O : List Nat} {fb : Env' → R D}
theorem v_dgo (i : Nat) {x : Str} (hu : X.A.units + 65 < cLine) (hb : PE X b (tV X.w X.K e O fb)) (hi : i ∈ O := by decide) (hN : X.N[i]? = some x := by rfl) (hv : Vis X.env.scope x := by first | exact Or.inl rfl | exact Or.inr (Or.inl rfl) | exact Or.inr (Or.inr rfl)) (hd : (x == ("__debug__" : Str)) = false := by decide) (hc : (x == ("__classdict__" : Str)) = false := by decide)
    (hs : PlainIx b := by exact fun _ _ => rfl) : PE X (.Subscript (.Name x p) b pos) (tV X.w X.K e O fun ρ => gk ρ i >>= fun kvs => fb ρ >>= fun y => dgD kvs y >>= opt) := by
  refine pe_imp (pe_ix (r := fun x y H Q => ∃ G dk A o kvs dv, x = .ref A ∧ Sub G H ∧ H A = some (dO A o) ∧ DcH X.w X.K G A o kvs ∧ Dt X.w X.K G y dk ∧ putOk kvs dk = true ∧ dfind kvs dk = some dv ∧ ∀ v, Dt X.w X.K G v dv → Q v H) ?_ (pv i hN hv hd hc) hb hs) fun σ H Q ⟨B, ρ, G, r, q⟩ => ?_
  · intro value slice pins s σ H x y v u Q I rx ry ⟨G, dk, A, o, kvs, dv, ex, sb, hH, c, ty, ok, hf, q⟩ hs
    subst ex
    obtain rfl : v = Value.ref A := rx
    exact tail_any (dc_type I hH c) slot_dict_getitem.lookup (dget_core (show X.A.units + 9 < cLine by omega) I sb (I.hok A _ hH).1 c ry ty ok hf fun vv u' s' I' r' t' => ⟨vv, H, I', r', q vv t'⟩) hs
  · obtain ⟨kvs, e0, q⟩ := gk_in (gd_bind.mp q)
    obtain ⟨A, s0, o, n1, n2⟩ := r.own i _ e0 hi
    refine ⟨.ref A, s0, B, ρ, G, r, gd_mono (gd_bind.mp q) fun db q y G1 H1 g1 ty => ?_⟩
    obtain ⟨ob, ho, c⟩ := o.dct
    have q := gd_bind.mp q
    unfold dgD at q
    split at q
    · rename_i ok
      obtain ⟨dv, ev, q⟩ := opt_in (show gd (opt (dfind kvs db)) _ e from q)
      exact ⟨G1, db, A, ob, kvs, dv, rfl, g1.sub, g1.keep A _ ho, c.sub (g1.up r.sub), ty, ok, ev, fun v t => q v G1 H1 g1 t⟩
    · exact q.elim
end
end Vs

set_option Elab.async false
set_option linter.all false
set_option maxRecDepth 100000
/-! dicts: displays, walked, len, get; list(range), range with a step. -/
namespace Vs
open PySem PySem.Spec PyProof.Rows L2

/-! ### {} -/
abbrev oE : Obj := { cls := .type "dict", data := .dict #[] }
section
variable {X : Cx} {pos : Pos} {e : Nat → D → Prop} {O : List Nat}
theorem dcE {w : World} {K : PySem.W.Frag} {G : Hp} {a : Addr} (h : (a == sysModules) = false) : DcH w K G a oE [] := ⟨h, ⟨rfl, rfl, rfl⟩, ⟨#[], 0, rfl, .nil⟩, List.nodup_nil⟩
theorem big_ns {pins : List (Addr × Obj)} {σ : L2.St} {H : Hp} {s : Shared} (I : Inv X pins σ H s) : (s.heap.objs.size == sysModules) = false := beq_eq_false_iff_ne.mpr (Ne.symm (Nat.ne_of_lt I.big))
theorem none_sub {G H : Hp} (s : Sub G H) {a : Addr} (n : H a = none) : G a = none := by
  cases z : G a with
  | none => rfl
  | some o => rw [s a o z] at n; cases n
theorem o_d0 : PE X (.Dict [] [] pos) (tO X.w X.K e O fun _ => .ok (.dict [])) := ⟨fun pins s σ H Q I ⟨B, ρ, G, r, q⟩ => by
  have hn := I.hok.fresh (Nat.le_refl s.heap.objs.size)
  have I1 := I.laid (a := s.heap.objs.size) (o := dO s.heap.objs.size oE) (h' := s.heap.push oE) (t' := s.toks) (fun _ _ q => Heap.get?_push_of_some _ q) (Nat.le_refl _) (dO_ok (Heap.get?_push_size _ rfl))
  exact wpAny_Dict_empty ⟨.ref s.heap.objs.size, _, I1, rfl, q _ G _ (Gr.own r.sub hn) hn (none_sub r.sub hn) ((dcE (big_ns I)).own upd_same)⟩⟩
end

/-! ### {k: v, ..} -/
inductive PrA (w : World) (K : PySem.W.Frag) (G : Hp) : List (V × V) → List (D × D) → Prop
  | nil : PrA w K G [] []
  | cons {x y : V} {dk dv : D} {vs : List (V × V)} {ps : List (D × D)} : Dt w K G x dk → Dt w K G y dv → PrA w K G vs ps → PrA w K G ((x, y) :: vs) ((dk, dv) :: ps)
def dputs : List (D × D) → List (D × D) → R (List (D × D))
  | acc, [] => .ok acc
  | acc, (k, v) :: ps => if putOk acc k = true then dputs (dput acc k v) ps else stk
structure DPs (X : Cx) (e : Nat → D → Prop) (O : List Nat) (pos : Pos) (keys : List (Option Expr)) (values : List Expr) (fp : Env' → R (List (D × D))) : Prop where
  run : ∀ (pins : List (Addr × Obj)) (s : Shared) (σ : L2.St) (H : Hp) (Q : List (V × V) → Hp → Prop), Inv X pins σ H s →
    (∃ B ρ G, Rp X.w X.K B O ρ σ G H ∧ gd (fp ρ) (fun ps => ∀ vs G' H', Gr G H G' H' → PrA X.w X.K G' vs ps → Q vs H') e) →
    wpAny (model X.prog X.w) X.A (evalPairs (pairTrees keys values X.env pos)) (fun us s' => ∃ vs H', Inv X pins σ H' s' ∧ VV vs us ∧ Q vs H') X.xe s
section
variable {X : Cx} {pos : Pos} {e : Nat → D → Prop} {O : List Nat} {k v : Expr} {ks : List (Option Expr)} {vs : List Expr} {fk fv : Env' → R D} {fp : Env' → R (List (D × D))}
theorem p_nil : DPs X e O pos [] [] (fun _ => .ok []) := ⟨fun pins s σ H Q I ⟨B, ρ, G, r, q⟩ => pairTrees_nil_walk ⟨[], H, I, .nil, q [] G H r.here .nil⟩⟩
theorem p_cons (hk : PE X k (tV X.w X.K e O fk)) (hv : PE X v (tV X.w X.K e O fv)) (hr : DPs X e O pos ks vs fp) :
    DPs X e O pos (some k :: ks) (v :: vs) (fun ρ => fk ρ >>= fun x => fv ρ >>= fun y => fp ρ >>= fun ps => .ok ((x, y) :: ps)) := ⟨fun pins s σ H Q I ⟨B, ρ, G, r, q⟩ => by
  refine pairTrees_cons_walk (thn (hk.run pins s σ H (fun x H1 => tV X.w X.K e O fv σ H1 fun y H2 => ∃ B ρ G, Rp X.w X.K B O ρ σ G H2 ∧ gd (fp ρ) (fun ps => ∀ vs G' H', Gr G H2 G' H' → PrA X.w X.K G' vs ps → Q ((x, y) :: vs) H') e) I ⟨B, ρ, G, r, gd_mono (gd_bind.mp q) fun dx q x G1 H1 g1 tx => ⟨B, ρ, G1, r.grow g1, gd_mono (gd_bind.mp q) fun dy q y G2 H2 g2 ty => ?_⟩⟩) fun u s1 ⟨x, H1, I1, rx, q1⟩ => thn (hv.run pins s1 σ H1 _ I1 q1) fun w2 s2 ⟨y, H2, I2, ry, q2⟩ =>
    thn (hr.run pins s2 σ H2 _ I2 q2) fun ws s3 ⟨ps, H3, I3, rel, q3⟩ => ⟨(x, y) :: ps, H3, I3, .cons ⟨rx, ry⟩ rel, q3⟩)
  refine ⟨B, ρ, G2, (r.grow g1).grow g2, gd_mono (gd_bind.mp q) fun ps q vs G3 H3 g3 tp => ?_⟩
  exact q _ G3 H3 ((g1.trans g2).trans g3) (.cons (tx.sub ((g2.trans g3).up g1.sub)) (ty.sub (g3.up g2.sub)) tp)⟩
theorem store_all {pins : List (Addr × Obj)} {σ : L2.St} {a : Addr} {A : Around} {E : Value → Shared → Prop} (hu : A.units + 9 < cLine) : ∀ {us : List (Value × Value)} {vs : List (V × V)} {ps kvs0 kvs : List (D × D)} {G H : Hp} {s : Shared} {o : Obj} {Q : PUnit → Shared → Prop}, Inv X pins σ H s → Sub G H → H a = some (dO a o) → DcH X.w X.K G a o kvs0 → VV vs us → PrA X.w X.K G vs ps → dputs kvs0 ps = .ok kvs → kvs0.length + ps.length ≤ sizeLine → G a = none →
    (∀ s' o', Inv X pins σ (upd H a (dO a o')) s' → DcH X.w X.K G a o' kvs → Q PUnit.unit s') → wpAny (model X.prog X.w) A (storeAll a us) Q E s
  | _, _, _, kvs0, kvs, G, H, s, o, Q, I, sb, hH, c, .nil, .nil, hd, hl, _, h => by
    cases hd
    unfold storeAll
    rw [List.forIn_nil]
    refine wpAny_pure (h s o ?_ c)
    have : upd H a (dO a o) = H := by
      funext b; unfold upd; split
      · rename_i e1; rw [e1, hH]
      · rfl
    rw [this]; exact I
  | _, _, _, kvs0, kvs, G, H, s, o, Q, I, sb, hH, c, .cons rv rvs, .cons (dk := dk) (dv := dv) tx ty ts, hd, hl, hg, h => by
    unfold dputs at hd
    split at hd
    · rename_i ok
      rw [List.length_cons] at hl
      unfold storeAll
      rw [List.forIn_cons]
      refine wpAny_bind (wpAny_bind (dset_core hu I sb hH c rv.1 tx rv.2 ty ok (by omega) fun s' o' I' c' => wpAny_pure ?_))
      have s2 : Sub G (upd H a (dO a o')) := fun b u q => by rw [upd_ne (ne_of_none q hg)]; exact sb b u q
      have l2 := dput_len kvs0 dk dv
      refine store_all hu I' s2 upd_same c' rvs ts hd (by omega) hg fun s2 o2 I2 c2 => h s2 o2 ?_ c2
      rw [upd_upd] at I2
      exact I2
    · cases hd
theorem o_dd {keys : List (Option Expr)} {values : List Expr} (hu : X.A.units + 65 < cLine) (h : DPs X e O pos keys values fp) (hall : keys.all (·.isSome) = true := by rfl) (hl : keys.length = values.length := by rfl) (h0 : keys ≠ [] := by exact fun z => nomatch z) (h15 : keys.length ≤ 15 := by decide) :
    PE X (.Dict keys values pos) (tO X.w X.K e O fun ρ => fp ρ >>= fun ps => lenOk ps.length >>= fun _ => noX (dputs [] ps) >>= fun kvs => .ok (.dict kvs)) := ⟨fun pins s σ H Q I ⟨B, ρ, G, r, q⟩ => by
  have hn := I.hok.fresh (Nat.le_refl s.heap.objs.size)
  have hns := big_ns I
  generalize hp : s.heap.objs.size = p at hn hns
  have I1 : Inv X pins σ (upd H p (dO p oE)) { s with heap := s.heap.push oE } := by
    have := I.laid (a := s.heap.objs.size) (o := dO s.heap.objs.size oE) (h' := s.heap.push oE) (t' := s.toks) (fun _ _ q => Heap.get?_push_of_some _ q) (Nat.le_refl _) (dO_ok (Heap.get?_push_size _ rfl))
    rw [hp] at this
    exact this
  refine wpAny_Dict_any hall hl h0 h15 (thn (h.run pins _ σ _ (fun vs H2 => ∃ G2 ps kvs, Gr G H G2 H2 ∧ PrA X.w X.K G2 vs ps ∧ H2 p = some (dO p oE) ∧ G2 p = none ∧ ps.length ≤ sizeLine ∧ dputs [] ps = .ok kvs ∧ ∀ o', DcH X.w X.K G2 p o' kvs → Q (.ref p) (upd H2 p (dO p o'))) I1 ?_) fun us s2 ⟨vs, H2, I2, rel, G2, ps, kvs, g2, tp, hH2, nG2, hlen, hd, q2⟩ => ?_)
  · have gA := Gr.own (o := dO p oE) r.sub hn
    have rA := r.grow gA
    refine ⟨B, ρ, G, rA, gd_mono (gd_bind.mp q) fun ps q vs G' H' g' tp => ?_⟩
    obtain ⟨hlen, q⟩ := lenOk_in (gd_bind.mp q)
    obtain ⟨kvs, ek, q⟩ := noX_in (gd_bind.mp q)
    have neA : upd H p (dO p oE) p ≠ none := by rw [upd_same]; exact fun z => nomatch z
    have nG : G' p = none := (g'.fix p neA).trans (none_sub r.sub hn)
    refine ⟨G', ps, kvs, gA.trans g', tp, g'.keep p _ upd_same, nG, hlen, ek, fun o' c' => ?_⟩
    exact q p G' _ ((gA.trans g').wr hn nG) hn nG (c'.own upd_same)
  · rw [hp]
    exact store_all (show X.A.units + 9 < cLine by omega) I2 g2.sub hH2 (dcE hns) rel tp hd (by rw [List.length_nil]; omega) nG2 fun s3 o' I3 c' => ⟨.ref p, _, I3, rfl, q2 o' c'⟩⟩
end

/-! ### for k in d -/
def dkOk (kvs : List (D × D)) : Bool := allAt kvs || allTk kvs
/-- the dict's keys -/
def Itdc (K : PySem.W.Frag) (a : Addr) (o : Obj) (ks : List V) : It := ⟨fun i H => DcA K H a o ∧ i < ks.length, fun i H x H' => H' = H ∧ ks[i]? = some x, fun i H => DcA K H a o ∧ ks.length ≤ i⟩
theorem turn_dc {P : Program} {w : World} {K : PySem.W.Frag} {tg : Expr} {a : Addr} {o : Obj} {es : Array DictEntry} {ep : Nat} {ks : List V} (it : Addr) (hod : o.data = .dict es ep) (hsz : es.size = ks.length) (hk : ∀ (i : Nat) (x : V), ks[i]? = some x → ∃ en, es[i]? = some en ∧ RelV x en.key) :
    Turn P w K tg (Itdc K a o ks) [it] it (fun i h => h.IsKeyIter it a i es.size ep) where
  mem := by simp
  obj := fun i h st b hb => by
    have e : b = it := by simpa using hb
    subst e
    obtain ⟨oi, e, c, dd⟩ := st
    exact ⟨oi, e, fun v z => by rw [dd] at z; cases z⟩
  keep := fun i h h' st k => st.at fun oi e => k it (by simp) oi e
  item := by
    intro X hP hw hK hc i pins s σ H E I hf st hg
    subst hP hw hK
    obtain ⟨hd, hi⟩ := hg
    obtain ⟨f0, f1, f2, f3, f4, f5⟩ := hf it (by simp)
    have hgd := dc_at I (Sub.refl H) hd
    obtain ⟨en, hen, hkey⟩ := hk i _ (List.getElem?_eq_getElem hi)
    refine next_key_item st hgd hod rfl hen fun h' st' sb => ?_
    have I1 : Inv X pins σ H { s with heap := h' } := I.turned (t' := s.toks) (fun b ob hb e => (sb.2 b hb).trans e) f0 f1 f3 f4 f5
    obtain ⟨oi, e, c, dd⟩ := id st'
    exact ⟨en.key, rfl, go_of (s := { s with heap := h' }) e c dd (by decide) ⟨ks[i], H, I1, hkey, ⟨rfl, List.getElem?_eq_getElem hi⟩, st', fun b hb => (hf b hb).1⟩⟩
  done := by
    intro X hP hw hK hc i pins s σ H E I hf st hg
    subst hP hw hK
    obtain ⟨hd, hi⟩ := hg
    obtain ⟨f0, f1, f2, f3, f4, f5⟩ := hf it (by simp)
    have hgd := dc_at I (Sub.refl H) hd
    exact next_key_end (I.ok.hd hc) st hgd hod rfl (by rw [hsz]; exact hi) fun h' eb => ⟨rfl, I.turned (t' := s.toks) (fun b ob hb e => eb b ob hb e) f0 f1 f3 f4 f5⟩
  self := fun A i s Q E st h => by
    refine wpAny_pyIter_slot st.typeIs F.slot_dict_keyiterator_iter (wpAny_call_entry F.slot_dict_keyiterator_iter st.typeIs F.entry_dict_keyiterator_iter ?_ (F.args_dict_keyiterator_iter_1 _))
    show wpAny _ _ (PySem.ret (.ref it)) _ _ s
    exact wpAny_pure ⟨_, rfl, "dict_keyiterator", _, st.typeIs, F.slot_dict_keyiterator_next.lookup, h⟩
section
variable {w : World} {K : PySem.W.Frag} {G : Hp}
/-- the keys of a dict, as values -/
theorem es_vals : ∀ {es : List DictEntry} {kvs : List (D × D)}, DtEs w K G es kvs → ∃ ks : List V, DtAll w K G ks (kvs.map (·.1)) ∧ ks.length = es.length ∧ ∀ (i : Nat) (x : V), ks[i]? = some x → ∃ en, es[i]? = some en ∧ RelV x en.key
  | _, _, .nil => ⟨[], .nil, rfl, fun i x h => by simp at h⟩
  | _, _, .cons (e := e) (kv := kv) r1 t1 hh r2 t2 ts => by
    obtain ⟨ks, h1, h2, h3⟩ := es_vals ts
    refine ⟨kv :: ks, .cons t1 h1, by rw [List.length_cons, List.length_cons, h2], fun i x h => ?_⟩
    cases i with
    | zero =>
      simp only [List.getElem?_cons_zero, Option.some.injEq] at h
      subst h
      exact ⟨e, rfl, r1⟩
    | succ j =>
      simp only [List.getElem?_cons_succ] at h ⊢
      exact h3 j x h
end
def itK : D → R (List D)
  | .dict kvs => if dkOk kvs = true then .ok (kvs.map (·.1)) else stk
  | _ => stk
theorem dkOk_scr {ds : List D} (h : dkOk [(.none, .list ds), (.none, .none)] = true) : False := by simp [dkOk, allAt, allTk, atomK, tk] at h
section
variable {X : Cx} {a tgt : Expr} {e : Nat → D → Prop} {O : List Nat} {fa : Env' → R D}
theorem i_key (h : PE X a (tV X.w X.K e O fa)) : PI X tgt a (iV X.w X.K e O fun ρ => fa ρ >>= itK) := by
  have h0 : PI X tgt a (fun σ H R => tV X.w X.K e O fa σ H fun x H1 => ∃ A o es ep ks, x = .ref A ∧ DcA X.K H1 A o ∧ (A == sysModules) = false ∧ o.ExactDict ∧ o.data = .dict es ep ∧ es.size = ks.length ∧ (∀ (i : Nat) (x : V), ks[i]? = some x → ∃ en, es[i]? = some en ∧ RelV x en.key) ∧ R (Itdc X.K A o ks) H1) := by
    refine ⟨fun pins s σ H R I hq => ?_⟩
    refine thn (h.run pins s σ H _ I hq) fun u s1 ⟨x, H1, I1, rx, A, o, es, ep, ks, ex, hd, hs, hx, hdt, hsz, hk, q⟩ => ?_
    subst ex
    obtain rfl : u = Value.ref A := rx
    exact iter_keys hs (dc_at I1 (Sub.refl H1) hd) hx hdt (pi_one (tk := s1.toks) I1 _ (turn_dc _ hdt hsz hk) ⟨_, Heap.get?_push_size _ rfl, rfl, rfl⟩ q)
  refine pi_imp h0 fun σ H Q ⟨B, ρ, G, r, q⟩ => ⟨B, ρ, G, r, gd_mono (gd_bind.mp q) fun d q v G1 H1 g1 t => ?_⟩
  unfold itK at q
  split at q
  · split at q
    · rename_i hk
      cases t with
      | scr _ _ => exact (dkOk_scr hk).elim
      | dct s1 s2 s3 s4 s5 s6 =>
        rename_i A o es ep
        obtain ⟨ks, h1, h2, h3⟩ := es_vals s5
        refine ⟨A, o, es, ep, ks, rfl, s1.sub g1.sub, s2, s3, s4, by rw [h2, Array.length_toList], fun i x hx => by
          obtain ⟨en, e1, e2⟩ := h3 i x hx
          exact ⟨en, by rw [← Array.getElem?_toList]; exact e1, e2⟩, q _ G1 H1 g1 ?_⟩
        have hl := h1.length
        exact {
          go := fun i G' H' q1 q2 hi => ⟨s1.sub (q1.trans q2), by rw [hl]; exact hi⟩
          stop := fun G' H' q1 q2 => ⟨s1.sub (q1.trans q2), by rw [hl]; exact Nat.le_refl _⟩
          yld := fun i d G' H' x H2 q1 q2 hd y => by
            obtain ⟨rfl, y⟩ := y
            obtain ⟨d', e2, t2⟩ := h1.get y
            rw [hd] at e2; cases e2
            exact ⟨G', Gr.refl q2, t2.sub q1⟩ }
    · exact q.elim
  · exact q.elim
end

/-! ### len(d) -/
section
variable {X : Cx} {pins : List (Addr × Obj)} {σ : L2.St} {G H : Hp} {s : Shared} {a : Addr}
theorem dof {o : Obj} {kvs : List (D × D)} (I : Inv X pins σ H s) (sb : Sub G H) (hg : s.heap.get? a = some o) (c : DcH X.w X.K G a o kvs) (ok : dkOk kvs = true) :
    (∃ vs, s.heap.DictOf (mixKind X.prog X.w) a vs ∧ vs.length = kvs.length) ∨ (∃ xs, s.heap.DictOfH (nestedKind X.prog X.w) a xs ∧ xs.length = kvs.length) := by
  obtain ⟨es, ep, hd, t⟩ := c.dat
  unfold dkOk at ok
  rw [Bool.or_eq_true] at ok
  rcases ok with ha | ha
  · obtain ⟨vs, p1, p2⟩ := at_of (P := X.prog) t ha
    have lv : vs.length = kvs.length := by
      have := congrArg List.length (at_keys p2)
      rw [List.length_map, List.length_map] at this
      exact this.symm
    exact .inl ⟨vs, ⟨o, es, ep, hg, c.ex, hd, fun e he => es_keys t ha e (Array.mem_toList_iff.mpr he), p1, at_nd2 p2 c.nd⟩, lv⟩
  · obtain ⟨xs, xe⟩ := ents_of I sb t ha
    obtain ⟨h1, h2, _⟩ := xe.map (P := X.prog)
    have lv : xs.length = kvs.length := by
      have := congrArg List.length (tk_keys (tk_of xe))
      rw [List.length_map, List.length_map] at this
      exact this.symm
    exact .inr ⟨xs, ⟨o, es, ep, hg, c.ex, hd, h1, h2, xe.nodup c.nd⟩, lv⟩
end
def lenE : List D → R D
  | [.dict kvs] => if dkOk kvs = true then lenOk kvs.length >>= fun _ => .ok (.int kvs.length) else lenD [.dict kvs]
  | ds => lenD ds
section
variable {X : Cx}
theorem dct_H {w : World} {K : PySem.W.Frag} {G : Hp} {a : Addr} {o : Obj} {es : Array DictEntry} {ep : Nat} {kvs : List (D × D)} (s2 : (a == sysModules) = false) (s3 : o.ExactDict) (s4 : o.data = .dict es ep) (s5 : DtEs w K G es.toList kvs) (s6 : (kvs.map (·.1)).Nodup) : DcH w K G a o kvs := ⟨s2, s3, ⟨es, ep, s4, s5⟩, s6⟩
theorem c_lenE : CallR X (.builtin "len") (rC X.w X.K lenE) := by
  intro pins s σ H xs us Q I rx ⟨G, ds, e, sb, t, q⟩
  unfold lenE at q
  split at q
  · split at q
    · rename_i ok
      obtain ⟨hl, q⟩ := lenOk_in (gd_bind.mp q)
      cases t with
      | cons t1 t2 =>
        cases t2
        obtain ⟨u, rfl, ru⟩ := vals1 rx
        cases t1 with
        | scr _ _ => exact (dkOk_scr ok).elim
        | dct s1 s2 s3 s4 s5 s6 =>
          rename_i A o es ep
          obtain rfl : u = Value.ref A := ru
          rcases dof I sb (dc_at I sb s1) (dct_H s2 s3 s4 s5 s6) ok with ⟨vs, d1, l1⟩ | ⟨vs, d1, l1⟩
          · refine call_len_dict s2 d1 (by rw [l1]; rw [sizeLine_eq] at hl; omega) ?_
            rw [l1]
            exact ⟨.int (_ : Nat), H, I.tok _, ⟨_, rfl⟩, q _ G H (Gr.refl sb) (.int _)⟩
          · refine call_len_dictH s2 d1 (by rw [l1]; rw [sizeLine_eq] at hl; omega) ?_
            rw [l1]
            exact ⟨.int (_ : Nat), H, I.tok _, ⟨_, rfl⟩, q _ G H (Gr.refl sb) (.int _)⟩
    · exact c_len pins s σ H xs us Q I rx ⟨G, _, e, sb, t, q⟩
  · exact c_len pins s σ H xs us Q I rx ⟨G, _, e, sb, t, q⟩
end

/-! ### d.get(k), d.get(k, x) -/
def asDk : D → R (List (D × D))
  | .dict kvs => if dkOk kvs = true then .ok kvs else stk
  | _ => stk
section
variable {X : Cx} {o a b : Expr} {apos cpos : Pos} {e : Nat → D → Prop} {O : List Nat} {fo fa fb : Env' → R D}
theorem asDk_in {d : D} {v : V} {G : Hp} {q : List (D × D) → Prop} (t : Dt X.w X.K G v d) (h : gd (asDk d) q e) : ∃ A ob kvs, v = .ref A ∧ DcA X.K G A ob ∧ DcH X.w X.K G A ob kvs ∧ q kvs := by
  unfold asDk at h
  split at h
  · split at h
    · rename_i ok
      cases t with
      | scr _ _ => exact (dkOk_scr ok).elim
      | dct s1 s2 s3 s4 s5 s6 => exact ⟨_, _, _, rfl, s1, dct_H s2 s3 s4 s5 s6, h⟩
    · exact h.elim
  · exact h.elim
theorem v_get1 (hu : X.A.units + 65 < cLine) (ho : PE X o (tV X.w X.K e O fo)) (ha : PE X a (tV X.w X.K e O fa)) (m : M1 X o "get" apos a cpos := by exact ⟨rfl, rfl, rfl, rfl⟩) : PE X (.Call (.Attribute o "get" apos) [a] [] cpos)
    (tV X.w X.K e O fun ρ => fo ρ >>= asDk >>= fun kvs => fa ρ >>= fun k => dgD kvs k >>= fun r => .ok (r.getD .none)) := by
  refine ⟨fun pins s σ H Q I ⟨B, ρ, G, r, q⟩ => ?_⟩
  refine wpAny_Call_method m.base m.few m.line PySem.F.plainAttrs_dict PySem.F.slot_dict_get PySem.F.type_dict_get (thn (ho.run pins s σ H (fun x H1 => ∃ A ob kvs G1, x = .ref A ∧ Sub G1 H1 ∧ DcA X.K G1 A ob ∧ DcH X.w X.K G1 A ob kvs ∧ tV X.w X.K e O fa σ H1 fun y H2 => ∃ G2 dk, Sub G1 G2 ∧ Sub G2 H2 ∧ Dt X.w X.K G2 y dk ∧ putOk kvs dk = true ∧ ∀ v, Dt X.w X.K G2 v ((dfind kvs dk).getD .none) → Q v H2) I ?_) fun u s1 ⟨x, H1, I1, rx, A, ob, kvs, G1, ex, sb1, dc, c, q1⟩ => ?_)
  · refine ⟨B, ρ, G, r, gd_mono (gd_bind.mp (gd_bind.mp q)) fun d q v G1 H1 g1 t => ?_⟩
    obtain ⟨A, ob, kvs, rfl, h1, h2, q⟩ := asDk_in t q
    refine ⟨A, ob, kvs, G1, rfl, g1.sub, h1, h2, B, ρ, G1, r.grow g1, gd_mono (gd_bind.mp q) fun dk q y G2 H2 g2 ty => ?_⟩
    have q := gd_bind.mp q
    unfold dgD at q
    split at q
    · rename_i ok
      exact ⟨G2, dk, g2.up g1.sub, g2.sub, ty, ok, fun v t => q v G2 H2 (g1.trans g2) t⟩
    · exact q.elim
  · subst ex
    obtain rfl : u = Value.ref A := rx
    have hg := dc_at I1 sb1 dc
    refine ⟨⟨ob, hg, c.ex.1⟩, fun b q => by cases q; exact ⟨ob, hg, c.ex.2.1⟩, ?_⟩
    rw [m.trees]
    refine Calls.callWith_builtin rfl (Calls.evalArgs_plain (Calls.spliced_cons (thn (ha.run pins s1 σ H1 _ I1 q1) fun iv s2 ⟨y, H2, I2, ry, G2, dk, sg, sb2, ty, ok, q2⟩ => Calls.spliced_nil ?_)))
    exact dget1_core (show X.A.units + 9 < cLine by omega) I2 sb2 (dc_at I2 sb2 (dc.sub sg)) (c.sub sg) ry ty ok fun vv u' s3 I3 r3 t3 => ⟨vv, H2, I3, r3, q2 vv t3⟩
theorem v_get2 (hu : X.A.units + 65 < cLine) (ho : PE X o (tV X.w X.K e O fo)) (ha : PE X a (tV X.w X.K e O fa)) (hb : PE X b (tV X.w X.K e O fb)) (m : M2 X o "get" apos a b cpos := by exact ⟨rfl, rfl, rfl, rfl⟩) : PE X (.Call (.Attribute o "get" apos) [a, b] [] cpos)
    (tV X.w X.K e O fun ρ => fo ρ >>= asDk >>= fun kvs => fa ρ >>= fun k => fb ρ >>= fun z => dgD kvs k >>= fun r => .ok (r.getD z)) := by
  refine ⟨fun pins s σ H Q I ⟨B, ρ, G, r, q⟩ => ?_⟩
  refine wpAny_Call_method m.base m.few m.line PySem.F.plainAttrs_dict PySem.F.slot_dict_get PySem.F.type_dict_get (thn (ho.run pins s σ H (fun x H1 => ∃ A ob kvs G1, x = .ref A ∧ Sub G1 H1 ∧ DcA X.K G1 A ob ∧ DcH X.w X.K G1 A ob kvs ∧ tV X.w X.K e O fa σ H1 fun y H2 => tV X.w X.K e O fb σ H2 fun z H3 => ∃ G3 dk dz, Sub G1 G3 ∧ Sub G3 H3 ∧ Dt X.w X.K G3 y dk ∧ Dt X.w X.K G3 z dz ∧ putOk kvs dk = true ∧ ∀ v, Dt X.w X.K G3 v ((dfind kvs dk).getD dz) → Q v H3) I ?_) fun u s1 ⟨x, H1, I1, rx, A, ob, kvs, G1, ex, sb1, dc, c, q1⟩ => ?_)
  · refine ⟨B, ρ, G, r, gd_mono (gd_bind.mp (gd_bind.mp q)) fun d q v G1 H1 g1 t => ?_⟩
    obtain ⟨A, ob, kvs, rfl, h1, h2, q⟩ := asDk_in t q
    refine ⟨A, ob, kvs, G1, rfl, g1.sub, h1, h2, B, ρ, G1, r.grow g1, gd_mono (gd_bind.mp q) fun dk q y G2 H2 g2 ty => ⟨B, ρ, G2, (r.grow g1).grow g2, gd_mono (gd_bind.mp q) fun dz q z G3 H3 g3 tz => ?_⟩⟩
    have q := gd_bind.mp q
    unfold dgD at q
    split at q
    · rename_i ok
      exact ⟨G3, dk, dz, (g2.trans g3).up g1.sub, g3.sub, ty.sub (g3.up g2.sub), tz, ok, fun v t => q v G3 H3 ((g1.trans g2).trans g3) t⟩
    · exact q.elim
  · subst ex
    obtain rfl : u = Value.ref A := rx
    have hg := dc_at I1 sb1 dc
    refine ⟨⟨ob, hg, c.ex.1⟩, fun b q => by cases q; exact ⟨ob, hg, c.ex.2.1⟩, ?_⟩
    rw [m.trees]
    refine Calls.callWith_builtin rfl (Calls.evalArgs_plain (Calls.spliced_cons (thn (ha.run pins s1 σ H1 _ I1 q1) fun iv s2 ⟨y, H2, I2, ry, q2⟩ =>
      Calls.spliced_cons (thn (hb.run pins s2 σ H2 _ I2 q2) fun fv s3 ⟨z, H3, I3, rz, G3, dk, dz, sg, sb3, ty, tz, ok, q3⟩ => Calls.spliced_nil ?_))))
    exact dget2_core (show X.A.units + 9 < cLine by omega) I3 sb3 (dc_at I3 sb3 (dc.sub sg)) (c.sub sg) ry ty rz tz ok fun vv u' s4 I4 r4 t4 => ⟨vv, H3, I4, r4, q3 vv t4⟩
end

/-! ### list(range(..)), range with a step -/
section
variable {X : Cx} {a b c : Expr} {p p2 pos pos2 : Pos} {e : Nat → D → Prop} {O : List Nat} {fa fb : Env' → R D} {fs : Env' → R (List D)}
def lrD (i j : Int) : R D := if i.natAbs < 4611686018427387904 ∧ j.natAbs < 4611686018427387904 ∧ (j - i).toNat ≤ 16777216 then .ok (.list (rgD i (j - i).toNat)) else stk
theorem rg_dt {w : World} {K : PySem.W.Frag} {G : Hp} (i j : Int) : DtAll w K G (rgV i j) (rgD i (j - i).toNat) := by
  unfold rgV rgD
  generalize List.range (j - i).toNat = l
  induction l with
  | nil => exact .nil
  | cons x l ih => exact .cons (.int _) ih
theorem o_lr1 (hc : X.calm = true) (hm : X.mg "list" = none) (hm2 : X.mg "range" = none) (ha : PE X a (tV X.w X.K e O fa)) (hg : Gl X "list" := by rfl) (hg2 : Gl X "range" := by rfl)
    (na : starEach [.Call (.Name "range" p2) [a] [] pos2] X.env = (false, eval (.Call (.Name "range" p2) [a] [] pos2) X.env) :: starEach [] X.env := by rfl) (na2 : starEach [a] X.env = (false, eval a X.env) :: starEach [] X.env := by rfl) :
    PE X (.Call (.Name "list" p) [.Call (.Name "range" p2) [a] [] pos2] [] pos) (tO X.w X.K e O fun ρ => fa ρ >>= fun d => asI d >>= fun i => lrD 0 i) := by
  refine pe_imp (pe_listRg hc hg hm (prg_1 hg2 hm2 ha na2) na) fun σ H Q ⟨B, ρ, G, r, q⟩ => ⟨B, ρ, G, r, gd_mono (gd_bind.mp q) fun d q v G1 H1 g1 t => ?_⟩
  obtain ⟨i, rfl, q⟩ := asI_in t (gd_bind.mp q)
  unfold lrD at q
  split at q
  · rename_i hh
    refine ⟨i, rfl, ⟨(p62 hh.1).1, (p62 hh.1).2, (p62 hh.2.1).1, (p62 hh.2.1).2, by have := hh.2.2; omega⟩, fun z nz => ?_⟩
    obtain ⟨x1, x2, x3⟩ := own_new g1.sub nz (rg_dt (w := X.w) (K := X.K) 0 i)
    exact q z G1 _ (g1.trans x1) (by
      cases y : H z with
      | none => rfl
      | some o => rw [g1.keep z o y] at nz; cases nz) x2 x3
  · exact q.elim
theorem o_lr2 (hc : X.calm = true) (hm : X.mg "list" = none) (hm2 : X.mg "range" = none) (ha : PE X a (tV X.w X.K e O fa)) (hb : PE X b (tV X.w X.K e O fb)) (hg : Gl X "list" := by rfl) (hg2 : Gl X "range" := by rfl)
    (na : starEach [.Call (.Name "range" p2) [a, b] [] pos2] X.env = (false, eval (.Call (.Name "range" p2) [a, b] [] pos2) X.env) :: starEach [] X.env := by rfl) (na2 : starEach [a, b] X.env = (false, eval a X.env) :: starEach [b] X.env := by rfl) (na3 : starEach [b] X.env = (false, eval b X.env) :: starEach [] X.env := by rfl) (hpl : (backTo pos2 (starEach [b] X.env)).any (·.1) = false := by rfl) :
    PE X (.Call (.Name "list" p) [.Call (.Name "range" p2) [a, b] [] pos2] [] pos) (tO X.w X.K e O fun ρ => fa ρ >>= fun d => fb ρ >>= fun d2 => asI d >>= fun i => asI d2 >>= fun j => lrD i j) := by
  refine pe_imp (pe_listRg hc hg hm (prg_2 hg2 hm2 ha hb na2 na3 hpl) na) fun σ H Q ⟨B, ρ, G, r, q⟩ => ⟨B, ρ, G, r, gd_mono (gd_bind.mp q) fun d q v G1 H1 g1 t => ⟨B, ρ, G1, r.grow g1, gd_mono (gd_bind.mp q) fun d2 q v2 G2 H2 g2 t2 => ?_⟩⟩
  obtain ⟨i, rfl, q⟩ := asI_in t (gd_bind.mp q)
  obtain ⟨j, rfl, q⟩ := asI_in t2 (gd_bind.mp q)
  unfold lrD at q
  split at q
  · rename_i hh
    refine ⟨i, j, rfl, rfl, ⟨(p62 hh.1).1, (p62 hh.1).2, (p62 hh.2.1).1, (p62 hh.2.1).2, by have := hh.2.2; omega⟩, fun z nz => ?_⟩
    obtain ⟨x1, x2, x3⟩ := own_new g2.sub nz (rg_dt (w := X.w) (K := X.K) i j)
    exact q z G2 _ ((g1.trans g2).trans x1) (by
      cases y : H z with
      | none => rfl
      | some o => rw [(g1.trans g2).keep z o y] at nz; cases nz) x2 x3
  · exact q.elim
end
end Vs

set_option Elab.async false
set_option linter.all false
set_option maxRecDepth 100000
/-! order, min and max of any alike data; tuple(x); lists times a number; enumerate of tuples; ranges down; constants that are tuples, dicts. -/
namespace Vs
open PySem PySem.Spec PyProof.Rows L2
open PySem.W (EachIs)

/-! ### a < b -/
def cmpOk (d : D) : Bool := d.canLay0 && decide (d.depth ≤ 60) && (match d with | .none => false | _ => true)
def ltE (a b : D) : R D := match a, b with
  | .int i, .int j => .ok (.bool (decide (i < j)))
  | a, b => if (cmpOk a && cmpOk b && PySem.W.alike a b) = true then .ok (.bool (PySem.W.dataLt a b)) else stk
theorem cmpOk_is {d : D} (h : cmpOk d = true) : d.canLay0 = true ∧ d.depth ≤ 60 ∧ d ≠ .none := by
  unfold cmpOk at h
  rw [Bool.and_eq_true, Bool.and_eq_true, decide_eq_true_eq] at h
  refine ⟨h.1.1, h.1.2, fun e => ?_⟩
  rw [e] at h
  exact Bool.false_ne_true h.2
section
variable {X : Cx}
theorem lt_both (hu : X.A.units + 65 < cLine) {pins : List (Addr × Obj)} {s : Shared} {σ : L2.St} {G H : Hp} {x y : V} {v u : Value} {da db : D} (I : Inv X pins σ H s) (rx : RelV x v) (ry : RelV y u) (sb : Sub G H) (t1 : Dt X.w X.K G x da) (t2 : Dt X.w X.K G y db) (h : (cmpOk da && cmpOk db && PySem.W.alike da db) = true) :
    ∀ (E : Value → Shared → Prop) (Q : Value → Shared → Prop), Q (.bool (PySem.W.dataLt da db)) s → wpAny (model X.prog X.w) X.A (compareOp .Lt v u) Q E s := by
  intro E Q q
  rw [Bool.and_eq_true, Bool.and_eq_true] at h
  obtain ⟨a1, a2, a3⟩ := cmpOk_is h.1.1
  obtain ⟨b1, b2, b3⟩ := cmpOk_is h.1.2
  obtain ⟨as, r1⟩ := Dp.reads I da x v (t1.dp sb a1) rx
  obtain ⟨bs, r2⟩ := Dp.reads I db y u (t2.dp sb b1) ry
  show wpAny _ _ (richCompare .Lt v u) Q E s
  refine PySem.W.rcLt_alike da db X.A s v u as bs r1 r2 h.2 a3 ?_ X.prog X.w E Q q
  have := Nat.min_le_left da.depth db.depth
  omega
theorem d_ltE (hu : X.A.units + 65 < cLine) : OpR X (compareOp .Lt) (r2 X.w X.K ltE) := by
  intro pins s σ H x y v u Q I rx ry ⟨G, da, db, e, sb, t1, t2, q⟩
  unfold ltE at q
  split at q
  · exact d_lt pins s σ H x y v u Q I rx ry ⟨G, _, _, e, sb, t1, t2, q⟩
  · split at q
    · rename_i h
      exact lt_both hu I rx ry sb t1 t2 h _ _ ⟨.bl _, H, I, rfl, q _ G H (Gr.refl sb) (.bl _)⟩
    · exact q.elim
end

/-! ### min, max of a list of alike data -/
def mmOk (ds : List D) : Bool := ds.all fun d => cmpOk d && ds.all fun d' => PySem.W.alike d d'
def minE : List D → R D
  | [.list (d :: ds)] => if mmOk (d :: ds) = true then .ok (PySem.W.minD d ds) else stk
  | [.tuple (d :: ds)] => if mmOk (d :: ds) = true then .ok (PySem.W.minD d ds) else stk
  | _ => stk
def maxE : List D → R D
  | [.list (d :: ds)] => if mmOk (d :: ds) = true then .ok (PySem.W.maxD d ds) else stk
  | [.tuple (d :: ds)] => if mmOk (d :: ds) = true then .ok (PySem.W.maxD d ds) else stk
  | _ => stk
theorem mmOk_is {ds : List D} (h : mmOk ds = true) : (∀ d ∈ ds, d.canLay0 = true ∧ d.depth ≤ 60) ∧ PySem.W.AlikeAll ds := by
  unfold mmOk at h
  rw [List.all_eq_true] at h
  have k : ∀ d ∈ ds, cmpOk d = true ∧ ∀ d' ∈ ds, PySem.W.alike d d' = true := fun d hd => by
    have := h d hd
    rw [Bool.and_eq_true, List.all_eq_true] at this
    exact this
  exact ⟨fun d hd => let ⟨a, b, _⟩ := cmpOk_is (k d hd).1; ⟨a, b⟩, fun x hx y hy => (k x hx).2 y hy, fun x hx => (cmpOk_is (k x hx).1).2.2⟩
theorem fold_mem {α : Type} (f : α → α → Bool) : ∀ (xs : List α) (x : α), xs.foldl (fun a y => if f y a then y else a) x ∈ x :: xs
  | [], x => List.mem_singleton_self _
  | y :: ys, x => by
    rw [List.foldl_cons]
    rcases List.mem_cons.mp (fold_mem f ys (if f y x = true then y else x)) with e | e
    · rw [e]
      split
      · exact List.mem_cons_of_mem _ List.mem_cons_self
      · exact List.mem_cons_self
    · exact List.mem_cons_of_mem _ (List.mem_cons_of_mem _ e)
theorem reads_all {h : Heap} : ∀ {us : List Value} {ds : List D}, EachIs (fun v b => ∃ as, Reads h v b as) us ds → ∃ as, ReadsAll h us ds as
  | _, _, .nil => ⟨_, .nil⟩
  | _, _, .cons ⟨as, r⟩ e => by
    obtain ⟨bs, rs⟩ := reads_all e
    exact ⟨_, .cons r rs⟩
theorem each_get {α β : Type} {P : α → β → Prop} : ∀ {us : List α} {ds : List β}, EachIs P us ds → ∀ (i : Nat) (v : α), us[i]? = some v → ∃ d, ds[i]? = some d ∧ P v d
  | _, _, .nil, i, v, h => by simp at h
  | _, _, .cons r e, 0, v, h => by simp at h; subst h; exact ⟨_, rfl, r⟩
  | _, _, .cons r e, i + 1, v, h => by
    obtain ⟨d, h1, h2⟩ := each_get e i v (by simpa using h)
    exact ⟨d, by simpa using h1, h2⟩
theorem depth_all : ∀ {ds : List D}, (∀ d ∈ ds, d.depth ≤ 60) → PyData.depthAll ds ≤ 60
  | [], _ => Nat.zero_le _
  | d :: ds, h => by
    show max d.depth (PyData.depthAll ds) ≤ 60
    exact Nat.max_le.mpr ⟨h d List.mem_cons_self, depth_all fun d hd => h d (List.mem_cons_of_mem _ hd)⟩
section
variable {X : Cx}
theorem mm_run (hu : X.A.units + 65 < cLine) {pins : List (Addr × Obj)} {σ : L2.St} {G H : Hp} {s : Shared} {its : List Value} {ys : List V} {d m : D} {ds : List D} {Q : VK} {e : Nat → D → Prop} (I : Inv X pins σ H s) (sb : Sub G H) (rv : Vals ys its) (a1 : DtAll X.w X.K G ys (d :: ds)) (ok : mmOk (d :: ds) = true) (hm : m ∈ d :: ds)
    (q : ∀ v G' H', Gr G H G' H' → Dt X.w X.K G' v m → Q v H') :
    ∃ as, ReadsAll s.heap its (d :: ds) as ∧ PySem.W.AlikeAll (d :: ds) ∧ PyData.depthAll (d :: ds) ≤ 60 ∧ ∀ (i : Nat) (v : Value) (h' : Heap) (tk : Nat) (bs : List Addr), its[i]? = some v → Reads h' v m bs → (∀ b o, s.heap.get? b = some o → h'.get? b = some o) → EP X pins σ Q v { s with heap := h', toks := tk } := by
  obtain ⟨k1, k2⟩ := mmOk_is ok
  have ea := rd_of rv a1
  obtain ⟨as, ra⟩ := reads_all (rd_reads I sb k1 ea)
  refine ⟨as, ra, k2, depth_all fun d hd => (k1 d hd).2, fun i v h' tk bs hv hr hk => ?_⟩
  obtain ⟨d0, e0, v0, r0, t0⟩ := each_get ea i v hv
  obtain ⟨d1, e1, as1, r1⟩ := each_get (rd_reads I sb k1 ea) i v hv
  rw [e0] at e1; cases e1
  have m0 : d0 ∈ d :: ds := List.mem_of_getElem? e0
  have := PySem.W.alike_unique d0 m v as1 bs (k2.1 _ m0 _ hm) (Reads.keeps hk r1) hr
  subst this
  exact ⟨v0, H, I.kept hk, r0, q v0 G H (Gr.refl sb) t0⟩
theorem c_minE (hu : X.A.units + 65 < cLine) (hc : X.calm = true) : CallR X (.builtin "min") (rC X.w X.K minE) := by
  intro pins s σ H xs us Q I rx ⟨G, ds, e, sb, t, q⟩
  unfold minE at q
  split at q
  · split at q
    · rename_i d ds ok
      cases t with
      | cons t1 t2 =>
        cases t2
        cases t1 with
        | lst s1 a1 =>
          obtain ⟨its, rv, hl, hz⟩ := I.list (Rd.sq (Rd.sub sb s1))
          rw [Vals.ref1 rx]
          obtain ⟨as, h1, h2, h3, h4⟩ := mm_run hu I sb rv a1 ok (fold_mem (fun y a => PySem.W.dataLt y a) ds d) (Q := Q) (e := e) q
          exact PySem.W.min_list_data (I.ok.hd hc) hl.isList h1 h2 (by omega) fun i v h' tk bs hv hr hk => h4 i v h' tk bs (by simpa using hv) hr hk
    · exact q.elim
  · split at q
    · rename_i d ds ok
      cases t with
      | cons t1 t2 =>
        cases t2
        cases t1 with
        | tup s1 a1 =>
          obtain ⟨its, rv, hl, hz⟩ := I.tuple (SqT.sub sb s1)
          rw [Vals.ref1 rx]
          obtain ⟨as, h1, h2, h3, h4⟩ := mm_run hu I sb rv a1 ok (fold_mem (fun y a => PySem.W.dataLt y a) ds d) (Q := Q) (e := e) q
          exact PySem.W.min_tuple_data (I.ok.hd hc) (show s.heap.IsTuple _ its.toArray from hl) h1 h2 (by omega) fun i v h' tk bs hv hr hk => h4 i v h' tk bs (by simpa using hv) hr hk
    · exact q.elim
  · exact q.elim
theorem c_maxE (hu : X.A.units + 65 < cLine) (hc : X.calm = true) : CallR X (.builtin "max") (rC X.w X.K maxE) := by
  intro pins s σ H xs us Q I rx ⟨G, ds, e, sb, t, q⟩
  unfold maxE at q
  split at q
  · split at q
    · rename_i d ds ok
      cases t with
      | cons t1 t2 =>
        cases t2
        cases t1 with
        | lst s1 a1 =>
          obtain ⟨its, rv, hl, hz⟩ := I.list (Rd.sq (Rd.sub sb s1))
          rw [Vals.ref1 rx]
          obtain ⟨as, h1, h2, h3, h4⟩ := mm_run hu I sb rv a1 ok (fold_mem (fun y a => PySem.W.dataLt a y) ds d) (Q := Q) (e := e) q
          exact PySem.W.max_list_data (I.ok.hd hc) hl.isList h1 h2 (by omega) fun i v h' tk bs hv hr hk => h4 i v h' tk bs (by simpa using hv) hr hk
    · exact q.elim
  · split at q
    · rename_i d ds ok
      cases t with
      | cons t1 t2 =>
        cases t2
        cases t1 with
        | tup s1 a1 =>
          obtain ⟨its, rv, hl, hz⟩ := I.tuple (SqT.sub sb s1)
          rw [Vals.ref1 rx]
          obtain ⟨as, h1, h2, h3, h4⟩ := mm_run hu I sb rv a1 ok (fold_mem (fun y a => PySem.W.dataLt a y) ds d) (Q := Q) (e := e) q
          exact PySem.W.max_tuple_data (I.ok.hd hc) (show s.heap.IsTuple _ its.toArray from hl) h1 h2 (by omega) fun i v h' tk bs hv hr hk => h4 i v h' tk bs (by simpa using hv) hr hk
    · exact q.elim
  · exact q.elim

/-! ### tuple(x) -/
def tupleD : List D → R D
  | [.list ds] => .ok (.tuple ds)
  | [.tuple ds] => .ok (.tuple ds)
  | _ => stk
theorem c_tuple : CallR X (.type "tuple") (rC X.w X.K tupleD) := callr_imp call_tuple_of fun xs H Q ⟨G, ds, e, sb, t, q⟩ => by
  unfold tupleD at q
  split at q
  · cases t with
    | cons t1 t2 =>
      cases t2
      cases t1 with
      | @lst a0 xs1 _ s1 a1 =>
        refine ⟨_, _, rfl, .inl ⟨Rd.sq (Rd.sub sb s1), fun p np => ?_⟩⟩
        have g2 := Gr.new (o := .tup xs1) sb np
        exact q _ _ _ g2 (.tup (.inl (.inl upd_same)) (a1.sub (g2.up sb)))
  · cases t with
    | cons t1 t2 =>
      cases t2
      cases t1 with
      | tup s1 a1 => exact ⟨_, _, rfl, .inr ⟨SqT.sub sb s1, q _ G H (Gr.refl sb) (.tup s1 a1)⟩⟩
  · exact q.elim

/-! ### a list, so many times -/
def repL (ds : List D) (k : Int) : List D := (List.replicate k.toNat ds).flatten
theorem rep_dt {w : World} {K : PySem.W.Frag} {G : Hp} {vs : List V} {ds : List D} (t : DtAll w K G vs ds) : ∀ k : Nat, DtAll w K G (List.replicate k vs).flatten (List.replicate k ds).flatten
  | 0 => .nil
  | k + 1 => by
    rw [List.replicate_succ, List.replicate_succ, List.flatten_cons, List.flatten_cons]
    exact t.append (rep_dt t k)
theorem rep_rd : OpR X (binaryOp .Mult) (fun x y H Q => ∃ l k xs, x = .ref l ∧ y = .int k ∧ Rd H l (.lst xs) ∧ -(2 ^ 63) ≤ k ∧ k < 2 ^ 63 ∧ xs.length * k.toNat ≤ sizeLine ∧
  ∀ p, H p = none → Q (.ref p) (upd H p (.lst (List.replicate k.toNat xs).flatten))) := by
  intro pins s σ H x y v u Q I rx ry h
  obtain ⟨l, k, xs, rfl, rfl, hH, h1, h2, hz, q⟩ := h
  rcases hH with hH | ⟨o, hH⟩
  · exact op_rep pins s σ H _ _ v u Q I rx ry ⟨l, k, xs, rfl, rfl, hH, h1, h2, hz, q⟩
  · cases rx
    obtain ⟨t, rfl⟩ := ry
    obtain ⟨z, its, n, r, e⟩ := lst_at I (.inr ⟨o, hH⟩)
    have hl := r.length
    have hlen : its.toArray.size * k.toNat ≤ sizeLine := by rw [List.size_toArray, ← hl]; exact hz
    have hcap : ¬ its.toArray.size * k.toNat > (2 ^ 63 - 1) / 8 := by
      have : (sizeLine : Nat) ≤ (2 ^ 63 - 1) / 8 := by decide
      omega
    have hfit : ¬ (!Builtin.List.listFitsIndex k) = true := by
      rw [fitsIndex_both h1 h2]
      exact Bool.false_ne_true
    have hlong : ¬ Builtin.List.listTooLong (its.toArray.size * k.toNat) = true := by
      rw [notLongL hlen]
      exact Bool.false_ne_true
    have hnew : List.foldl (fun x1 x2 => x1 ++ x2) #[] (List.replicate (if its.toArray.isEmpty = true then 0 else k.toNat) its.toArray) = (List.replicate k.toNat its).flatten.toArray := by
      have f0 : ∀ m : Nat, List.foldl (fun x1 x2 => x1 ++ x2) #[] (List.replicate m its.toArray) = (List.replicate m its).flatten.toArray := fun m => by
        have := foldl_rep its m []
        rw [List.nil_append] at this
        exact this
      rw [f0]
      cases its with
      | nil => simp
      | cons a r' => rw [if_neg (by simp)]
    refine wpAny_binaryOp_repeat_ref (T := "list") (U := "int") (by decide) ⟨_, e, rfl⟩ (fun s' => typeIs_int s' k t) noFill_list_mul PySem.F.fills_int_mul PySem.F.slot_int_rmul repeat_list PySem.F.slot_int_index.lookup
      (call_meets PySem.F.slot_int_rmul (typeIs_int s k t) PySem.F.entry_int_rmul (PySem.F.args_int_rmul_2 _ _) (int___rmul___int_list k t l its.toArray n)
        ⟨e, rfl, ⟨_, e, rfl⟩, call_meets PySem.F.slot_list_mul ⟨_, e, rfl⟩ PySem.F.entry_list_mul (PySem.F.args_list_mul_2 _ _) (AutoListH.list___mul___list_int_3 l its.toArray n k t hfit hcap hlong) ⟨e, ?_⟩⟩)
    rw [hnew]
    exact ⟨.ref _, _, I.lnew (t' := s.toks) (r.rep k.toNat) (by rw [PyProof.Rows.lm_len_rep_flat, Nat.mul_comm]; exact hz), rfl, q _ I.fresh⟩
def mulE (a b : D) : R D := match a, b with
  | .list ds, .int k => if -9223372036854775808 ≤ k ∧ k < 9223372036854775808 ∧ ds.length * k.toNat ≤ 16777216 then .ok (.list (repL ds k)) else stk
  | a, b => mulD a b
theorem p63 {k : Int} (h : -9223372036854775808 ≤ k ∧ k < 9223372036854775808) : -(2 ^ 63) ≤ k ∧ k < 2 ^ 63 := by
  have e : (2 : Int) ^ 63 = 9223372036854775808 := by decide
  rw [e]; exact h
theorem d_mulE : OpR X (binaryOp .Mult) (r2 X.w X.K mulE) := by
  intro pins s σ H x y v u Q I rx ry ⟨G, da, db, e, sb, t1, t2, q⟩
  unfold mulE at q
  split at q
  · split at q
    · rename_i ds k h
      cases t1 with
      | lst s1 a1 =>
        cases t2
        refine rep_rd pins s σ H _ _ v u Q I rx ry ⟨_, k, _, rfl, rfl, Rd.sub sb s1, (p63 ⟨h.1, h.2.1⟩).1, (p63 ⟨h.1, h.2.1⟩).2, by rw [a1.length, sizeLine_eq]; exact h.2.2, fun p np => ?_⟩
        rename_i a0 xs1
        have g2 := Gr.new (o := .lst (List.replicate k.toNat xs1).flatten) sb np
        exact q _ _ _ g2 (.lst (.inl upd_same) ((rep_dt a1 k.toNat).sub (g2.up sb)))
    · exact q.elim
  · exact d_mul pins s σ H x y v u Q I rx ry ⟨G, _, _, e, sb, t1, t2, q⟩
end
end Vs

set_option Elab.async false
set_option linter.all false
set_option maxRecDepth 100000
/-! enumerate of tuples and texts; ranges down; constants that are tuples, dicts. -/
namespace PySem
open Sem (wp)
set_option maxHeartbeats 1000000 in
theorem meets_enumerate_newB1 {v : Value} {o : Obj} {H : Heap → Prop} (B : Begins v o H) :
    Meets (Builtin.«enumerate.__new__» ⟨[.type "enumerate", v], []⟩) (fun _ R s => H s.heap ∧
      R (.ok (.ret (.ref (s.heap.push o).objs.size))) { s with heap := (s.heap.push o).push { cls := .type "enumerate", data := .fields #[.none, .bool false, .ref s.heap.objs.size, rawInt 0, .none, .none] } }) :=
  .of_wp fun prog w A R s h => by
    obtain ⟨hp, g, d, tk, os⟩ := s; obtain ⟨h1, h⟩ := h
    have hsub := sub_enumerate
    have q1 : ∀ {A' : Around} {E : Value → Shared → Prop} {Q : Value → Shared → Prop}, Q (.ref hp.objs.size) ⟨hp.push o, g, d, tk, os⟩ → wpAny (model prog w) A' (pyIter v) Q E ⟨hp, g, d, tk, os⟩ :=
      fun q => B.iter prog w _ _ ⟨hp, g, d, tk, os⟩ _ h1 q
    wp_walk using q1
    refine wpAny_stack_any fun st => wpAny_pure ?_
    split
    · rename_i c _ _ _ _ _
      cases (c == Value.type "enumerate")
      · wp_walk using q1
        exact ⟨_, rfl, h⟩
      · wp_walk using q1
        exact ⟨_, rfl, h⟩
    · wp_walk using q1
      exact ⟨_, rfl, h⟩
theorem enum_begins1 {prog : Program} {w : World} {A : Around} {E : Value → Shared → Prop} {s : Shared} {v : Value} {o : Obj} {H : Heap → Prop} {Q : Value → Shared → Prop} (B : Begins v o H) (h1 : H s.heap)
    (h : ∀ h', IsEnum h' (s.heap.objs.size + 1) s.heap.objs.size 0 .none → h'.get? s.heap.objs.size = some o → h'.objs.size = s.heap.objs.size + 2 →
      (∀ b o, s.heap.get? b = some o → h'.get? b = some o) → Q (.ref (s.heap.objs.size + 1)) { s with heap := h' }) :
    wpAny (model prog w) A (call (.type "enumerate") [v]) Q E s := by
  refine callType_new F.called_enumerate (by decide) (F.typeCall_enumerate_1 _) (F.newCall_enumerate_1 _) (fun obj => F.args_object_init_2 obj _) F.entry_enumerate_new
    (meets_enumerate_newB1 B) ⟨h1, ?_⟩
  have hz : (s.heap.push o).objs.size = s.heap.objs.size + 1 := Heap.size_push ..
  show _ ∧ _
  rw [hz]
  have he : IsEnum ((s.heap.push o).push { cls := .type "enumerate", data := .fields #[.none, .bool false, .ref s.heap.objs.size, rawInt 0, .none, .none] }) (s.heap.objs.size + 1) s.heap.objs.size 0 .none := by
    have := Heap.get?_push_size (s.heap.push o) (o := { cls := .type "enumerate", data := .fields #[.none, .bool false, .ref s.heap.objs.size, rawInt 0, .none, .none] }) rfl
    rw [hz] at this; exact this
  refine ⟨⟨_, he, rfl⟩, h _ he (Heap.get?_push_of_some _ (Heap.get?_push_size _ B.free)) (by rw [Heap.size_push, hz]) fun b o x => Heap.get?_push_of_some _ (Heap.get?_push_of_some _ x)⟩
end PySem
namespace Vs
open PySem PySem.Spec PyProof.Rows L2

/-! ### enumerate(t) -/
/-- the frozen items vs, each in a new pair; ok: where they stand -/
def ItE (ok : Hp → Prop) (vs : List V) : It := ⟨fun i H => ok H ∧ i < vs.length, fun i H v H' => ∃ T x, v = .ref T ∧ H T = none ∧ H' = upd H T (.tup [.int (i : Nat), x]) ∧ vs[i]? = some x, fun i H => ok H ∧ vs.length = i⟩
/-- what an iterator's cell it draws: the values vs, told in every state in which ok holds -/
structure Src (P : Program) (w : World) (K : PySem.W.Frag) (it : Addr) (vs : List V) (ok : Hp → Prop) (tn : Nat → Heap → Prop) : Prop where
  live : ∀ i h, tn i h → ∃ o, h.get? it = some o ∧ ∀ v, o.data ≠ .cell v
  keep : ∀ i h h', tn i h → (∀ o, h.get? it = some o → h'.get? it = some o) → tn i h'
  draw : ∀ (X : Cx), X.prog = P → X.w = w → X.K = K → ∀ pins σ H s, Inv X pins σ H s → ok H → ∀ A : Around, A.handled = none → ∀ i, tn i s.heap → ∃ (fp : List Addr) (Pv : Nat → Value → Prop) (St : Nat → Heap → Prop),
    Draws P w A it fp vs.length Pv St ∧ (∀ b ∈ fp, b = it ∨ ∃ o, s.heap.get? b = some o ∧ o.cls ≠ .type "enumerate" ∧ o.cls ≠ .type "zip" ∧ b ≠ it) ∧ St i s.heap ∧ (∀ i h, St i h → tn i h) ∧ ∀ i v, Pv i v → ∃ x, vs[i]? = some x ∧ RelV x v
theorem turn_enS {P : Program} {w : World} {K : PySem.W.Frag} {elts : List Expr} {kk : Nat} {tpos : Pos} {vs : List V} {ok : Hp → Prop} {tn : Nat → Heap → Prop} (e it : Addr) (hne : e ≠ it) (S : Src P w K it vs ok tn) :
    Turn P w K (.Tuple elts kk tpos) (ItE ok vs) [e, it] e (fun i h => (∃ old, IsEnum h e it ((i : Nat) : Int) old) ∧ tn i h) where
  mem := by simp
  obj := fun i h st b hb => by
    obtain ⟨⟨old, he⟩, hi⟩ := st
    have e' : b = e ∨ b = it := by simpa using hb
    rcases e' with z | z
    · rw [z]; exact ⟨_, he, fun v q => nomatch q⟩
    · rw [z]; exact S.live _ _ hi
  keep := fun i h h' st k => let ⟨⟨old, he⟩, hi⟩ := st; ⟨⟨old, k e (by simp) _ he⟩, S.keep _ _ _ hi fun o q => k it (by simp) o q⟩
  item := by
    intro X hP hw hK hc i pins s σ H E I hf st hg
    subst hP hw hK
    obtain ⟨⟨old, he⟩, hit⟩ := st
    obtain ⟨hok, hi⟩ := hg
    obtain ⟨fp, Pv, St, D, h1, h2, h3, h4⟩ := S.draw X rfl rfl rfl pins σ H s I hok X.A.in1 (I.ok.hd hc) i hit
    have hel : e < s.heap.objs.size := Heap.lt_size he
    have hil : it < s.heap.objs.size := by obtain ⟨_, q, _⟩ := S.live _ _ hit; exact Heap.lt_size q
    have hef : e ∉ fp := fun hm => by
      rcases h1 e hm with z | ⟨o, z, n1, _⟩
      · exact hne z
      · rw [show s.heap.get? e = _ from he] at z
        cases z
        exact n1 rfl
    refine wpAny_pyNext_enum_itemD D he h2 hi hne hef fun x h' tk hP ho hst' hT hsz hk => ?_
    obtain ⟨z, hz, rz⟩ := h4 i x hP
    refine ⟨_, rfl, wpAny_letOwnedTupleGo_enum (s := { s with heap := h', toks := tk + 1 }) ho fun h'' he' sb => ?_⟩
    have hT2 : h''.get? s.heap.objs.size = some { cls := .type "tuple", data := .seq #[.int i tk, x] } := (sb.2 _ (Nat.ne_of_gt hel)).trans hT
    have new : ObjOk X.prog X.w (upd H s.heap.objs.size (.tup [.int (i : Nat), z])) h'' s.heap.objs.size (.tup [.int (i : Nat), z]) :=
      ⟨by show 2 ≤ sizeLine; decide, [.int i tk, x], .cons ⟨_, rfl⟩ (.cons rz .nil), ⟨_, hT2, rfl, _, rfl⟩⟩
    have I1 : Inv X pins σ (upd H s.heap.objs.size (.tup [.int (i : Nat), z])) { s with heap := h'', toks := tk + 1 } :=
      I.turnedNew (ch := [e, it]) (fun b ob hb q => (sb.2 b (fun z => hb (by simp [z]))).trans (hk b ob (fun z => hb (by simp [z])) (fun z => hb (by simp [z])) q)) hf (Nat.le_refl _) new
    refine ⟨.ref s.heap.objs.size, _, I1, rfl, ⟨_, z, rfl, I.hok.fresh (Nat.le_refl _), rfl, hz⟩, ⟨⟨x, ?_⟩, S.keep _ _ _ (h3 _ _ hst') fun o q => (sb.2 it (Ne.symm hne)).trans q⟩, fun b hb => ?_⟩
    · have e1 : ((i + 1 : Nat) : Int) = (i : Int) + 1 := by omega
      rw [e1]; exact he'
    · have hb' : b < s.heap.objs.size := by
        have e' : b = e ∨ b = it := by simpa using hb
        rcases e' with z | z
        · rw [z]; exact hel
        · rw [z]; exact hil
      rw [upd_ne (Nat.ne_of_lt hb')]
      exact (hf b hb).1
  done := by
    intro X hP hw hK hc i pins s σ H E I hf st hg
    subst hP hw hK
    obtain ⟨⟨old, he⟩, hit⟩ := st
    obtain ⟨hok, rfl⟩ := hg
    obtain ⟨fp, Pv, St, D, h1, h2, h3, h4⟩ := S.draw X rfl rfl rfl pins σ H s I hok X.A.in1 (I.ok.hd hc) _ hit
    obtain ⟨f0, f1, f2, f3, f4, f5⟩ := hf it (by simp)
    exact wpAny_pyNext_enum_endD D he h2 fun h' eb => ⟨rfl, I.turned (t' := s.toks) (fun b o hb q => eb b o hb q) f0 f1 f3 f4 f5⟩
  self := fun A i s Q E st h => let ⟨⟨_, he⟩, _⟩ := st; wpAny_pyIter_enum he h
theorem src_tup {P : Program} {w : World} {K : PySem.W.Frag} {it a : Addr} {vs : List V} : Src P w K it vs (fun H => SqT K H a vs) (fun i h => h.IsTupleIter it a i) where
  live := fun i h st => by
    obtain ⟨o, ho, hc, hd⟩ := st
    exact ⟨o, ho, fun v q => by rw [hd] at q; cases q⟩
  keep := fun i h h' st k => st.at fun o e => k o e
  draw := by
    intro X hP hw hK pins σ H s I hok A hA i st
    subst hP hw hK
    obtain ⟨its, rv, pt, hz⟩ := I.tuple hok
    have hl := rv.length
    have hne : a ≠ it := fun e => by
      obtain ⟨o, ho, hc, hd⟩ := st
      obtain ⟨ob, hob, hcl, _⟩ := pt
      rw [e, ho] at hob
      cases hob
      rw [hc] at hcl
      injection hcl with e2
      exact absurd e2 (by decide)
    have D := Draws.tuple (prog := X.prog) (w := X.w) hA it a hne its.toArray
    rw [List.size_toArray, ← hl] at D
    refine ⟨_, _, _, D, fun b hb => ?_, ⟨st, pt⟩, fun i h q => q.1, fun i v hv => ?_⟩
    · rcases List.mem_cons.mp hb with e | hb
      · exact .inl e
      · have e := List.mem_singleton.mp hb
        subst e
        obtain ⟨ob, hob, hcl, _⟩ := pt
        refine .inr ⟨ob, hob, fun q => ?_, fun q => ?_, hne⟩
        · rw [hcl] at q; injection q with e2; exact absurd e2 (by decide)
        · rw [hcl] at q; injection q with e2; exact absurd e2 (by decide)
    · have hv : its[i]? = some v := by simpa using hv
      have hi : i < its.length := (List.getElem?_eq_some_iff.mp hv).1
      have hx : vs[i]? = some vs[i] := List.getElem?_eq_getElem (by omega)
      obtain ⟨u, hu, ru⟩ := rv.get hx
      rw [hv] at hu; cases hu
      exact ⟨_, hx, ru⟩
theorem wk_enS {w : World} {K : PySem.W.Frag} {G : Hp} {ok : Hp → Prop} {vs : List V} {ds : List D} (hok : ∀ G' H, Sub G G' → Sub G' H → ok H) (t : DtAll w K G vs ds) : Wk w K (ItE ok vs) G (enD 0 ds) where
  go := fun i G' H s1 s2 hi => ⟨hok G' H s1 s2, by rw [t.length]; rw [enD_len] at hi; exact hi⟩
  stop := fun G' H s1 s2 => ⟨hok G' H s1 s2, by rw [t.length, enD_len]⟩
  yld := fun i d G' H x H' s1 s2 hd y => by
    obtain ⟨T, z, rfl, nT, rfl, y⟩ := y
    obtain ⟨d', e2, t2⟩ := t.get y
    obtain ⟨x, e3, rfl⟩ := enD_get ds 0 i d hd
    rw [e3] at e2; cases e2
    have g2 := Gr.new (o := .tup [.int (i : Nat), z]) s2 nT
    refine ⟨_, g2, .tup (.inl (.inl upd_same)) (.cons ?_ (.cons ((t2.sub s1).sub (g2.up s2)) .nil))⟩
    rw [Nat.zero_add]
    exact .int _
def en1t : List D → R (List D)
  | [.tuple ds] => .ok (enD 0 ds)
  | _ => stk
section
variable {X : Cx} {a b c tgt : Expr} {p pos : Pos} {e : Nat → D → Prop} {O : List Nat} {fs : Env' → R (List D)}
theorem call_enum1 {prog : Program} {w : World} {A : Around} {E : Value → Shared → Prop} {s : Shared} {t : Addr} {its : Array Value} {Q : Value → Shared → Prop} (ht : s.heap.IsTuple t its)
    (h : ∀ h', IsEnum h' (s.heap.objs.size + 1) s.heap.objs.size 0 .none → h'.IsTupleIter s.heap.objs.size t 0 → (∀ b o, s.heap.get? b = some o → h'.get? b = some o) → Q (.ref (s.heap.objs.size + 1)) { s with heap := h' }) :
    wpAny (model prog w) A (call (.type "enumerate") [.ref t]) Q E s :=
  enum_begins1 (begins_tuple t its) ht fun h' he ho hz hk => h h' he ⟨_, ho, rfl, rfl⟩ hk
theorem i_ent {elts : List Expr} {kk : Nat} {tp : Pos} (hm : X.mg "enumerate" = none) (h : PA X [a] (tA X.w X.K e O fs)) (hg : Gl X "enumerate" := by rfl) (hs : starEach [a] X.env = [(false, eval a X.env)] := by rfl) : PI X (.Tuple elts kk tp) (.Call (.Name "enumerate" p) [a] [] pos) (iV X.w X.K e O fun ρ => fs ρ >>= en1t) := by
  have h0 : PI X (.Tuple elts kk tp) (.Call (.Name "enumerate" p) [a] [] pos) (fun σ H R => tA X.w X.K e O fs σ H fun vs H1 => ∃ A xs, vs = [.ref A] ∧ SqT X.K H1 A xs ∧ R (ItE (fun H => SqT X.K H A xs) xs) H1) := by
    refine ⟨fun pins s σ H R I hq => ?_⟩
    refine Call_ (ld_blt I hg hm boot_enumerate (PyProof.Rows.callWith_type1 (thn (h.run pos pins s σ H _ I hq) fun us s1 ⟨vs, H1, I1, r1, q1⟩ => ?_) hs rfl))
    obtain ⟨A, xs, ex, hsq, q⟩ := q1
    subst ex
    cases r1 with
    | cons r rr =>
      cases rr
      cases r
      obtain ⟨its, rv, pt, hz⟩ := I1.tuple hsq
      refine call_enum1 pt fun h' he hit hk => wpAny_pyIter_enum he ?_
      have I2 : Inv X pins σ H1 { s1 with heap := h' } := I1.kept (t' := s1.toks) hk
      refine ⟨s1.heap.objs.size + 1, [s1.heap.objs.size + 1, s1.heap.objs.size], _, _, H1, rfl, I2, turn_enS (s1.heap.objs.size + 1) s1.heap.objs.size (Nat.succ_ne_self _) src_tup, ⟨⟨.none, he⟩, hit⟩, fun b hb => ?_, q⟩
      have e' : b = s1.heap.objs.size + 1 ∨ b = s1.heap.objs.size := by simpa using hb
      have hle : s1.heap.objs.size ≤ b := by
        rcases e' with z | z
        · rw [z]; exact Nat.le_add_right _ _
        · rw [z]; exact Nat.le_refl _
      exact I1.fpOk hle (I1.hok.fresh hle)
  refine pi_imp h0 fun σ H Q ⟨B, ρ, G, r, q⟩ => ⟨B, ρ, G, r, gd_mono (gd_bind.mp q) fun ds q vs G1 H1 g1 t => ?_⟩
  unfold en1t at q
  split at q
  · cases t with
    | cons t1 t2 =>
      cases t2
      cases t1 with
      | tup s1 a1 => exact ⟨_, _, rfl, SqT.sub g1.sub s1, q _ G1 H1 g1 (wk_enS (fun G' H' q1 q2 => SqT.sub (q1.trans q2) s1) a1)⟩
  · exact q.elim

/-! ### range(i, j, -1) -/
def rgC (lo : Int) (n : Nat) : List D := (List.range n).map fun (i : Nat) => .int (lo + i * (-1))
def rg3 : List D → R (List D)
  | [.int i, .int j, .int k] => if k = -1 ∧ i.natAbs < 4611686018427387904 ∧ j.natAbs < 4611686018427387904 then .ok (rgC i (i - j).toNat) else stk
  | _ => stk
theorem i_rg3 (hm : X.mg "range" = none) (h : PA X [a, b, c] (tA X.w X.K e O fs)) (hg : Gl X "range" := by rfl) (hs : starEach [a, b, c] X.env = (false, eval a X.env) :: starEach [b, c] X.env := by rfl) (hpl : (backTo pos (starEach [b, c] X.env)).any (·.1) = false := by rfl) :
    PI X tgt (.Call (.Name "range" p) [a, b, c] [] pos) (iV X.w X.K e O fun ρ => fs ρ >>= rg3) := by
  refine pi_imp (pi_range3 hg hm h hs hpl) fun σ H Q ⟨B, ρ, G, r, q⟩ => ⟨B, ρ, G, r, gd_mono (gd_bind.mp q) fun ds q vs G1 H1 g1 t => ?_⟩
  unfold rg3 at q
  split at q
  · cases t with
    | cons t1 t2 =>
      cases t2 with
      | cons t2 t3 =>
        cases t3 with
        | cons t3 t4 =>
          cases t4
          cases t1
          cases t2
          cases t3
          split at q
          · rename_i i j k hb
            obtain ⟨rfl, h1, h2⟩ := hb
            refine ⟨i, j, -1, (i - j).toNat, rfl, RgC.neg (p62 h1).1 (p62 h1).2 (p62 h2).1 (p62 h2).2, q _ G1 H1 g1 ?_⟩
            have hl : (rgC i (i - j).toNat).length = (i - j).toNat := by unfold rgC; rw [List.length_map, List.length_range]
            exact {
              go := fun n G' H' q1 q2 hi => by rw [hl] at hi; exact hi
              stop := fun G' H' q1 q2 => by rw [hl]; exact Nat.le_refl _
              yld := fun n d G' H' x H2 q1 q2 hd y => by
                obtain ⟨rfl, rfl⟩ := y
                refine ⟨G', Gr.refl q2, ?_⟩
                unfold rgC at hd
                rw [List.getElem?_map] at hd
                cases z : (List.range (i - j).toNat)[n]? with
                | none => rw [z] at hd; cases hd
                | some m =>
                  rw [z] at hd
                  have e1 : m = n := by
                    rw [List.getElem?_eq_some_iff] at z
                    obtain ⟨h1, h2⟩ := z
                    rw [List.getElem_range] at h2
                    exact h2.symm
                  subst e1
                  cases hd
                  exact .int _ }
          · exact q.elim
  · exact q.elim
end
end Vs

set_option Elab.async false
set_option linter.all false
set_option maxRecDepth 100000
/-! sum(lists, []); enumerate of texts. -/
namespace Vs
open PySem PySem.Spec PyProof.Rows L2

theorem sub_list_str : isSubtype (.type "list") (.type "str") = pure false := by rw [isSubtype_type]; kernel_rfl
theorem sub_list_bytes : isSubtype (.type "list") (.type "bytes") = pure false := by rw [isSubtype_type]; kernel_rfl
theorem sub_list_bytearray : isSubtype (.type "list") (.type "bytearray") = pure false := by rw [isSubtype_type]; kernel_rfl
theorem args_sum2 (a b : Value) : argsOk "sum" ⟨[a, b], []⟩ := by unfold argsOk; kernel_rfl
abbrev lO (its : List Value) (k : Nat) : Obj := { cls := .type "list", data := .seq its.toArray k }
section
variable {prog : Program} {w : World} {A : Around} {R : Result → Shared → Prop} {I : Addr} {fp wr : List Addr} {G : Array GenState → Array GenState → Prop} {n : Nat} {P : Nat → Value → Prop} {St : Nat → Shared → Prop}
theorem sum_loopL (W : WalksS prog w A.in1 I fp wr G n P St) (h0 : Heap) (hw : ∀ b o, h0.get? b = some o → b ∉ wr) (val : Nat → List Value) (hval : ∀ i v, P i v → ∃ a k, v = .ref a ∧ h0.get? a = some (lO (val i) k)) (S : Addr) (hSf : S ∉ fp) (hlt : ∀ b ∈ fp, b < S) (hS0 : h0.get? S = none) (hz : ((List.range n).map fun j => (val j).length).sum ≤ sizeLine) :
    ∀ (m i : Nat) (s : Shared) (T : Addr) (acc : List Value) (k c : Nat), i + m = n → St i s → (∀ b o, h0.get? b = some o → s.heap.get? b = some o) → s.heap.get? S = some { cls := .type "list", dict := none, data := .seq #[.ref T] c, slots := #[] } → s.heap.get? T = some (lO acc k) → T ≠ S → T ∉ wr →
      acc = ((List.range i).map val).flatten →
      (∀ s' T' k', Moved (S :: wr) G s s' → (∀ b o, h0.get? b = some o → s'.heap.get? b = some o) → s'.heap.get? T' = some (lO ((List.range n).map val).flatten k') → (T' = T ∨ h0.get? T' = none) → (n = i → T' = T) → R (.ok (.ret (.ref T'))) s') →
      codeAny (model prog w) A (.builtin "sum.loop" ⟨[.ref I, .ref S, rawInt 2, rawInt 0], []⟩) R s := by
  have hSw : S ∉ wr := fun h => hSf (W.sub _ h)
  have hsub : ∀ b ∈ wr, b ∈ S :: wr := fun b hb => List.mem_cons_of_mem _ hb
  intro m
  induction m with
  | zero =>
    intro i s T acc k c hi hst h0s hS hT hTS hTw hacc hR
    obtain rfl : i = n := by omega
    refine codeAny_builtin F.entry_sum_loop ?_
    rw [Around.under_plainId F.plain_sum_loop _]
    show wpAny _ A.in1 (seqItems? (.ref S) >>= _) _ _ s
    refine wpAny_bind (wpAny_seqItems hS rfl ?_)
    show wpAny _ A.in1 (tryCatch (pyNext (.ref I)) _ >>= _) _ _ s
    refine wpAny_bind (wpAny_tryCatch (W.done s _ _ hst fun s' hm => ?_))
    have hT' := hm.heap T _ hTw hT
    rw [hacc] at hT'
    exact wpAny_pure (hR s' T k (hm.mono hsub) (fun b o e => hm.heap b o (hw b o e) (h0s b o e)) hT' (.inl rfl) fun _ => rfl)
  | succ m ih =>
    intro i s T acc k c hi hst h0s hS hT hTS hTw hacc hR
    have hlt' : i < n := by omega
    refine codeAny_builtin F.entry_sum_loop ?_
    rw [Around.under_plainId F.plain_sum_loop _]
    show wpAny _ A.in1 (seqItems? (.ref S) >>= _) _ _ s
    refine wpAny_bind (wpAny_seqItems hS rfl ?_)
    show wpAny _ A.in1 (tryCatch (pyNext (.ref I)) _ >>= _) _ _ s
    refine wpAny_bind (wpAny_tryCatch (W.item i s _ _ hlt' hst fun v s' hP hst' hm => ?_))
    obtain ⟨a, ka, rfl, ha⟩ := hval i v hP
    have hS' := hm.heap S _ hSw hS
    have hT' := hm.heap T _ hTw hT
    have h0' : ∀ b o, h0.get? b = some o → s'.heap.get? b = some o := fun b o e => hm.heap b o (hw b o e) (h0s b o e)
    have ha' := h0' a _ ha
    have hSl : S < s'.heap.objs.size := Heap.lt_size hS'
    have hlen : acc.length + (val i).length ≤ sizeLine := by
      have e1 : acc.length = ((List.range i).map fun j => (val j).length).sum := by rw [hacc, List.length_flatten, List.map_map]; rfl
      have e2 : ((List.range (i + 1)).map fun j => (val j).length).sum = ((List.range i).map fun j => (val j).length).sum + (val i).length := by
        rw [List.range_succ, List.map_append, List.sum_append]; simp
      have e3 : ∀ p q : Nat, p ≤ q → ((List.range p).map fun j => (val j).length).sum ≤ ((List.range q).map fun j => (val j).length).sum := by
        intro p q h
        induction q with
        | zero => obtain rfl : p = 0 := by omega
                  exact Nat.le_refl _
        | succ q ih =>
          by_cases e : p = q + 1
          · rw [e]; exact Nat.le_refl _
          · rw [List.range_succ, List.map_append, List.sum_append]
            have := ih (by omega)
            omega
      have := e3 (i + 1) n hlt'
      omega
    show wpAny _ A.in1 ((holding [Value.ref a] (binaryOp .Add (.ref T) (.ref a))).attempt >>= _) _ _ _
    refine wpAny_bind (wpAny_attempt (wpAny_holding (PySem.P.add_list hT' ha' ?_ (by rw [List.size_toArray, List.size_toArray]; exact hlen))))
    have eT : acc.toArray ++ (val i).toArray = (acc ++ val i).toArray := by simp
    rw [eT]
    generalize hN : s'.heap.objs.size = N
    have hSl2 : S < N := hN ▸ hSl
    have hSN : S ≠ N := Nat.ne_of_lt hSl2
    have hS1 : (s'.heap.push (lO (acc ++ val i) 0)).get? S = _ := Heap.get?_push_of_some _ hS'
    have hN1 : (s'.heap.push (lO (acc ++ val i) 0)).get? N = some (lO (acc ++ val i) 0) := by rw [← hN]; exact Heap.get?_push_size _ rfl
    show wpAny _ A.in1 (updateSeq S (fun _ => #[.ref N]) >>= _) _ _ _
    refine wpAny_bind (wpAny_updateSeq hS1 rfl ?_)
    have hS₂ := Heap.get?_update_self (Obj.mapSeq fun _ => #[Value.ref N]) hS1 rfl
    refine wpAny_bind (wpAny_letGo ?_)
    refine wpAny_bind (wpAny_updateSeq hS₂ rfl (wpAny_pure ⟨plainId_quiet F.plain_sum_loop _, ?_⟩))
    have other : ∀ b, b ≠ S → ∀ o, s'.heap.get? b = some o → (((s'.heap.push (lO (acc ++ val i) 0)).update S (Obj.mapSeq fun _ => #[Value.ref N])).update S (Obj.mapSeq fun _ => #[Value.ref N])).get? b = some o := fun b hb o e =>
      (Heap.get?_update_other _ _ (Ne.symm hb)).trans ((Heap.get?_update_other _ _ (Ne.symm hb)).trans (Heap.get?_push_of_some _ e))
    refine ih (i + 1) _ N (acc ++ val i) 0 _ (by omega) (W.frame _ s' _ _ hst' (Nat.le_refl _) fun b hb o e => other b (fun z => hSf (by rw [← z]; exact hb)) o e) (fun b o e => other b (fun z => by rw [z, hS0] at e; cases e) o (h0' b o e)) (Heap.get?_update_self _ hS₂ rfl) ?_ (Ne.symm hSN) (fun hm' => by exact absurd (Nat.lt_trans hSl2 (hlt N (W.sub _ hm'))) (Nat.lt_irrefl _)) ?_ fun s'' T'' k'' hm'' h0'' hT'' hor hne => ?_
    · exact (Heap.get?_update_other _ _ hSN).trans ((Heap.get?_update_other _ _ hSN).trans hN1)
    · rw [hacc, List.range_succ, List.map_append, List.flatten_append]; simp
    · refine hR s'' T'' k'' (Moved.trans W.gtrans ((hm.mono hsub).then_heap (Nat.le_refl _) fun b o hb e => other b (fun h : b = S => hb (by rw [h]; exact List.mem_cons_self)) o e) hm'') h0'' hT'' ?_ (fun z => absurd z (by omega))
      rcases hor with e | e
      · right
        rw [e]
        cases q : h0.get? N with
        | none => rfl
        | some o => exact absurd (hN ▸ Heap.lt_size (h0' N o q)) (Nat.lt_irrefl _)
      · exact .inr e
end
section
variable {prog : Program} {w : World} {A : Around} {E : Value → Shared → Prop} {s : Shared}
theorem call_sumL {l e0 : Addr} {its : List Value} {ke : Nat} {val : Nat → List Value} {Q : Value → Shared → Prop} (hh : A.handled = none) (hl : s.heap.IsList l its.toArray) (he : s.heap.get? e0 = some (lO [] ke))
    (hval : ∀ i v, its[i]? = some v → ∃ a k, v = .ref a ∧ s.heap.get? a = some (lO (val i) k)) (hz : ((List.range its.length).map fun j => (val j).length).sum ≤ sizeLine)
    (h : ∀ s' T k, (∃ h' tk, s' = { s with heap := h', toks := tk }) → (∀ b o, s.heap.get? b = some o → s'.heap.get? b = some o) → s'.heap.get? T = some (lO ((List.range its.length).map val).flatten k) → (T = e0 ∨ s.heap.get? T = none) → (its.length = 0 → T = e0) → Q (.ref T) s') :
    wpAny (model prog w) A (call (.builtin "sum") [.ref l, .ref e0]) Q E s := by
  refine call_function_tree F.kind_sum F.plain_sum F.entry_sum (args_sum2 _ _) ?_
  unfold Builtin.«sum»
  simp only [List.length_cons, List.length_nil]
  rw [if_neg (by decide)]
  refine wpAny_bind (wpAny_of_eq (show Builtin.Builtins.bindParams "sum" ["start"] 0 ⟨[.ref e0], []⟩ = pure [some (.ref e0)] from rfl) ?_)
  refine wpAny_bind (PySem.W.iter_listW (A := A.in1) hh hl fun s₂ e2 W st hfp hw hk => ?_)
  have he2 := hk _ _ he
  refine wpAny_bind (wpAny_pure ?_)
  simp only [List.forIn_cons, List.forIn_nil]
  have ty : s₂.TypeIs (.ref e0) "list" := ⟨_, he2, rfl⟩
  refine wpAny_bind (wpAny_bind (wpAny_bind (wpAny_isInstance (T := "list") (b := false) ty sub_list_str ?_)))
  simp only [Bool.false_eq_true, if_false]
  refine wpAny_pure (wpAny_bind (wpAny_bind (wpAny_isInstance (T := "list") (b := false) ty sub_list_bytes ?_)))
  simp only [Bool.false_eq_true, if_false]
  refine wpAny_pure (wpAny_bind (wpAny_bind (wpAny_isInstance (T := "list") (b := false) ty sub_list_bytearray ?_)))
  simp only [Bool.false_eq_true, if_false]
  refine wpAny_pure (wpAny_pure ?_)
  refine wpAny_bind (wpAny_newObj_type ?_)
  have hfl : ∀ b ∈ [s.heap.objs.size, l], b < s₂.heap.objs.size := hfp
  have hS0 : s.heap.get? s₂.heap.objs.size = none := by
    cases q : s.heap.get? s₂.heap.objs.size with
    | none => rfl
    | some o => exact absurd (Heap.lt_size (hk _ _ q)) (Nat.lt_irrefl _)
  refine wpAny_pure ⟨plainId_quiet F.plain_sum_loop _, sum_loopL W s.heap (fun b o e => hw b o e) val (fun i v hv => hval i v (by simpa using hv)) s₂.heap.objs.size (fun hm => Nat.lt_irrefl _ (hfl _ hm)) hfl hS0 (by rw [List.size_toArray]; exact hz) its.toArray.size 0 _ e0 [] ke 0 (by omega)
    (W.frame 0 s₂ _ _ st (by first | exact Nat.le_refl _ | exact Nat.le_succ _ | omega) fun b _ o e => Heap.get?_push_of_some _ e) (fun b o e => Heap.get?_push_of_some _ (hk b o e)) (Heap.get?_push_size _ rfl) (Heap.get?_push_of_some _ he2) (Nat.ne_of_lt (Heap.lt_size he2)) (fun hm => ?_) rfl fun s' T' k' hm h0' hT' hor hz0 => ?_⟩
  · exact hw _ _ he hm
  · rw [List.size_toArray] at hT'
    refine h s' T' k' ?_ h0' hT' hor (fun z => hz0 (by rw [List.size_toArray]; exact z))
    obtain ⟨hp', g', d', t', o'⟩ := s'
    have e3 := hm.gens
    have e4 := hm.drawn
    have e5 := hm.os
    subst e2
    simp only at e3 e4 e5
    exact ⟨hp', t', by rw [e3, e4, e5]⟩
end

/-! ### the rule -/
def lists? : List D → Option (List (List D))
  | [] => some []
  | .list ds :: r => (lists? r).map (ds :: ·)
  | _ => none
def sum2D : List D → R D
  | [.list ds, .list []] => opt (lists? ds) >>= fun ls => if ls.flatten.length ≤ 16777216 then .ok (.list ls.flatten) else stk
  | _ => stk
theorem lists_at : ∀ {ds : List D} {ls : List (List D)}, lists? ds = some ls → ds = ls.map .list
  | [], ls, h => by cases h; rfl
  | d :: r, ls, h => by
    cases d with
    | list xs =>
      obtain ⟨l2, h1, rfl⟩ := Option.map_eq_some_iff.mp (show (lists? r).map (xs :: ·) = some ls from h)
      rw [lists_at h1]; rfl
    | _ => cases h
section
variable {X : Cx} {pins : List (Addr × Obj)} {σ : L2.St} {G H : Hp} {s : Shared}
/-- the lists, as they stand in the heap -/
theorem lists_in (I : Inv X pins σ H s) (sb : Sub G H) : ∀ {ls : List (List D)} {vs : List V} {us : List Value}, DtAll X.w X.K G vs (ls.map .list) → Vals vs us → ∃ (vss : List (List V)) (uss : List (List Value)), uss.length = us.length ∧ vss.length = uss.length ∧ (∀ i v, us[i]? = some v → ∃ a k, v = .ref a ∧ s.heap.get? a = some (lO (uss.getD i []) k)) ∧ Vals vss.flatten uss.flatten ∧ DtAll X.w X.K G vss.flatten ls.flatten
  | [], _, _, .nil, .nil => ⟨[], [], rfl, rfl, fun i v h => by simp at h, .nil, .nil⟩
  | l :: ls, _, _, .cons t1 t2, .cons r1 r2 => by
    obtain ⟨vss, uss, h1, h2, h3, h4, h5⟩ := lists_in I sb t2 r2
    cases t1 with
    | @lst a xs _ s1 a1 =>
      obtain ⟨z, its, n, rv, e⟩ := lst_at I (Rd.sub sb s1)
      cases r1
      refine ⟨xs :: vss, its :: uss, by rw [List.length_cons, List.length_cons, h1], by rw [List.length_cons, List.length_cons, h2], fun i v h => ?_, rv.append h4, a1.append h5⟩
      cases i with
      | zero =>
        simp only [List.getElem?_cons_zero, Option.some.injEq] at h
        subst h
        exact ⟨a, n, rfl, e⟩
      | succ j =>
        simp only [List.getElem?_cons_succ] at h
        exact h3 j v h
theorem range_getD (uss : List (List Value)) : (List.range uss.length).map (fun j => uss.getD j []) = uss := by
  apply List.ext_getElem?
  intro i
  by_cases h : i < uss.length
  · rw [List.getElem?_map, List.getElem?_range h, List.getElem?_eq_getElem h]
    simp [List.getD, List.getElem?_eq_getElem h]
  · rw [List.getElem?_eq_none (by rw [List.length_map, List.length_range]; omega), List.getElem?_eq_none (by omega)]
theorem c_sum2 (hc : X.calm = true) : CallR X (.builtin "sum") (rC X.w X.K sum2D) := by
  intro pins s σ H xs us Q I rx ⟨G, ds, e, sb, t, q⟩
  unfold sum2D at q
  split at q
  · rename_i ds
    obtain ⟨ls, e1, q1⟩ := opt_in (gd_bind.mp q)
    clear q
    split at q1
    · rename_i hz
      obtain rfl := lists_at e1
      cases t with
      | cons t1 t =>
        cases t with
        | cons t2 t =>
          cases t
          cases t1 with
          | @lst l0 ys _ s1 a1 =>
            cases t2 with
            | @lst e0 zs _ s2 a2 =>
              cases a2
              cases rx with
              | cons r1 rr =>
                cases rr with
                | cons r2 rr =>
                  cases rr
                  cases r1
                  cases r2
                  obtain ⟨its, rv, hl, _⟩ := I.list (Rd.sq (Rd.sub sb s1))
                  obtain ⟨_, ie, ke, rve, he⟩ := lst_at I (Rd.sub sb s2)
                  cases rve
                  obtain ⟨vss, uss, h1, h2, h3, h4, h5⟩ := lists_in I sb a1 rv
                  have hr := range_getD uss
                  rw [h1] at hr
                  have hlen : (vss.flatten).length ≤ sizeLine := by rw [h5.length, sizeLine_eq]; exact hz
                  have hsum : ((List.range its.length).map fun j => (uss.getD j []).length).sum ≤ sizeLine := by
                    have : ((List.range its.length).map fun j => (uss.getD j []).length) = uss.map List.length := by
                      rw [show (fun j => (uss.getD j []).length) = List.length ∘ (fun j => uss.getD j []) from rfl, ← List.map_map, hr]
                    rw [this, ← List.length_flatten, ← h4.length]
                    exact hlen
                  refine call_sumL (val := fun j => uss.getD j []) (I.ok.hd hc) hl.isList he h3 hsum fun s' T k hs hk hT hor hz0 => ?_
                  rw [hr] at hT
                  obtain ⟨h', tk, rfl⟩ := hs
                  rcases hor with e2 | e2
                  · subst e2
                    have e3 := hk _ _ he
                    rw [hT] at e3
                    have e4 : uss.flatten = [] := by
                      have := congrArg (fun o : Option Obj => match o with | some { data := .seq a _, .. } => a.toList | _ => []) e3
                      simpa using this
                    have e5 : vss.flatten = [] := by
                      have := h4.length
                      rw [e4] at this
                      exact List.length_eq_zero_iff.mp this
                    rw [e5] at h5
                    have e6 : ls.flatten = [] := by
                      have := h5.length
                      exact List.length_eq_zero_iff.mp this.symm
                    rw [e6] at q1
                    exact ⟨.ref T, H, I.kept hk, rfl, q1 _ G H (Gr.refl sb) (.lst s2 .nil)⟩
                  · have hTn : H T = none := I.hok.gone e2
                    obtain ⟨g, n2, o⟩ := own_new sb hTn h5
                    have g2 := Gr.new (o := .lst vss.flatten) sb hTn
                    exact ⟨.ref T, upd H T (.lst vss.flatten), I.laidN (t' := tk) hk e2 hTn ⟨hlen, uss.flatten, k, h4, hT⟩, rfl, q1 _ _ _ g2 (.lst (.inl upd_same) (h5.sub (g2.up sb)))⟩
    · exact q1.elim
  · exact q.elim
end

/-! ### enumerate of a text -/
theorem src_str {P : Program} {w : World} {K : PySem.W.Frag} {it : Addr} {x : Str} {t : Tok} : Src P w K it (x.cps.toList.map fun c => .str ⟨#[c]⟩) (fun _ => True) (fun i h => h.IsStrIter it (strIterType x) x t i) where
  live := fun i h st => by
    obtain ⟨o, ho, hc, hd⟩ := st
    exact ⟨o, ho, fun v q => by rw [hd] at q; cases q⟩
  keep := fun i h h' st k => by
    obtain ⟨o, ho, r⟩ := st
    exact ⟨o, k o ho, r⟩
  draw := by
    intro X hP hw hK pins σ H s I hok A hA i st
    subst hP hw hK
    have D := Draws.text (prog := X.prog) (w := X.w) hA it x t
    have hl : x.cps.size = (x.cps.toList.map fun c => V.str ⟨#[c]⟩).length := by rw [List.length_map, Array.length_toList]
    rw [hl] at D
    refine ⟨_, _, _, D, fun b hb => .inl (List.mem_singleton.mp hb), st, fun i h q => q, fun i v hv => ?_⟩
    obtain ⟨c, u, h1, rfl⟩ := hv
    exact ⟨.str ⟨#[c]⟩, by rw [List.getElem?_map, Array.getElem?_toList, h1]; rfl, ⟨u, rfl⟩⟩
theorem sgn_dt {w : World} {K : PySem.W.Frag} {G : Hp} (l : List Nat) : DtAll w K G (l.map fun c => .str ⟨#[c]⟩) (l.map fun c => .str ⟨#[c]⟩) := by
  induction l with
  | nil => exact .nil
  | cons c l ih => exact .cons (.str _) ih
def en1s : List D → R (List D)
  | [.str x] => .ok (enD 0 (x.cps.toList.map fun c => .str ⟨#[c]⟩))
  | _ => stk
section
variable {X : Cx} {a : Expr} {p pos : Pos} {e : Nat → D → Prop} {O : List Nat} {fs : Env' → R (List D)}
theorem i_ens {elts : List Expr} {kk : Nat} {tp : Pos} (hm : X.mg "enumerate" = none) (h : PA X [a] (tA X.w X.K e O fs)) (hg : Gl X "enumerate" := by rfl) (hs : starEach [a] X.env = [(false, eval a X.env)] := by rfl) : PI X (.Tuple elts kk tp) (.Call (.Name "enumerate" p) [a] [] pos) (iV X.w X.K e O fun ρ => fs ρ >>= en1s) := by
  have h0 : PI X (.Tuple elts kk tp) (.Call (.Name "enumerate" p) [a] [] pos) (fun σ H R => tA X.w X.K e O fs σ H fun vs H1 => ∃ x, vs = [.str x] ∧ R (ItE (fun _ => True) (x.cps.toList.map fun c => .str ⟨#[c]⟩)) H1) := by
    refine ⟨fun pins s σ H R I hq => ?_⟩
    refine Call_ (ld_blt I hg hm boot_enumerate (PyProof.Rows.callWith_type1 (thn (h.run pos pins s σ H _ I hq) fun us s1 ⟨vs, H1, I1, r1, q1⟩ => ?_) hs rfl))
    obtain ⟨x, ex, q⟩ := q1
    subst ex
    cases r1 with
    | cons r rr =>
      cases rr
      obtain ⟨t, rfl⟩ := r
      refine call_enumerate_str fun h' he hit hz hk => wpAny_pyIter_enum he ?_
      have I2 : Inv X pins σ H1 { s1 with heap := h' } := I1.kept (t' := s1.toks) hk
      refine ⟨s1.heap.objs.size + 1, [s1.heap.objs.size + 1, s1.heap.objs.size], _, _, H1, rfl, I2, turn_enS (s1.heap.objs.size + 1) s1.heap.objs.size (Nat.succ_ne_self _) (src_str (x := x) (t := t)), ⟨⟨.none, he⟩, hit⟩, fun b hb => ?_, q⟩
      have e' : b = s1.heap.objs.size + 1 ∨ b = s1.heap.objs.size := by simpa using hb
      have hle : s1.heap.objs.size ≤ b := by
        rcases e' with z | z
        · rw [z]; exact Nat.le_add_right _ _
        · rw [z]; exact Nat.le_refl _
      exact I1.fpOk hle (I1.hok.fresh hle)
  refine pi_imp h0 fun σ H Q ⟨B, ρ, G, r, q⟩ => ⟨B, ρ, G, r, gd_mono (gd_bind.mp q) fun ds q vs G1 H1 g1 t => ?_⟩
  unfold en1s at q
  split at q
  · cases t with
    | cons t1 t2 =>
      cases t2
      cases t1 with
      | str x => exact ⟨_, rfl, q _ G1 H1 g1 (wk_enS (fun G' H' q1 q2 => True.intro) (sgn_dt _))⟩
  · exact q.elim
end

/-! ### x = [..] on one line, one's own -/
section
variable {X : Cx} {elt tgt iter : Expr} {ifs : List Expr} {scope : Scope} {pos : Pos} {e : Nat → D → Prop} {O O' ws : List Nat} {fr : Bool} {fi : Env' → R (List D)} {tg : D → Env' → R Env'} {ft : Env' → R Bool} {fe : Env' → R D}
theorem s_lcO (i : Nat) (own : List (Str × Nat)) {y : Str} {py spos : Pos} (hc : X.calm = true) (hN : X.N.Nodup) (hi : PI X tgt iter (iV X.w X.K e O fi)) (ok : BlkOk X.N X.env.scope scope own) (hg : Blk X scope fun Y => PG Y tgt (gT Y.w Y.K noE O ws tg)) (ht : Blk X scope fun Y => PTs Y ifs (tW Y.w Y.K noE O ft)) (he : Blk X scope fun Y => PE Y elt (tV Y.w Y.K noE O fe))
    (h0 : i ∈ O' := by decide) (h1 : ∀ j ∈ O', j = i ∨ j ∈ O := by decide) (h2 : ∀ j ∈ O, j = i ∨ j ∈ O' := by decide) (hy : X.N[i]? = some y := by rfl) (hyl : X.env.scope.names.lookup y = some .local := by rfl) (hv : ∀ j ∈ ws, j ∈ own.map (·.2) := by decide) (hs : ∀ x, foldedSetIterable iter X.env x = pure x := by intro _; rfl)
    (hsw : swapsWith (.ListComp elt [⟨tgt, iter, ifs, 0⟩] scope pos) (some (.Name y py)) spos.line X.env = pure true := by exact sw_true rfl rfl rfl (by decide +kernel)) :
    PS X (.Assign [.Name y py] (.ListComp elt [⟨tgt, iter, ifs, 0⟩] scope pos) spos) (sV X.w X.K e O O' fr fun ρ => compD (own.map (·.2)) fi tg ft fe ρ >>= fun d => setD i d ρ) :=
  s_lc own i hc hN hsw hi ok hg ht he h0 h1 h2 hy hyl hv hs
end
end Vs

set_option Elab.async false
set_option linter.all false
set_option maxRecDepth 100000
/-! constants of the module: tuples, dicts. -/
namespace Vs
open PySem PySem.Spec PyProof.Rows L2
mutual
inductive KVal (w : World) (K : PySem.W.Frag) : Value → D → Prop
  | non : KVal w K .none .none
  | bl (b : Bool) : KVal w K (.bool b) (.bool b)
  | int (i : Int) (t : Tok) : KVal w K (.int i t) (.int i)
  | str (x : Str) (t : Tok) : KVal w K (.str x t) (.str x)
  | tup {a : Addr} {dd : Option Addr} {its : List Value} {n : Nat} {sl : Array (Option Value)} {ds : List D} : K.lookup a = some ⟨.type "tuple", dd, .seq its.toArray n, sl⟩ → its.length ≤ 16777216 → KAll w K its ds → KVal w K (.ref a) (.tuple ds)
  | dct {a : Addr} {es : List DictEntry} {n : Nat} {kvs : List (D × D)} : K.lookup a = some ⟨.type "dict", none, .dict es.toArray n, #[]⟩ → (a == sysModules) = false → KEs w K es kvs → (kvs.map (·.1)).Nodup → KVal w K (.ref a) (.dict kvs)
inductive KAll (w : World) (K : PySem.W.Frag) : List Value → List D → Prop
  | nil : KAll w K [] []
  | cons {u : Value} {us : List Value} {d : D} {ds : List D} : KVal w K u d → KAll w K us ds → KAll w K (u :: us) (d :: ds)
inductive KEs (w : World) (K : PySem.W.Frag) : List DictEntry → List (D × D) → Prop
  | nil : KEs w K [] []
  | cons {h : Int} {k v : Value} {dk dv : D} {es : List DictEntry} {kvs : List (D × D)} : KVal w K k dk → h = hashD w dk → KVal w K v dv → KEs w K es kvs → KEs w K (⟨h, k, v⟩ :: es) ((dk, dv) :: kvs)
end
section
variable {w : World} {K : PySem.W.Frag}
mutual
theorem KVal.dt : ∀ {u : Value} {d : D}, KVal w K u d → ∃ v, RelV v u ∧ ∀ G : Hp, Dt w K G v d
  | _, _, .non => ⟨.non, rfl, fun _ => .non⟩
  | _, _, .bl b => ⟨.bl b, rfl, fun _ => .bl b⟩
  | _, _, .int i t => ⟨.int i, ⟨t, rfl⟩, fun _ => .int i⟩
  | _, _, .str x t => ⟨.str x, ⟨t, rfl⟩, fun _ => .str x⟩
  | _, _, .tup (a := a) h hl t => by
    obtain ⟨vs, rv, tv⟩ := KAll.dt t
    exact ⟨.ref a, rfl, fun G => .tup (.inr ⟨_, _, _, h, rfl, rfl, by rw [List.size_toArray, sizeLine_eq]; exact hl, rv⟩) (tv G)⟩
  | _, _, .dct (a := a) h ns t nd => by
    refine ⟨.ref a, rfl, fun G => .dct (.inr h) ns ⟨rfl, rfl, rfl⟩ rfl (KEs.dt t G) nd⟩
theorem KAll.dt : ∀ {us : List Value} {ds : List D}, KAll w K us ds → ∃ vs, Vals vs us ∧ ∀ G : Hp, DtAll w K G vs ds
  | _, _, .nil => ⟨[], .nil, fun _ => .nil⟩
  | _, _, .cons h t => by
    obtain ⟨v, r, tv⟩ := KVal.dt h
    obtain ⟨vs, rs, ts⟩ := KAll.dt t
    exact ⟨v :: vs, .cons r rs, fun G => .cons (tv G) (ts G)⟩
theorem KEs.dt : ∀ {es : List DictEntry} {kvs : List (D × D)}, KEs w K es kvs → ∀ G : Hp, DtEs w K G es kvs
  | _, _, .nil, _ => .nil
  | _, _, .cons h1 h2 h3 t, G => by
    obtain ⟨v, r, tv⟩ := KVal.dt h1
    obtain ⟨v2, r2, tv2⟩ := KVal.dt h3
    exact .cons r (tv G) h2 r2 (tv2 G) (KEs.dt t G)
end
end
theorem Kon.of {w : World} {K : PySem.W.Frag} {mg : Str → Option Value} {x : Str} {u : Value} {d : D} (m : mg x = some u) (k : KVal w K u d) : Kon w K mg x d := by
  obtain ⟨v, r, t⟩ := k.dt
  exact ⟨v, u, m, r, t⟩
theorem KVal.stx {w : World} {K : PySem.W.Frag} {z : Str} {t : Tok} {l : List Nat} (h : z = tx l := by decide +kernel) : KVal w K (.str z t) (.str (tx l)) := by subst h; exact .str _ t
theorem hash_kh {w : World} {z : Str} {l : List Nat} (h : z = tx l := by decide +kernel) : PyData.keyHash w.params z = hashD w (.str (tx l)) := by subst h; rfl
/-- two keys that are not the same, for certain -/
def dne : D → D → Bool
  | .str a, .str b => decide (a ≠ b)
  | .int a, .int b => decide (a ≠ b)
  | .tuple [.int a, .int b], .tuple [.int c, .int d] => decide (a ≠ c ∨ b ≠ d)
  | _, _ => false
theorem dne_ne : ∀ {a b : D}, dne a b = true → a ≠ b
  | .str a, .str b, h => fun e => of_decide_eq_true h (by cases e; rfl)
  | .int a, .int b, h => fun e => of_decide_eq_true h (by cases e; rfl)
  | .tuple [.int a, .int b], .tuple [.int c, .int d], h => fun e => by
    cases e
    rcases of_decide_eq_true h with h | h <;> exact h rfl
def kds : List D → Bool
  | [] => true
  | a :: l => l.all (dne a) && kds l
theorem kds_nd : ∀ {l : List D}, kds l = true → l.Nodup
  | [], _ => List.nodup_nil
  | a :: l, h => by
    unfold kds at h
    rw [Bool.and_eq_true, List.all_eq_true] at h
    exact List.nodup_cons.mpr ⟨fun hm => dne_ne (h.1 a hm) rfl, kds_nd h.2⟩
end Vs

set_option Elab.async false
set_option linter.all false
set_option maxRecDepth 100000
/-! zip of two and of three: lists, tuples, texts, side by side. -/
namespace Vs
open PySem PySem.Spec PyProof.Rows L2

/-- what one of the iterators draws: its cell it, the cells fx that it looks at -/
structure SrcZ (P : Program) (w : World) (K : PySem.W.Frag) (it : Addr) (fx : List Addr) (vs : List V) (ok : Hp → Prop) (tn : Nat → Heap → Prop) : Prop where
  live : ∀ i h, tn i h → ∃ o, h.get? it = some o ∧ ∀ v, o.data ≠ .cell v
  keep : ∀ i h h', tn i h → (∀ o, h.get? it = some o → h'.get? it = some o) → tn i h'
  draw : ∀ (X : Cx), X.prog = P → X.w = w → X.K = K → ∀ pins σ H s, Inv X pins σ H s → ok H → ∀ A : Around, A.handled = none → ∀ i, tn i s.heap → ∃ (Pv : Nat → Value → Prop) (St : Nat → Heap → Prop),
    Draws P w A it (it :: fx) vs.length Pv St ∧ St i s.heap ∧ (∀ i h, St i h → tn i h) ∧ ∀ i v, Pv i v → ∃ x, vs[i]? = some x ∧ RelV x v
section
variable {P : Program} {w : World} {K : PySem.W.Frag} {it a : Addr} {vs : List V}
theorem val_at {its : List Value} (rv : Vals vs its) {i : Nat} {v : Value} (hv : its.toArray[i]? = some v) : ∃ x, vs[i]? = some x ∧ RelV x v := by
  have hv : its[i]? = some v := by simpa using hv
  have hl := rv.length
  have hi : i < vs.length := by
    have := (List.getElem?_eq_some_iff.mp hv).1
    omega
  obtain ⟨u, hu, ru⟩ := rv.get (List.getElem?_eq_getElem hi)
  rw [hv] at hu; cases hu
  exact ⟨_, List.getElem?_eq_getElem hi, ru⟩
theorem sz_lst (hne : a ≠ it) : SrcZ P w K it [a] vs (fun H => SqL K H a vs) (fun i h => h.IsListIter it a i) where
  live := fun i h ⟨o, ho, hc, hd⟩ => ⟨o, ho, fun v q => by rw [hd] at q; cases q⟩
  keep := fun i h h' st k => st.at fun o e => k o e
  draw := by
    intro X hP hw hK pins σ H s I hok A hA i st
    subst hP hw hK
    obtain ⟨its, rv, pl, hz⟩ := I.list hok
    have D := Draws.list (prog := X.prog) (w := X.w) hA it a hne its.toArray
    rw [List.size_toArray, ← rv.length] at D
    exact ⟨_, _, D, ⟨st, pl.isList⟩, fun i h q => q.1, fun i v hv => val_at rv hv⟩
theorem sz_tup (hne : a ≠ it) : SrcZ P w K it [a] vs (fun H => SqT K H a vs) (fun i h => h.IsTupleIter it a i) where
  live := fun i h ⟨o, ho, hc, hd⟩ => ⟨o, ho, fun v q => by rw [hd] at q; cases q⟩
  keep := fun i h h' st k => st.at fun o e => k o e
  draw := by
    intro X hP hw hK pins σ H s I hok A hA i st
    subst hP hw hK
    obtain ⟨its, rv, pl, hz⟩ := I.tuple hok
    have D := Draws.tuple (prog := X.prog) (w := X.w) hA it a hne its.toArray
    rw [List.size_toArray, ← rv.length] at D
    exact ⟨_, _, D, ⟨st, pl⟩, fun i h q => q.1, fun i v hv => val_at rv hv⟩
theorem sz_str {x : Str} {t : Tok} : SrcZ P w K it [] (x.cps.toList.map fun c => .str ⟨#[c]⟩) (fun _ => True) (fun i h => h.IsStrIter it (strIterType x) x t i) where
  live := fun i h ⟨o, ho, hc, hd⟩ => ⟨o, ho, fun v q => by rw [hd] at q; cases q⟩
  keep := fun i h h' ⟨o, ho, r⟩ k => ⟨o, k o ho, r⟩
  draw := by
    intro X hP hw hK pins σ H s I hok A hA i st
    subst hP hw hK
    have D := Draws.text (prog := X.prog) (w := X.w) hA it x t
    have hl : x.cps.size = (x.cps.toList.map fun c => V.str ⟨#[c]⟩).length := by rw [List.length_map, Array.length_toList]
    rw [hl] at D
    refine ⟨_, _, D, st, fun i h q => q, fun i v ⟨c, u, h1, hv⟩ => ?_⟩
    subst hv
    exact ⟨.str ⟨#[c]⟩, by rw [List.getElem?_map, Array.getElem?_toList, h1]; rfl, ⟨u, rfl⟩⟩
end

/-! ### what may stand in a zip -/
def WkS (X : Cx) (x : V) (vs : List V) (ok : Hp → Prop) : Prop := ∀ pins σ H s u, Inv X pins σ H s → ok H → RelV x u → ∃ o Hb fx, Begins u o Hb ∧ Hb s.heap ∧ (∀ b ∈ fx, b < s.heap.objs.size) ∧
  ∀ it, it ∉ fx → ∃ tn, SrcZ X.prog X.w X.K it fx vs ok tn ∧ ∀ h' : Heap, h'.get? it = some o → tn 0 h'
def seqZ : D → R (List D)
  | .list ds => .ok ds
  | .tuple ds => .ok ds
  | .str x => .ok (x.cps.toList.map fun c => .str ⟨#[c]⟩)
  | _ => stk
theorem seqZ_in {X : Cx} {G : Hp} {v : V} {d : D} {e : Nat → D → Prop} {q : List D → Prop} (t : Dt X.w X.K G v d) (h : gd (seqZ d) q e) :
    ∃ vs ok ds, WkS X v vs ok ∧ DtAll X.w X.K G vs ds ∧ (∀ G' H, Sub G G' → Sub G' H → ok H) ∧ q ds := by
  cases t with
  | lst s1 t1 =>
    rename_i A vs ds
    refine ⟨vs, fun H => SqL X.K H A vs, ds, fun pins σ H s u I hok r => ?_, t1, fun G' H q1 q2 => Rd.sq (Rd.sub (q1.trans q2) s1), h⟩
    obtain rfl : u = Value.ref A := r
    obtain ⟨its, rv, pl, hz⟩ := I.list hok
    refine ⟨_, _, [A], begins_list A its.toArray, pl.isList, fun b hb => ?_, fun it hit => ⟨_, sz_lst (fun z => hit (by rw [z]; exact List.mem_singleton_self _)), fun h' e => ⟨_, e, rfl, rfl⟩⟩⟩
    rw [List.mem_singleton.mp hb]
    exact pl.lt
  | tup s1 t1 =>
    rename_i A vs ds
    refine ⟨vs, fun H => SqT X.K H A vs, ds, fun pins σ H s u I hok r => ?_, t1, fun G' H q1 q2 => SqT.sub (q1.trans q2) s1, h⟩
    obtain rfl : u = Value.ref A := r
    obtain ⟨its, rv, pl, hz⟩ := I.tuple hok
    refine ⟨_, _, [A], begins_tuple A its.toArray, pl, fun b hb => ?_, fun it hit => ⟨_, sz_tup (fun z => hit (by rw [z]; exact List.mem_singleton_self _)), fun h' e => ⟨_, e, rfl, rfl⟩⟩⟩
    rw [List.mem_singleton.mp hb]
    obtain ⟨o, ho, _⟩ := pl
    exact Heap.lt_size ho
  | str x =>
    refine ⟨_, fun _ => True, _, fun pins σ H s u I hok r => ?_, sgn_dt _, fun _ _ _ _ => True.intro, h⟩
    obtain ⟨t, rfl⟩ := r
    exact ⟨_, _, [], begins_text x t, True.intro, (by intro b hb; cases hb), fun it _ => ⟨_, sz_str, fun h' e => ⟨_, e, rfl, rfl⟩⟩⟩
  | non => exact h.elim
  | bl _ => exact h.elim
  | int _ => exact h.elim
  | dct _ _ _ _ _ _ => exact h.elim
  | scr _ _ => exact h.elim

/-! ### two -/
def ItZ2 (o1 o2 : Hp → Prop) (vs ws : List V) : It := ⟨fun i H => (o1 H ∧ o2 H) ∧ i < vs.length ∧ i < ws.length, fun i H v H' => ∃ T x y, v = .ref T ∧ H T = none ∧ H' = upd H T (.tup [x, y]) ∧ vs[i]? = some x ∧ ws[i]? = some y,
  fun i H => (o1 H ∧ o2 H) ∧ i ≤ vs.length ∧ i ≤ ws.length ∧ (i = vs.length ∨ i = ws.length)⟩
theorem turn_z2 {P : Program} {w : World} {K : PySem.W.Frag} {elts : List Expr} {kk : Nat} {tpos : Pos} {vs ws : List V} {o1 o2 : Hp → Prop} {tn1 tn2 : Nat → Heap → Prop} {z TI TO j1 j2 : Addr} {f1 f2 : List Addr}
    (D : ZipSep2 z TI TO j1 j2 (j1 :: f1) (j2 :: f2)) (S1 : SrcZ P w K j1 f1 vs o1 tn1) (S2 : SrcZ P w K j2 f2 ws o2 tn2) :
    Turn P w K (.Tuple elts kk tpos) (ItZ2 o1 o2 vs ws) [z, TI, TO, j1, j2] z (fun i h => IsZip h z TI TO .none ∧ IsTupOf2 h TI (.ref j1) (.ref j2) ∧ (∃ x y, IsTupOf2 h TO x y) ∧ tn1 i h ∧ tn2 i h) where
  mem := List.mem_cons_self
  obj := fun i h ⟨hz, hTI, ⟨x, y, hTO⟩, h1, h2⟩ c hc => by
    rcases List.mem_cons.mp hc with q | hc
    · rw [q]; exact ⟨_, hz, fun _ => nofun⟩
    rcases List.mem_cons.mp hc with q | hc
    · rw [q]; exact ⟨_, hTI, fun _ => nofun⟩
    rcases List.mem_cons.mp hc with q | hc
    · rw [q]; exact ⟨_, hTO, fun _ => nofun⟩
    rcases List.mem_cons.mp hc with q | hc
    · rw [q]; exact S1.live _ _ h1
    · rw [List.mem_singleton.mp hc]; exact S2.live _ _ h2
  keep := fun i h h' ⟨hz, hTI, ⟨x, y, hTO⟩, h1, h2⟩ k =>
    ⟨k z (by simp) _ hz, k TI (by simp) _ hTI, ⟨x, y, k TO (by simp) _ hTO⟩, S1.keep _ _ _ h1 fun o q => k j1 (by simp) o q, S2.keep _ _ _ h2 fun o q => k j2 (by simp) o q⟩
  item := by
    intro X hP hw hK hc i pins s σ H E I hf ⟨hz, hTI, ⟨x0, y0, hTO⟩, h1, h2⟩ ⟨⟨k1, k2⟩, l1, l2⟩
    subst hP hw hK
    obtain ⟨P1, St1, D1, a1, b1, c1⟩ := S1.draw X rfl rfl rfl pins σ H s I k1 X.A.in1 (I.ok.hd hc) i h1
    obtain ⟨P2, St2, D2, a2, b2, c2⟩ := S2.draw X rfl rfl rfl pins σ H s I k2 X.A.in1 (I.ok.hd hc) i h2
    have hzl : z < s.heap.objs.size := Heap.lt_size hz
    refine wpAny_pyNext_zipD2_item D D1 D2 hz hTI hTO a1 a2 l1 l2 fun u v h' tk hu hv z' TO' n1 n2 hT hsz hk => ?_
    obtain ⟨x, ex, rx⟩ := c1 i u hu
    obtain ⟨y, ey, ry⟩ := c2 i v hv
    refine ⟨_, rfl, wpAny_letOwnedTupleGo_zip (s := { s with heap := h', toks := tk }) z' fun h'' z'' sb => ?_⟩
    have hT2 : h''.get? s.heap.objs.size = some { cls := .type "tuple", data := .seq #[u, v] } := (sb.2 _ (Nat.ne_of_gt hzl)).trans hT
    have nw : ObjOk X.prog X.w (upd H s.heap.objs.size (.tup [x, y])) h'' s.heap.objs.size (.tup [x, y]) :=
      ⟨show 2 ≤ sizeLine by decide, [u, v], .cons rx (.cons ry .nil), ⟨_, hT2, rfl, _, rfl⟩⟩
    have I1 : Inv X pins σ (upd H s.heap.objs.size (.tup [x, y])) { s with heap := h'', toks := tk } :=
      I.turnedNew (ch := [z, TI, TO, j1, j2]) (fun c o hb q => (sb.2 c fun e => hb (by simp [e])).trans (hk c o (fun e => hb (by simp [e])) (fun e => hb (by simp [e])) (fun e => hb (by simp [e])) (fun e => hb (by simp [e])) q)) hf (Nat.le_refl _) nw
    refine ⟨.ref s.heap.objs.size, _, I1, rfl, ⟨_, x, y, rfl, I.hok.fresh (Nat.le_refl _), rfl, ex, ey⟩, ⟨z'', ?_, ⟨u, v, (sb.2 _ D.TOz).trans TO'⟩, ?_, ?_⟩, fun c hcm => ?_⟩
    · exact (sb.2 _ D.TIz).trans (hk _ _ D.TIz D.TITO D.TIi1 D.TIi2 hTI)
    · exact S1.keep _ _ _ (b1 _ _ n1) fun o q => (sb.2 _ (Ne.symm D.zi1)).trans q
    · exact S2.keep _ _ _ (b2 _ _ n2) fun o q => (sb.2 _ (Ne.symm D.zi2)).trans q
    · obtain ⟨o, ho, _⟩ : ∃ o, s.heap.get? c = some o ∧ True := by
        rcases List.mem_cons.mp hcm with q | hcm
        · rw [q]; exact ⟨_, hz, True.intro⟩
        rcases List.mem_cons.mp hcm with q | hcm
        · rw [q]; exact ⟨_, hTI, True.intro⟩
        rcases List.mem_cons.mp hcm with q | hcm
        · rw [q]; exact ⟨_, hTO, True.intro⟩
        rcases List.mem_cons.mp hcm with q | hcm
        · rw [q]; obtain ⟨o, ho, _⟩ := S1.live _ _ h1; exact ⟨o, ho, True.intro⟩
        · rw [List.mem_singleton.mp hcm]; obtain ⟨o, ho, _⟩ := S2.live _ _ h2; exact ⟨o, ho, True.intro⟩
      rw [upd_ne (Nat.ne_of_lt (Heap.lt_size ho))]
      exact (hf c hcm).1
  done := by
    intro X hP hw hK hc i pins s σ H E I hf ⟨hz, hTI, ⟨x0, y0, hTO⟩, h1, h2⟩ ⟨⟨k1, k2⟩, l1, l2, hend⟩
    subst hP hw hK
    obtain ⟨P1, St1, D1, a1, b1, c1⟩ := S1.draw X rfl rfl rfl pins σ H s I k1 X.A.in1 (I.ok.hd hc) i h1
    obtain ⟨P2, St2, D2, a2, b2, c2⟩ := S2.draw X rfl rfl rfl pins σ H s I k2 X.A.in1 (I.ok.hd hc) i h2
    exact wpAny_pyNext_zipD2_end D D1 D2 hz hTI hTO a1 a2 l1 l2 hend fun h' tk hk => ⟨rfl, I.turnedL (t' := tk) (ch := [z, TI, TO, j1, j2]) (fun c o hb q =>
      hk c o (fun e => hb (by simp [e])) (fun e => hb (by simp [e])) (fun e => hb (by simp [e])) (fun e => hb (by simp [e])) q) hf⟩
  self := fun A i s Q E st h => wpAny_pyIter_zip st.1 h
def zip2L (xs ys : List D) : List D := List.zipWith (fun x y => .tuple [x, y]) xs ys
theorem wk_z2 {w : World} {K : PySem.W.Frag} {G : Hp} {o1 o2 : Hp → Prop} {vs ws : List V} {ds es : List D} (h1 : ∀ G' H, Sub G G' → Sub G' H → o1 H) (h2 : ∀ G' H, Sub G G' → Sub G' H → o2 H) (t1 : DtAll w K G vs ds) (t2 : DtAll w K G ws es) :
    Wk w K (ItZ2 o1 o2 vs ws) G (zip2L ds es) where
  go := fun i G' H s1 s2 hi => by
    unfold zip2L at hi
    rw [List.length_zipWith, ← t1.length, ← t2.length] at hi
    exact ⟨⟨h1 G' H s1 s2, h2 G' H s1 s2⟩, by omega, by omega⟩
  stop := fun G' H s1 s2 => by
    unfold zip2L
    rw [List.length_zipWith, ← t1.length, ← t2.length]
    exact ⟨⟨h1 G' H s1 s2, h2 G' H s1 s2⟩, by omega, by omega, by omega⟩
  yld := fun i d G' H x H' s1 s2 hd y => by
    obtain ⟨T, p, q, rfl, nT, rfl, ep, eq⟩ := y
    obtain ⟨d1, e1, u1⟩ := t1.get ep
    obtain ⟨d2, e2, u2⟩ := t2.get eq
    unfold zip2L at hd
    rw [List.getElem?_zipWith, e1, e2] at hd
    cases hd
    have g2 := Gr.new (o := .tup [p, q]) s2 nT
    exact ⟨_, g2, .tup (.inl (.inl upd_same)) (.cons ((u1.sub s1).sub (g2.up s2)) (.cons ((u2.sub s1).sub (g2.up s2)) .nil))⟩
def zip2D : List D → R (List D)
  | [x, y] => seqZ x >>= fun xs => seqZ y >>= fun ys => .ok (zip2L xs ys)
  | _ => stk
section
variable {X : Cx} {a b c : Expr} {p pos : Pos} {e : Nat → D → Prop} {O : List Nat} {fs : Env' → R (List D)}
theorem i_zip2 {elts : List Expr} {kk : Nat} {tp : Pos} (hm : X.mg "zip" = none) (h : PA X [a, b] (tA X.w X.K e O fs)) (hg : Gl X "zip" := by rfl) (hs : starEach [a, b] X.env = (false, eval a X.env) :: starEach [b] X.env := by rfl) (hpl : (backTo pos (starEach [b] X.env)).any (·.1) = false := by rfl) :
    PI X (.Tuple elts kk tp) (.Call (.Name "zip" p) [a, b] [] pos) (iV X.w X.K e O fun ρ => fs ρ >>= zip2D) := by
  have h0 : PI X (.Tuple elts kk tp) (.Call (.Name "zip" p) [a, b] [] pos) (fun σ H R => tA X.w X.K e O fs σ H fun vs H1 => ∃ x y xs ys o1 o2, vs = [x, y] ∧ WkS X x xs o1 ∧ WkS X y ys o2 ∧ o1 H1 ∧ o2 H1 ∧ R (ItZ2 o1 o2 xs ys) H1) := by
    refine ⟨fun pins s σ H R I hq => ?_⟩
    refine Call_ (ld_blt I hg hm PyProof.Rows.boot_zip (PyProof.Rows.callWith_type1 (thn (h.run pos pins s σ H _ I hq) fun us s1 ⟨vs, H1, I1, r1, q1⟩ => ?_) hs hpl))
    obtain ⟨x, y, xs, ys, o1, o2, ex, w1, w2, k1, k2, q⟩ := q1
    subst ex
    obtain ⟨u, v, ru, rv, rfl⟩ : ∃ u v, RelV x u ∧ RelV y v ∧ us = [u, v] := by
      cases r1 with
      | cons r rr => cases rr with
        | cons r' rr => cases rr; exact ⟨_, _, r, r', rfl⟩
    obtain ⟨ob1, B1, f1, b1, c1, m1, n1⟩ := w1 pins σ H1 s1 u I1 k1 ru
    obtain ⟨ob2, B2, f2, b2, c2, m2, n2⟩ := w2 pins σ H1 s1 v I1 k2 rv
    obtain ⟨tn1, S1, g1⟩ := n1 s1.heap.objs.size fun z => Nat.lt_irrefl _ (m1 _ z)
    obtain ⟨tn2, S2, g2⟩ := n2 (s1.heap.objs.size + 1) fun z => Nat.not_succ_lt_self (m2 _ z)
    refine zip_begins2 b1 b2 c1 c2 fun h' hz hTI hTO hi1 hi2 hsz hk => wpAny_pyIter_zip hz ?_
    have I2 : Inv X pins σ H1 { s1 with heap := h' } := I1.kept (t' := s1.toks) hk
    refine ⟨s1.heap.objs.size + 4, [s1.heap.objs.size + 4, s1.heap.objs.size + 2, s1.heap.objs.size + 3, s1.heap.objs.size, s1.heap.objs.size + 1], _, _, H1, rfl, I2, turn_z2 (zip_sep2 m1 m2) S1 S2, ⟨hz, hTI, ⟨_, _, hTO⟩, g1 _ hi1, g2 _ hi2⟩, fun b hb => ?_, q⟩
    have hle : s1.heap.objs.size ≤ b := by
      simp only [List.mem_cons, List.not_mem_nil, or_false] at hb
      rcases hb with z | z | z | z | z <;> rw [z] <;> first | exact Nat.le_refl _ | exact Nat.le_add_right _ _
    exact I1.fpOk hle (I1.hok.fresh hle)
  refine pi_imp h0 fun σ H Q ⟨B, ρ, G, r, q⟩ => ⟨B, ρ, G, r, gd_mono (gd_bind.mp q) fun ds q vs G1 H1 g1 t => ?_⟩
  unfold zip2D at q
  split at q
  · cases t with
    | cons t1 t2 => cases t2 with
      | cons t2 t3 =>
        cases t3
        obtain ⟨xs, o1, d1, w1, u1, k1, q⟩ := seqZ_in t1 (gd_bind.mp q)
        obtain ⟨ys, o2, d2, w2, u2, k2, q⟩ := seqZ_in t2 (gd_bind.mp q)
        exact ⟨_, _, xs, ys, o1, o2, rfl, w1, w2, k1 G1 H1 (Sub.refl _) g1.sub, k2 G1 H1 (Sub.refl _) g1.sub, q _ G1 H1 g1 (wk_z2 k1 k2 u1 u2)⟩
  · exact q.elim
end

/-! ### three -/
def ItZ3 (o1 o2 o3 : Hp → Prop) (vs ws us : List V) : It := ⟨fun i H => (o1 H ∧ o2 H ∧ o3 H) ∧ i < vs.length ∧ i < ws.length ∧ i < us.length,
  fun i H v H' => ∃ T x y r, v = .ref T ∧ H T = none ∧ H' = upd H T (.tup [x, y, r]) ∧ vs[i]? = some x ∧ ws[i]? = some y ∧ us[i]? = some r,
  fun i H => (o1 H ∧ o2 H ∧ o3 H) ∧ i ≤ vs.length ∧ i ≤ ws.length ∧ i ≤ us.length ∧ (i = vs.length ∨ i = ws.length ∨ i = us.length)⟩
theorem turn_z3 {P : Program} {w : World} {K : PySem.W.Frag} {elts : List Expr} {kk : Nat} {tpos : Pos} {vs ws us : List V} {o1 o2 o3 : Hp → Prop} {tn1 tn2 tn3 : Nat → Heap → Prop} {z TI TO j1 j2 j3 : Addr} {f1 f2 f3 : List Addr}
    (D : ZipSep3 z TI TO j1 j2 j3 (j1 :: f1) (j2 :: f2) (j3 :: f3)) (S1 : SrcZ P w K j1 f1 vs o1 tn1) (S2 : SrcZ P w K j2 f2 ws o2 tn2) (S3 : SrcZ P w K j3 f3 us o3 tn3) :
    Turn P w K (.Tuple elts kk tpos) (ItZ3 o1 o2 o3 vs ws us) [z, TI, TO, j1, j2, j3] z (fun i h => IsZip h z TI TO .none ∧ IsTupOf3 h TI (.ref j1) (.ref j2) (.ref j3) ∧ (∃ x y r, IsTupOf3 h TO x y r) ∧ tn1 i h ∧ tn2 i h ∧ tn3 i h) where
  mem := List.mem_cons_self
  obj := fun i h ⟨hz, hTI, ⟨x, y, r, hTO⟩, h1, h2, h3⟩ c hc => by
    rcases List.mem_cons.mp hc with q | hc
    · rw [q]; exact ⟨_, hz, fun _ => nofun⟩
    rcases List.mem_cons.mp hc with q | hc
    · rw [q]; exact ⟨_, hTI, fun _ => nofun⟩
    rcases List.mem_cons.mp hc with q | hc
    · rw [q]; exact ⟨_, hTO, fun _ => nofun⟩
    rcases List.mem_cons.mp hc with q | hc
    · rw [q]; exact S1.live _ _ h1
    rcases List.mem_cons.mp hc with q | hc
    · rw [q]; exact S2.live _ _ h2
    · rw [List.mem_singleton.mp hc]; exact S3.live _ _ h3
  keep := fun i h h' ⟨hz, hTI, ⟨x, y, r, hTO⟩, h1, h2, h3⟩ k =>
    ⟨k z (by simp) _ hz, k TI (by simp) _ hTI, ⟨x, y, r, k TO (by simp) _ hTO⟩, S1.keep _ _ _ h1 fun o q => k j1 (by simp) o q, S2.keep _ _ _ h2 fun o q => k j2 (by simp) o q, S3.keep _ _ _ h3 fun o q => k j3 (by simp) o q⟩
  item := by
    intro X hP hw hK hc i pins s σ H E I hf ⟨hz, hTI, ⟨x0, y0, r0, hTO⟩, h1, h2, h3⟩ ⟨⟨k1, k2, k3⟩, l1, l2, l3⟩
    subst hP hw hK
    obtain ⟨P1, St1, D1, a1, b1, c1⟩ := S1.draw X rfl rfl rfl pins σ H s I k1 X.A.in1 (I.ok.hd hc) i h1
    obtain ⟨P2, St2, D2, a2, b2, c2⟩ := S2.draw X rfl rfl rfl pins σ H s I k2 X.A.in1 (I.ok.hd hc) i h2
    obtain ⟨P3, St3, D3, a3, b3, c3⟩ := S3.draw X rfl rfl rfl pins σ H s I k3 X.A.in1 (I.ok.hd hc) i h3
    have hzl : z < s.heap.objs.size := Heap.lt_size hz
    refine wpAny_pyNext_zipD3_item D D1 D2 D3 hz hTI hTO a1 a2 a3 l1 l2 l3 fun u v t h' tk hu hv ht z' TO' n1 n2 n3 hT hsz hk => ?_
    obtain ⟨x, ex, rx⟩ := c1 i u hu
    obtain ⟨y, ey, ry⟩ := c2 i v hv
    obtain ⟨r, er, rr⟩ := c3 i t ht
    refine ⟨_, rfl, wpAny_letOwnedTupleGo_zip (s := { s with heap := h', toks := tk }) z' fun h'' z'' sb => ?_⟩
    have hT2 : h''.get? s.heap.objs.size = some { cls := .type "tuple", data := .seq #[u, v, t] } := (sb.2 _ (Nat.ne_of_gt hzl)).trans hT
    have nw : ObjOk X.prog X.w (upd H s.heap.objs.size (.tup [x, y, r])) h'' s.heap.objs.size (.tup [x, y, r]) :=
      ⟨show 3 ≤ sizeLine by decide, [u, v, t], .cons rx (.cons ry (.cons rr .nil)), ⟨_, hT2, rfl, _, rfl⟩⟩
    have I1 : Inv X pins σ (upd H s.heap.objs.size (.tup [x, y, r])) { s with heap := h'', toks := tk } :=
      I.turnedNew (ch := [z, TI, TO, j1, j2, j3]) (fun c o hb q => (sb.2 c fun e => hb (by simp [e])).trans (hk c o (fun e => hb (by simp [e])) (fun e => hb (by simp [e])) (fun e => hb (by simp [e])) (fun e => hb (by simp [e])) (fun e => hb (by simp [e])) q)) hf (Nat.le_refl _) nw
    have zi : z ≠ j1 ∧ z ≠ j2 ∧ z ≠ j3 := ⟨fun e => D.zf1 (by rw [e]; exact D.mem1), fun e => D.zf2 (by rw [e]; exact D.mem2), fun e => D.zf3 (by rw [e]; exact D.mem3)⟩
    refine ⟨.ref s.heap.objs.size, _, I1, rfl, ⟨_, x, y, r, rfl, I.hok.fresh (Nat.le_refl _), rfl, ex, ey, er⟩, ⟨z'', ?_, ⟨u, v, t, (sb.2 _ D.TOz).trans TO'⟩, ?_, ?_, ?_⟩, fun c hcm => ?_⟩
    · exact (sb.2 _ D.TIz).trans (hk _ _ D.TIz D.TITO D.TIi1 D.TIi2 D.TIi3 hTI)
    · exact S1.keep _ _ _ (b1 _ _ n1) fun o q => (sb.2 _ (Ne.symm zi.1)).trans q
    · exact S2.keep _ _ _ (b2 _ _ n2) fun o q => (sb.2 _ (Ne.symm zi.2.1)).trans q
    · exact S3.keep _ _ _ (b3 _ _ n3) fun o q => (sb.2 _ (Ne.symm zi.2.2)).trans q
    · obtain ⟨o, ho, _⟩ : ∃ o, s.heap.get? c = some o ∧ True := by
        rcases List.mem_cons.mp hcm with q | hcm
        · rw [q]; exact ⟨_, hz, True.intro⟩
        rcases List.mem_cons.mp hcm with q | hcm
        · rw [q]; exact ⟨_, hTI, True.intro⟩
        rcases List.mem_cons.mp hcm with q | hcm
        · rw [q]; exact ⟨_, hTO, True.intro⟩
        rcases List.mem_cons.mp hcm with q | hcm
        · rw [q]; obtain ⟨o, ho, _⟩ := S1.live _ _ h1; exact ⟨o, ho, True.intro⟩
        rcases List.mem_cons.mp hcm with q | hcm
        · rw [q]; obtain ⟨o, ho, _⟩ := S2.live _ _ h2; exact ⟨o, ho, True.intro⟩
        · rw [List.mem_singleton.mp hcm]; obtain ⟨o, ho, _⟩ := S3.live _ _ h3; exact ⟨o, ho, True.intro⟩
      rw [upd_ne (Nat.ne_of_lt (Heap.lt_size ho))]
      exact (hf c hcm).1
  done := by
    intro X hP hw hK hc i pins s σ H E I hf ⟨hz, hTI, ⟨x0, y0, r0, hTO⟩, h1, h2, h3⟩ ⟨⟨k1, k2, k3⟩, l1, l2, l3, hend⟩
    subst hP hw hK
    obtain ⟨P1, St1, D1, a1, b1, c1⟩ := S1.draw X rfl rfl rfl pins σ H s I k1 X.A.in1 (I.ok.hd hc) i h1
    obtain ⟨P2, St2, D2, a2, b2, c2⟩ := S2.draw X rfl rfl rfl pins σ H s I k2 X.A.in1 (I.ok.hd hc) i h2
    obtain ⟨P3, St3, D3, a3, b3, c3⟩ := S3.draw X rfl rfl rfl pins σ H s I k3 X.A.in1 (I.ok.hd hc) i h3
    exact wpAny_pyNext_zipD3_end D D1 D2 D3 hz hTI hTO a1 a2 a3 l1 l2 l3 hend fun h' tk hk => ⟨rfl, I.turnedL (t' := tk) (ch := [z, TI, TO, j1, j2, j3]) (fun c o hb q =>
      hk c o (fun e => hb (by simp [e])) (fun e => hb (by simp [e])) (fun e => hb (by simp [e])) (fun e => hb (by simp [e])) (fun e => hb (by simp [e])) q) hf⟩
  self := fun A i s Q E st h => wpAny_pyIter_zip st.1 h
def zip3L : List D → List D → List D → List D
  | x :: xs, y :: ys, r :: rs => .tuple [x, y, r] :: zip3L xs ys rs
  | _, _, _ => []
theorem zip3L_len : ∀ (xs ys rs : List D), (zip3L xs ys rs).length = min xs.length (min ys.length rs.length)
  | [], _, _ => by simp [zip3L]
  | _ :: _, [], _ => by simp [zip3L]
  | _ :: _, _ :: _, [] => by simp [zip3L]
  | x :: xs, y :: ys, r :: rs => by
    show (zip3L xs ys rs).length + 1 = _
    rw [zip3L_len xs ys rs, List.length_cons, List.length_cons, List.length_cons]; omega
theorem zip3L_get : ∀ {xs ys rs : List D} {i : Nat} {x y r : D}, xs[i]? = some x → ys[i]? = some y → rs[i]? = some r → (zip3L xs ys rs)[i]? = some (.tuple [x, y, r])
  | x :: xs, y :: ys, r :: rs, 0, _, _, _, h1, h2, h3 => by cases h1; cases h2; cases h3; rfl
  | x :: xs, y :: ys, r :: rs, i + 1, _, _, _, h1, h2, h3 => by
    rw [List.getElem?_cons_succ] at h1 h2 h3
    show (PyData.tuple [x, y, r] :: zip3L xs ys rs)[i + 1]? = _
    rw [List.getElem?_cons_succ]
    exact zip3L_get h1 h2 h3
theorem wk_z3 {w : World} {K : PySem.W.Frag} {G : Hp} {o1 o2 o3 : Hp → Prop} {vs ws us : List V} {ds es fs : List D} (h1 : ∀ G' H, Sub G G' → Sub G' H → o1 H) (h2 : ∀ G' H, Sub G G' → Sub G' H → o2 H) (h3 : ∀ G' H, Sub G G' → Sub G' H → o3 H) (t1 : DtAll w K G vs ds) (t2 : DtAll w K G ws es) (t3 : DtAll w K G us fs) :
    Wk w K (ItZ3 o1 o2 o3 vs ws us) G (zip3L ds es fs) where
  go := fun i G' H s1 s2 hi => by
    rw [zip3L_len, ← t1.length, ← t2.length, ← t3.length] at hi
    exact ⟨⟨h1 G' H s1 s2, h2 G' H s1 s2, h3 G' H s1 s2⟩, by omega, by omega, by omega⟩
  stop := fun G' H s1 s2 => by
    rw [zip3L_len, ← t1.length, ← t2.length, ← t3.length]
    exact ⟨⟨h1 G' H s1 s2, h2 G' H s1 s2, h3 G' H s1 s2⟩, by omega, by omega, by omega, by omega⟩
  yld := fun i d G' H x H' s1 s2 hd y => by
    obtain ⟨T, p, q, r, rfl, nT, rfl, ep, eq, er⟩ := y
    obtain ⟨d1, e1, u1⟩ := t1.get ep
    obtain ⟨d2, e2, u2⟩ := t2.get eq
    obtain ⟨d3, e3, u3⟩ := t3.get er
    rw [zip3L_get e1 e2 e3] at hd
    cases hd
    have g2 := Gr.new (o := .tup [p, q, r]) s2 nT
    exact ⟨_, g2, .tup (.inl (.inl upd_same)) (.cons ((u1.sub s1).sub (g2.up s2)) (.cons ((u2.sub s1).sub (g2.up s2)) (.cons ((u3.sub s1).sub (g2.up s2)) .nil)))⟩
def zip3D : List D → R (List D)
  | [x, y, r] => seqZ x >>= fun xs => seqZ y >>= fun ys => seqZ r >>= fun rs => .ok (zip3L xs ys rs)
  | _ => stk
section
variable {X : Cx} {a b c : Expr} {p pos : Pos} {e : Nat → D → Prop} {O : List Nat} {fs : Env' → R (List D)}
theorem i_zip3 {elts : List Expr} {kk : Nat} {tp : Pos} (hm : X.mg "zip" = none) (h : PA X [a, b, c] (tA X.w X.K e O fs)) (hg : Gl X "zip" := by rfl) (hs : starEach [a, b, c] X.env = (false, eval a X.env) :: starEach [b, c] X.env := by rfl) (hpl : (backTo pos (starEach [b, c] X.env)).any (·.1) = false := by rfl) :
    PI X (.Tuple elts kk tp) (.Call (.Name "zip" p) [a, b, c] [] pos) (iV X.w X.K e O fun ρ => fs ρ >>= zip3D) := by
  have h0 : PI X (.Tuple elts kk tp) (.Call (.Name "zip" p) [a, b, c] [] pos) (fun σ H R => tA X.w X.K e O fs σ H fun vs H1 => ∃ x y r xs ys rs o1 o2 o3, vs = [x, y, r] ∧ WkS X x xs o1 ∧ WkS X y ys o2 ∧ WkS X r rs o3 ∧ o1 H1 ∧ o2 H1 ∧ o3 H1 ∧ R (ItZ3 o1 o2 o3 xs ys rs) H1) := by
    refine ⟨fun pins s σ H R I hq => ?_⟩
    refine Call_ (ld_blt I hg hm PyProof.Rows.boot_zip (PyProof.Rows.callWith_type1 (thn (h.run pos pins s σ H _ I hq) fun us s1 ⟨vs, H1, I1, r1, q1⟩ => ?_) hs hpl))
    obtain ⟨x, y, r, xs, ys, rs, o1, o2, o3, ex, w1, w2, w3, k1, k2, k3, q⟩ := q1
    subst ex
    obtain ⟨u, v, t, ru, rv, rt, rfl⟩ : ∃ u v t, RelV x u ∧ RelV y v ∧ RelV r t ∧ us = [u, v, t] := by
      cases r1 with
      | cons r rr => cases rr with
        | cons r' rr => cases rr with
          | cons r'' rr => cases rr; exact ⟨_, _, _, r, r', r'', rfl⟩
    obtain ⟨ob1, B1, f1, b1, c1, m1, n1⟩ := w1 pins σ H1 s1 u I1 k1 ru
    obtain ⟨ob2, B2, f2, b2, c2, m2, n2⟩ := w2 pins σ H1 s1 v I1 k2 rv
    obtain ⟨ob3, B3, f3, b3, c3, m3, n3⟩ := w3 pins σ H1 s1 t I1 k3 rt
    obtain ⟨tn1, S1, g1⟩ := n1 s1.heap.objs.size fun z => Nat.lt_irrefl _ (m1 _ z)
    obtain ⟨tn2, S2, g2⟩ := n2 (s1.heap.objs.size + 1) fun z => Nat.not_succ_lt_self (m2 _ z)
    obtain ⟨tn3, S3, g3⟩ := n3 (s1.heap.objs.size + 2) fun z => absurd (show s1.heap.objs.size + 2 < s1.heap.objs.size from m3 _ z) (by omega)
    refine zip_begins3 b1 b2 b3 c1 c2 c3 fun h' hz hTI hTO hi1 hi2 hi3 hsz hk => wpAny_pyIter_zip hz ?_
    have I2 : Inv X pins σ H1 { s1 with heap := h' } := I1.kept (t' := s1.toks) hk
    refine ⟨s1.heap.objs.size + 5, [s1.heap.objs.size + 5, s1.heap.objs.size + 3, s1.heap.objs.size + 4, s1.heap.objs.size, s1.heap.objs.size + 1, s1.heap.objs.size + 2], _, _, H1, rfl, I2, turn_z3 (zip_sep3 m1 m2 m3) S1 S2 S3, ⟨hz, hTI, ⟨_, _, _, hTO⟩, g1 _ hi1, g2 _ hi2, g3 _ hi3⟩, fun b hb => ?_, q⟩
    have hle : s1.heap.objs.size ≤ b := by
      simp only [List.mem_cons, List.not_mem_nil, or_false] at hb
      rcases hb with z | z | z | z | z | z <;> rw [z] <;> first | exact Nat.le_refl _ | exact Nat.le_add_right _ _
    exact I1.fpOk hle (I1.hok.fresh hle)
  refine pi_imp h0 fun σ H Q ⟨B, ρ, G, r, q⟩ => ⟨B, ρ, G, r, gd_mono (gd_bind.mp q) fun ds q vs G1 H1 g1 t => ?_⟩
  unfold zip3D at q
  split at q
  · cases t with
    | cons t1 t2 => cases t2 with
      | cons t2 t3 => cases t3 with
        | cons t3 t4 =>
          cases t4
          obtain ⟨xs, o1, d1, w1, u1, k1, q⟩ := seqZ_in t1 (gd_bind.mp q)
          obtain ⟨ys, o2, d2, w2, u2, k2, q⟩ := seqZ_in t2 (gd_bind.mp q)
          obtain ⟨rs, o3, d3, w3, u3, k3, q⟩ := seqZ_in t3 (gd_bind.mp q)
          exact ⟨_, _, _, xs, ys, rs, o1, o2, o3, rfl, w1, w2, w3, k1 G1 H1 (Sub.refl _) g1.sub, k2 G1 H1 (Sub.refl _) g1.sub, k3 G1 H1 (Sub.refl _) g1.sub, q _ G1 H1 g1 (wk_z3 k1 k2 k3 u1 u2 u3)⟩
  · exact q.elim
end
end Vs

set_option Elab.async false
set_option linter.all false
set_option maxRecDepth 100000
/-! gcd, wide //, lists taken apart, {k: v for ..}. -/
namespace Vs
open PySem PySem.Spec PyProof.Rows L2

/-! ### gcd(a, b); // by a wide divisor -/
section
variable {X : Cx} {e : Nat → D → Prop} {O : List Nat} {a : Expr} {es : List Expr} {x : Str} {p pos : Pos} {id : String} {g : List D → R D} {fs : Env' → R (List D)}
def gcdD : List D → R D
  | [.int a, .int b] => .ok (.int ((Nat.gcd a.natAbs b.natAbs : Nat) : Int))
  | _ => stk
theorem c_gcd : CallR X (.builtin "math.gcd") (rC X.w X.K gcdD) := callr_imp cr_gcd fun xs H Q ⟨G, ds, e, sb, t, q⟩ => by
  unfold gcdD at q
  split at q
  · cases t with
    | cons t1 t2 => cases t2 with
      | cons t2 t3 =>
        cases t3; cases t1; cases t2
        exact ⟨_, _, rfl, q _ G H (Gr.refl sb) (.int _)⟩
  · exact q.elim
theorem v_gb (hc : CallR X (.builtin id) (rC X.w X.K g)) (hm : X.mg x = some (.builtin id)) (hs : PA X (a :: es) (tA X.w X.K e O fs)) (hg : Gl X x := by rfl) (hdb : (x == ("__debug__" : Str)) = false := by decide)
    (he : starEach (a :: es) X.env = (false, eval a X.env) :: starEach es X.env := by rfl) (hpl : (backTo pos (starEach es X.env)).any (·.1) = false := by rfl) : PE X (.Call (.Name x p) (a :: es) [] pos) (tV X.w X.K e O fun ρ => fs ρ >>= g) :=
  pe_imp (pe_callBfun hc hg hm hs hdb he hpl) fun _ _ _ h => args h
def fdivW : D → D → R D := arI fun i j => if 0 < j ∧ j < 18446744073709551616 then .ok (.int (i / j)) else stk
theorem d_fdivW : OpR X (binaryOp .FloorDiv) (r2 X.w X.K fdivW) := op_i op_fdivW fun i j q e h => by
  split at h
  · rename_i hc
    refine ⟨wide_div (b := 64) hc.1 ?_ (by decide) (by decide), _, h, fun _ => .int _⟩
    have := hc.2
    have e2 : (2 : Nat) ^ 64 = 18446744073709551616 := by decide
    omega
  · exact h.elim
end

/-! ### a, b = a list -/
section
variable {X : Cx} {as : List Expr} {pos : Pos} {e : Nat → D → Prop} {O vs : List Nat} {tgs : List D → Env' → R Env'}
def unL (n : Nat) (tgs : List D → Env' → R Env') (d : D) (ρ : Env') : R Env' := match d with
  | .list ds => if ds.length = n then tgs ds ρ else stk
  | _ => stk
theorem g_lst {k n : Nat} (hc : X.calm = true) (h : PGs X as (gTs X.w X.K e O vs tgs)) (hn : (assignEach as X.env).length = n := by rfl) (hst : (assignEach as X.env).findIdx? (·.1) = none := by rfl) : PG X (.Tuple as k pos) (gT X.w X.K e O vs (unL n tgs)) := by
  refine pg_imp (pg_lst hc h hn hst) fun v σ H Q ⟨B, ρ, G, d, r, t, q⟩ => ?_
  cases t with
  | lst s1 t1 =>
    unfold unL at q
    simp only at q
    split at q
    · rename_i hl
      exact ⟨_, _, rfl, Rd.sq (Rd.sub r.sub s1), by rw [t1.length]; exact hl, B, ρ, G, _, r, t1, q⟩
    · exact q.elim
  | non => exact q.elim
  | bl _ => exact q.elim
  | int _ => exact q.elim
  | str _ => exact q.elim
  | tup _ _ => exact q.elim
  | dct _ _ _ _ _ _ => exact q.elim
  | scr _ _ => exact q.elim
end

/-! ### {k: v for x in ..} -/
inductive AtV (w : World) (K : PySem.W.Frag) (G : Hp) : List (D × D) → List (Key × V) → Prop
  | nil : AtV w K G [] []
  | cons {dk dv : D} {k : Key} {v : V} {kvs : List (D × D)} {vs : List (Key × V)} : atomK dk = some k → Dt w K G v dv → AtV w K G kvs vs → AtV w K G ((dk, dv) :: kvs) ((k, v) :: vs)
section
variable {w : World} {K : PySem.W.Frag} {G : Hp}
theorem AtV.sub {G' : Hp} (s : Sub G G') : ∀ {kvs : List (D × D)} {vs : List (Key × V)}, AtV w K G kvs vs → AtV w K G' kvs vs
  | _, _, .nil => .nil
  | _, _, .cons h1 h2 h3 => .cons h1 (h2.sub s) (h3.sub s)
theorem AtV.len : ∀ {kvs : List (D × D)} {vs : List (Key × V)}, AtV w K G kvs vs → kvs.length = vs.length
  | _, _, .nil => rfl
  | _, _, .cons _ _ h3 => by rw [List.length_cons, List.length_cons, h3.len]
theorem AtV.all : ∀ {kvs : List (D × D)} {vs : List (Key × V)}, AtV w K G kvs vs → allAt kvs = true
  | _, _, .nil => rfl
  | _, _, .cons (dk := dk) h1 _ h3 => by
    have := h3.all
    unfold allAt at this ⊢
    rw [List.all_cons, this, show (atomK dk).isSome = true by rw [h1]; rfl]; rfl
theorem AtV.any {dk : D} {k : Key} (hk : atomK dk = some k) : ∀ {kvs : List (D × D)} {vs : List (Key × V)}, AtV w K G kvs vs → kvs.any (fun p => PyData.eqv p.1 dk) = vs.any (fun kv => decide (kv.1 = k))
  | _, _, .nil => rfl
  | _, _, .cons h1 _ h3 => by rw [List.any_cons, List.any_cons, h3.any hk, atom_eqv h1 hk]
theorem AtV.repl {dk dv : D} {k : Key} {v : V} (hk : atomK dk = some k) (t : Dt w K G v dv) : ∀ {kvs : List (D × D)} {vs : List (Key × V)}, AtV w K G kvs vs →
    AtV w K G (kvs.map (fun p => if PyData.eqv p.1 dk then (p.1, dv) else p)) (vs.map fun kv => if kv.1 = k then (kv.1, v) else kv)
  | _, _, .nil => .nil
  | _, _, .cons (k := k1) h1 h2 h3 => by
    have e := atom_eqv h1 hk
    rw [List.map_cons, List.map_cons]
    by_cases h : k1 = k
    · rw [decide_eq_true h] at e
      rw [if_pos e, if_pos h]
      exact .cons h1 t (h3.repl hk t)
    · rw [decide_eq_false h] at e
      rw [if_neg (by rw [e]; exact Bool.false_ne_true), if_neg h]
      exact .cons h1 h2 (h3.repl hk t)
theorem AtV.app {dk dv : D} {k : Key} {v : V} (hk : atomK dk = some k) (t : Dt w K G v dv) : ∀ {kvs : List (D × D)} {vs : List (Key × V)}, AtV w K G kvs vs → AtV w K G (kvs ++ [(dk, dv)]) (vs ++ [(k, v)])
  | _, _, .nil => .cons hk t .nil
  | _, _, .cons h1 h2 h3 => .cons h1 h2 (h3.app hk t)
theorem AtV.put {dk dv : D} {k : Key} {v : V} {kvs : List (D × D)} {vs : List (Key × V)} (hk : atomK dk = some k) (t : Dt w K G v dv) (a : AtV w K G kvs vs) : AtV w K G (dput kvs dk dv) (putK vs k v) := by
  unfold dput putK
  rw [a.any hk]
  split
  · exact a.repl hk t
  · exact a.app hk t
theorem AtV.p : ∀ {kvs : List (D × D)} {vs : List (Key × V)} {us : List (Key × Value)}, AtV w K G kvs vs → KV vs us → AtP w K G kvs us
  | _, _, [], .nil, _ => .nil
  | _, _, u :: us, .nil, h => by unfold KV at h; cases h
  | _, _, [], .cons _ _ _, h => by unfold KV at h; cases h
  | _, _, (k', u) :: us, .cons h1 h2 h3, h => by
    unfold KV at h
    cases h with
    | cons q1 q2 =>
      obtain ⟨e1, e2⟩ := q1
      cases e1
      exact .cons h1 e2 h2 (h3.p q2)
end
def dcL (tg : D → Env' → R Env') (ft : Env' → R Bool) (fk fv : Env' → R D) (ρ : Env') : List D → List (D × D) → R (List (D × D))
  | [], acc => .ok acc
  | d :: ds, acc => tg d ρ >>= fun ρ1 => ft ρ1 >>= fun b => if b then fk ρ1 >>= fun k => fv ρ1 >>= fun v => if (atomK k).isSome = true then dcL tg ft fk fv ρ ds (dput acc k v) else stk else dcL tg ft fk fv ρ ds acc
def dcD (vs : List Nat) (fi : Env' → R (List D)) (tg : D → Env' → R Env') (ft : Env' → R Bool) (fk fv : Env' → R D) : Env' → R D := fun ρ => fi ρ >>= fun ds => lenOk ds.length >>= fun _ => noX (dcL tg ft fk fv (wipeD ρ vs) ds []) >>= fun kvs => .ok (.dict kvs)
theorem pe_redo {X : Cx} {x : Expr} {t : TE} (h : PE X x t) : PE X x (fun σ H Q => t σ H fun v H1 => ∀ pins s, Inv X pins σ H1 s → ∃ H2, Inv X pins σ H2 s ∧ Q v H2) :=
  ⟨fun pins s σ H Q I q => thn (h.run pins s σ H _ I q) fun u s1 ⟨v, H1, I1, r, q1⟩ => let ⟨H2, I2, q2⟩ := q1 pins s1 I1; ⟨v, H2, I2, r, q2⟩⟩
/-- a dict made by the comprehension, seen as an object -/
theorem dk_obj {X : Cx} {pins : List (Addr × Obj)} {σ : L2.St} {G H : Hp} {s : Shared} {A : Addr} {kvs : List (D × D)} {vs : List (Key × V)} (I : Inv X pins σ H s) (hA : H A = some (.dK vs)) (t : AtV X.w X.K G kvs vs) :
    ∃ ob, Inv X pins σ (upd H A (dO A ob)) s ∧ DcH X.w X.K G A ob kvs := by
  obtain ⟨z, hd, us, rel, dd⟩ := dk_of I.hok hA
  obtain ⟨o, es, ep, g1, g2, g3, g4, g5, g6⟩ := dd
  have p := t.p rel
  refine ⟨o, d_write (h' := s.heap) (t' := s.toks) I (by rw [hA]; exact True.intro) ⟨rfl, fun _ _ => rfl⟩ ⟨_, g1⟩ (dO_ok g1), ⟨hd, g2, ⟨es, ep, g3, at_es g5 (fun e he => g4 e (Array.mem_toList_iff.mp he)) p⟩, at_nd1 p g6⟩⟩
section
variable {X : Cx} {kx vx tgt iter : Expr} {ifs : List Expr} {scope : Scope} {own : List (Str × Nat)} {pos : Pos} {e : Nat → D → Prop} {O vs ws : List Nat} {fi : Env' → R (List D)} {tg : D → Env' → R Env'} {ft : Env' → R Bool} {fk fv : Env' → R D}
theorem dc_in {w : World} {K : PySem.W.Frag} {σ : L2.St} {H : Hp} {Q : VK} (hv : ∀ j ∈ ws, j ∈ vs)
    (h : ∃ B ρ G, Rp w K B O ρ σ G H ∧ gd (dcD vs fi tg ft fk fv ρ) (fun d => ∀ (A : Addr) G' H' acc kvs, d = .dict kvs → Gr G H G' H' → H A = none → G' A = none → H' A = some (.dK acc) → AtV w K G' kvs acc → Q (.ref A) H') e) :
    tDc (iV w K e O fi) (gT w K noE O ws tg) (tW w K noE O ft) (tV w K noE O fk) (tV w K noE O fv) vs σ H Q := by
  obtain ⟨B, ρ, G, r, q⟩ := h
  refine ⟨B, ρ, G, r, gd_mono (gd_bind.mp q) fun ds q J G1 H1 g1 wk A nA => ?_⟩
  obtain ⟨hlen, q⟩ := lenOk_in (gd_bind.mp q)
  obtain ⟨ys, eys, q⟩ := noX_in (gd_bind.mp q)
  have r1 := r.grow g1
  have nA0 : H A = none := none_sub g1.keep nA
  have nG1 : G1 A = none := none_sub g1.sub nA
  have gA := Gr.own (o := .dK []) g1.sub nA
  have nB : B.H A = none := by
    cases z : B.H A with
    | none => rfl
    | some o => rw [r.gr.keep A o z] at nA0; cases nA0
  have ap : ∀ (i : Nat) (d : D), i ∈ O → (wipeD ρ vs)[i]? = some (some d) → (wipe σ vs)[i]? ≠ some (some (.ref A)) := fun i d hi e z => by
    obtain ⟨b, q1, q2, _⟩ := (r1.wipe vs).own i d e hi
    rw [z] at q1; cases q1
    obtain ⟨u, hu⟩ := q2.there
    rw [hu] at nA; cases nA
  refine ⟨fun i m H' => m = ds.length - i ∧ i ≤ ds.length ∧ ∃ G' acc kvs, Rp w K B O (wipeD ρ vs) (wipe σ vs) G' H' ∧ Gr G1 H1 G' H' ∧ G' A = none ∧ H' A = some (.dK acc) ∧ AtV w K G' kvs acc ∧ dcL tg ft fk fv (wipeD ρ vs) (ds.drop i) kvs = .ok ys ∧ kvs.length ≤ i, ⟨ds.length, rfl, Nat.zero_le _, G1, [], [], (r1.grow gA).wipe vs, gA, nG1, upd_same, .nil, eys, Nat.le_refl _⟩, fun i m H' hW => ?_⟩
  obtain ⟨rfl, hi, G', acc, kvs, r', g', nG, hA, tA, eR, hdl⟩ := hW
  by_cases hl : i < ds.length
  · refine .inr ⟨wk.go i G' H' (g'.up g1.sub) g'.sub hl, fun H2 => ∃ G2 acc kvs, Rp w K B O (wipeD ρ vs) (wipe σ vs) G2 H2 ∧ Gr G1 H1 G2 H2 ∧ G2 A = none ∧ H2 A = some (.dK acc) ∧ AtV w K G2 kvs acc ∧ dcL tg ft fk fv (wipeD ρ vs) (ds.drop (i + 1)) kvs = .ok ys ∧ kvs.length ≤ i + 1, fun H2 h2 => ⟨ds.length - (i + 1), by omega, rfl, hl, h2⟩, fun x H2 y => ?_⟩
    obtain ⟨G2, g2, t2⟩ := wk.yld i ds[i] G' H' x H2 (g'.up g1.sub) g'.sub (List.getElem?_eq_getElem hl) y
    rw [List.drop_eq_getElem_cons hl] at eR
    obtain ⟨ρ1, e1, eR⟩ := bind_ok (show (tg ds[i] (wipeD ρ vs) >>= fun ρ1 => ft ρ1 >>= fun b => if b then fk ρ1 >>= fun k => fv ρ1 >>= fun v => if (atomK k).isSome = true then dcL tg ft fk fv (wipeD ρ vs) (ds.drop (i + 1)) (dput kvs k v) else stk else dcL tg ft fk fv (wipeD ρ vs) (ds.drop (i + 1)) kvs) = .ok ys from eR)
    obtain ⟨b, e2, eR⟩ := bind_ok eR
    have neA : H' A ≠ none := by rw [hA]; exact fun z => nomatch z
    refine ⟨B, wipeD ρ vs, G2, ds[i], r'.grow g2, t2, gd_of e1 fun σ2 k2 r2 => ⟨?_, B, ρ1, G2, r2, gd_of e2 fun G3 H3 g3 => ?_⟩⟩
    · have := wipe_same (vs := vs) k2.len k2.off hv
      rw [this, wipe_wipe]
    · have g23 := g2.trans g3
      cases b with
      | false =>
        refine iteF ⟨G3, acc, kvs, r'.grow g23, g'.trans g23, (g23.fix A neA).trans nG, g23.keep A _ hA, tA.sub (g23.up g'.sub), eR, by omega⟩
      | true =>
        obtain ⟨y1, e3, eR⟩ := bind_ok (show (fk ρ1 >>= fun k => fv ρ1 >>= fun v => if (atomK k).isSome = true then dcL tg ft fk fv (wipeD ρ vs) (ds.drop (i + 1)) (dput kvs k v) else stk) = .ok ys from eR)
        obtain ⟨y2, e4, eR⟩ := bind_ok eR
        split at eR
        · rename_i hk
          obtain ⟨k, hk⟩ := Option.isSome_iff_exists.mp hk
          refine iteT ⟨B, ρ1, G3, r2.grow g3, gd_of e3 fun u G4 H4 g4 t4 => ⟨B, ρ1, G4, (r2.grow g3).grow g4, gd_of e4 fun u2 G5 H5 g5 t5 => ?_⟩⟩
          have g25 := (g23.trans g4).trans g5
          have hA5 := g25.keep A _ hA
          have nG5 : G5 A = none := (g25.fix A neA).trans nG
          have eu : u = kV k := atom_V t4 hk
          have tA5 := (tA.sub (g25.up g'.sub)).put hk t5
          refine ⟨acc, k, eu, hA5, by rw [← tA.len]; omega, G5, putK acc k u2, dput kvs y1 y2, ?_, ?_, nG5, upd_same, tA5, eR, by have := dput_len kvs y1 y2; omega⟩
          · exact (r'.grow g25).out nG5 nB ap
          · exact (g'.trans g25).wr nA nG5
        · cases eR
  · have ei : i = ds.length := by omega
    subst ei
    rw [List.drop_length] at eR
    cases eR
    exact .inl ⟨wk.stop G' H' (g'.up g1.sub) g'.sub, q A G' H' acc _ rfl (g1.trans g') nA0 nG hA tA⟩
theorem o_dc (own : List (Str × Nat)) (hc : X.calm = true) (hN : X.N.Nodup) (hi : PI X tgt iter (iV X.w X.K e O fi)) (ok : BlkOk X.N X.env.scope scope own) (hg : Blk X scope fun Y => PG Y tgt (gT Y.w Y.K noE O ws tg)) (ht : Blk X scope fun Y => PTs Y ifs (tW Y.w Y.K noE O ft)) (hk : Blk X scope fun Y => PE Y kx (tV Y.w Y.K noE O fk)) (he : Blk X scope fun Y => PE Y vx (tV Y.w Y.K noE O fv))
    (hv : ∀ j ∈ ws, j ∈ own.map (·.2) := by decide) (hs : ∀ x, foldedSetIterable iter X.env x = pure x := by intro _; rfl) : PE X (.DictComp kx vx [⟨tgt, iter, ifs, 0⟩] scope pos) (tO X.w X.K e O (dcD (own.map (·.2)) fi tg ft fk fv)) :=
  pe_imp (pe_redo (pe_dc hc hN hi ok hg ht hk he hs)) fun σ H Q ⟨B, ρ, G, r, q⟩ => dc_in hv ⟨B, ρ, G, r, gd_mono q fun d q A G' H' acc kvs ed g' n1 n2 hA tA pins s I => by
    subst ed
    obtain ⟨ob, I2, c⟩ := dk_obj I hA tA
    exact ⟨_, I2, q A G' _ (g'.wr n1 n2) n1 n2 (c.own upd_same)⟩⟩
end
end Vs

set_option Elab.async false
set_option linter.all false
set_option maxRecDepth 100000
/-! sorted(set(xs)) of whole numbers; a, b, c = x, y, z. -/
namespace Vs
open PySem PySem.Spec PyProof.Rows L2

/-! ### a, b, c = x, y, z with plain names -/
section
variable {X : Cx} {e : Nat → D → Prop} {O : List Nat} {pos : Pos}
theorem s_par3 {i j l : Nat} {x y z : Str} {b c d : Expr} {fs : Env' → R (List D)} {px py pz pt : Pos} {kt k2 pt2} {fr : Bool} (hc : X.calm = true) (hN : X.N.Nodup) (ha : PA X [b, c, d] (tA X.w X.K e O fs)) (hoi : i ∉ O := by decide) (hoj : j ∉ O := by decide) (hol : l ∉ O := by decide) (hi : X.N[i]? = some x := by rfl) (hj : X.N[j]? = some y := by rfl) (hl : X.N[l]? = some z := by rfl)
    (hij : i ≠ j := by decide) (hil : i ≠ l := by decide) (hjl : j ≠ l := by decide) (hx : X.env.scope.names.lookup x = some .local := by rfl) (hy : X.env.scope.names.lookup y = some .local := by rfl) (hz : X.env.scope.names.lookup z = some .local := by rfl)
    (hw : swappedStores [.Tuple [.Name x px, .Name y py, .Name z pz] kt pt] (.Tuple [b, c, d] k2 pt2) X.env = pure (some [x, y, z]) := by rfl)
    (hs : swapsWithSole [.Tuple [.Name x px, .Name y py, .Name z pz] kt pt] (.Tuple [b, c, d] k2 pt2) pos.line X.env = pure false := by rfl) :
    PS X (.Assign [.Tuple [.Name x px, .Name y py, .Name z pz] kt pt] (.Tuple [b, c, d] k2 pt2) pos) (sV X.w X.K e O O fr fun ρ => fs ρ >>= fun ds => match ds with | [d1, d2, d3] => .ok (.nx (((ρ.set i (some d1)).set j (some d2)).set l (some d3))) | _ => stk) := by
  refine ps_imp (L2.ps_par3 hc hN hi hj hl hij hil hjl hx hy hz ha hw hs) fun Dn σ H ⟨B, ρ, G, r, q⟩ => ⟨B, ρ, G, r, gd_mono (gd_bind.mp q) fun ds q vs G1 H1 g1 t => ?_⟩
  have keep : ∀ {m : Nat}, m ∉ O → (∀ k ∈ O, k ∈ O ∧ k ≠ m) := fun hm k hk => ⟨hk, fun z => hm (by rw [← z]; exact hk)⟩
  match ds, vs, t, q with
  | [d1, d2, d3], [v1, v2, v3], .cons t1 (.cons t2 (.cons t3 .nil)), q =>
    exact ⟨_, _, _, rfl, q _ G1 H1 (g1.up r.sub) ((((r.grow g1).put t1 (keep hoi) fun j hj => .inr hj).put t2 (keep hoj) fun j hj => .inr hj).put t3 (keep hol) fun j hj => .inr hj)⟩
  | [], _, _, q => exact q.elim
  | [_], _, _, q => exact q.elim
  | [_, _], _, _, q => exact q.elim
  | _ :: _ :: _ :: _ :: _, _, _, q => exact q.elim
end

/-! ### sets of whole numbers, as they are walked -/
def setF_int (P : Program) (w : World) : SetF P w Int where
  isk := fun k v => ∃ tk, v = .int k tk
  Φ := fun h S l => SetR w h S (fun k => decide (k ∈ l)) l.length
  keep := fun x k => x.at k
  add := fun {A E s S l k v Q} hk x1 hl h => by
    obtain ⟨tk, rfl⟩ := hk
    unfold setAdd
    refine wpAny_holding (wpAny_bind ((intKind P w).pyHash (intKind_is P w k tk) ?_))
    refine setR_add_hashed (s := { s with toks := s.toks + 1 }) x1 hl fun h' sb x2 => h _ h' sb ?_
    unfold addK
    by_cases hm : k ∈ l
    · rw [if_pos (decide_eq_true hm)] at x2
      rw [if_pos hm]
      refine x2.congr fun j => ?_
      by_cases e : j = k
      · subst e; simp [hm]
      · simp [e]
    · rw [if_neg (fun z => hm (of_decide_eq_true z))] at x2
      rw [if_neg hm, List.length_append, List.length_singleton]
      refine x2.congr fun j => ?_
      simp [List.mem_append]
  new := fun {h S} e => by
    obtain ⟨o, es, ep, t, r⟩ := setR_fresh (h := h) w
    refine ⟨_, #[], 0, _, e, ⟨rfl, rfl, rfl⟩, rfl, (by intro e he; cases he), List.nodup_nil, (by intro k; simp), (by decide), rfl, rfl, List.Pairwise.nil, ?_⟩
    show _ ∨ (!w.params.followText "set-order") = true
    cases w.params.followText "set-order"
    · exact .inr rfl
    · exact .inl rfl
/-! ### sorting whole numbers -/
def insI (x : Int) : List Int → List Int
  | [] => [x]
  | y :: r => if x ≤ y then x :: y :: r else y :: insI x r
def isortI : List Int → List Int
  | [] => []
  | x :: r => insI x (isortI r)
theorem insI_mem {x k : Int} : ∀ {l : List Int}, k ∈ insI x l ↔ k = x ∨ k ∈ l
  | [] => by simp [insI]
  | y :: r => by
    unfold insI
    split
    · simp
    · rw [List.mem_cons, insI_mem, List.mem_cons]
      constructor
      · rintro (h | h | h)
        · exact .inr (.inl h)
        · exact .inl h
        · exact .inr (.inr h)
      · rintro (h | h | h)
        · exact .inr (.inl h)
        · exact .inl h
        · exact .inr (.inr h)
theorem isortI_mem {k : Int} : ∀ {l : List Int}, k ∈ isortI l ↔ k ∈ l
  | [] => Iff.rfl
  | x :: r => by
    show k ∈ insI x (isortI r) ↔ _
    rw [insI_mem, isortI_mem, List.mem_cons]
theorem insI_lt {x : Int} : ∀ {l : List Int}, l.Pairwise (· < ·) → x ∉ l → (insI x l).Pairwise (· < ·)
  | [], _, _ => List.pairwise_singleton _ _
  | y :: r, h, hx => by
    obtain ⟨h1, h2⟩ := List.pairwise_cons.mp h
    have hne : x ≠ y := fun e => hx (by rw [e]; exact List.mem_cons_self)
    unfold insI
    split
    · rename_i hle
      refine List.pairwise_cons.mpr ⟨fun k hk => ?_, h⟩
      rcases List.mem_cons.mp hk with e | hk
      · omega
      · have := h1 k hk; omega
    · rename_i hle
      refine List.pairwise_cons.mpr ⟨fun k hk => ?_, insI_lt h2 fun z => hx (List.mem_cons_of_mem _ z)⟩
      rcases insI_mem.mp hk with e | hk
      · omega
      · exact h1 k hk
theorem isortI_lt : ∀ {l : List Int}, l.Nodup → (isortI l).Pairwise (· < ·)
  | [], _ => List.Pairwise.nil
  | x :: r, h => by
    obtain ⟨h1, h2⟩ := List.nodup_cons.mp h
    exact insI_lt (isortI_lt h2) fun z => h1 (isortI_mem.mp z)
theorem lt_same : ∀ {l m : List Int}, l.Pairwise (· < ·) → m.Pairwise (· < ·) → (∀ k, k ∈ l ↔ k ∈ m) → l = m
  | [], [], _, _, _ => rfl
  | [], y :: m, _, _, h => absurd ((h y).mpr List.mem_cons_self) List.not_mem_nil
  | x :: l, [], _, _, h => absurd ((h x).mp List.mem_cons_self) List.not_mem_nil
  | x :: l, y :: m, h1, h2, h => by
    obtain ⟨a1, a2⟩ := List.pairwise_cons.mp h1
    obtain ⟨b1, b2⟩ := List.pairwise_cons.mp h2
    have e : x = y := by
      rcases List.mem_cons.mp ((h x).mp List.mem_cons_self) with e | e
      · exact e
      · rcases List.mem_cons.mp ((h y).mpr List.mem_cons_self) with e' | e'
        · exact e'.symm
        · have := a1 y e'; have := b1 x e; omega
    subst e
    refine congrArg (x :: ·) (lt_same a2 b2 fun k => ⟨fun hk => ?_, fun hk => ?_⟩)
    · rcases List.mem_cons.mp ((h k).mp (List.mem_cons_of_mem _ hk)) with e | e
      · have := a1 k hk; omega
      · exact e
    · rcases List.mem_cons.mp ((h k).mpr (List.mem_cons_of_mem _ hk)) with e | e
      · have := b1 k hk; omega
      · exact e
theorem addK_nd {α : Type} [DecidableEq α] {l : List α} {x : α} (h : l.Nodup) : (addK l x).Nodup := by
  unfold addK
  split
  · exact h
  · rename_i hx
    rw [List.nodup_append]
    exact ⟨h, List.nodup_cons.mpr ⟨List.not_mem_nil, List.nodup_nil⟩, fun a ha b hb e => hx (by rw [List.mem_singleton.mp hb] at e; rw [← e]; exact ha)⟩
theorem once_nd {α : Type} [DecidableEq α] (l : List α) : (once l).Nodup := by
  have key : ∀ (l acc : List α), acc.Nodup → (l.foldl addK acc).Nodup := by
    intro l
    induction l with
    | nil => exact fun _ h => h
    | cons x l ih => exact fun acc h => ih _ (addK_nd h)
  exact key l [] List.nodup_nil
def ssetD (d : D) : R D := itL d >>= fun ds => opt (ints? ds) >>= fun ns => if ns.length + 1 < 64 then .ok (.list ((isortI (once ns)).map .int)) else stk
theorem ints_all {w : World} {K : PySem.W.Frag} {G : Hp} : ∀ (ns : List Int), DtAll w K G (ns.map .int) (ns.map .int)
  | [] => .nil
  | n :: ns => .cons (.int n) (ints_all ns)
theorem ints_at {us : List Value} : ∀ {ns : List Int}, Vals (ns.map .int) us → ∀ (i : Nat) (v : Value), us[i]? = some v → ∃ n tk, ns[i]? = some n ∧ v = .int n tk := by
  intro ns r i v h
  have hl := r.length
  rw [List.length_map] at hl
  have hi : i < ns.length := by
    have := (List.getElem?_eq_some_iff.mp h).1
    omega
  obtain ⟨u, hu, ru⟩ := r.get (i := i) (x := .int ns[i]) (by rw [List.getElem?_map, List.getElem?_eq_getElem hi]; rfl)
  rw [h] at hu
  cases hu
  obtain ⟨tk, e⟩ := ru
  exact ⟨_, tk, List.getElem?_eq_getElem hi, e⟩
section
variable {X : Cx} {a : Expr} {e : Nat → D → Prop} {O : List Nat} {fa : Env' → R D} {p p2 q pos : Pos}
theorem o_sset (hm : X.mg "sorted" = none) (hm2 : X.mg "set" = none) (hc : X.calm = true) (ha : PE X a (tV X.w X.K e O fa)) (hg : Gl X "sorted" := by rfl) (hg2 : Gl X "set" := by rfl) (na : starEach [a] X.env = (false, eval a X.env) :: starEach [] X.env := by rfl) :
    PE X (.Call (.Name "sorted" p) [.Call (.Name "set" p2) [a] [] q] [] pos) (tO X.w X.K e O fun ρ => fa ρ >>= fun x => ssetD x) := by
  refine ⟨fun pins s σ H Q I ⟨B, ρ, G, r, g⟩ => ?_⟩
  refine Call_ (ld_blt I hg hm boot_sorted ?_)
  refine PyProof.Rows.callWith_builtin1 (PyProof.Rows.args_cons ?_ rfl) rfl rfl
  refine Call_ (ld_blt I hg2 hm2 boot_set ?_)
  have key : tV X.w X.K e O fa σ H fun x H1 => ∃ (l : Addr) (ns : List Int), x = .ref l ∧ SqL X.K H1 l (ns.map .int) ∧ ns.length + 1 < 64 ∧ ∃ G1, Gr G H G1 H1 ∧ ∀ a G' H', Gr G H G' H' → H a = none → G' a = none → Own X.w X.K G' H' a (.list ((isortI (once ns)).map .int)) → Q (.ref a) H' := by
    refine ⟨B, ρ, G, r, gd_mono (gd_bind.mp g) fun d g v G1 H1 g1 t => ?_⟩
    unfold ssetD at g
    cases t with
    | lst s1 a1 =>
      obtain ⟨ns, hk, g⟩ := opt_in (gd_bind.mp g)
      split at g
      · rename_i hl
        refine ⟨_, ns, rfl, ?_, hl, G1, g1, g⟩
        rw [← (ints_dt a1 hk).1]
        exact Rd.sq (Rd.sub g1.sub s1)
      · exact g.elim
    | non => exact g.elim
    | bl _ => exact g.elim
    | int _ => exact g.elim
    | str _ => exact g.elim
    | tup _ _ => exact g.elim
    | dct _ _ _ _ _ _ => exact g.elim
    | scr _ _ => exact g.elim
  refine PyProof.Rows.callWith_type1 (PyProof.Rows.args_cons (thn (ha.run pins s σ H _ I key) fun v s1 ⟨x, H1, I1, r1, l, ns, e1, hS, hl, G1, g1, q1⟩ => PyProof.Rows.args_nil ?_) na) na rfl
  subst e1
  obtain rfl : v = Value.ref l := r1
  obtain ⟨its, rv, pl, hz⟩ := I1.list hS
  have hlen : its.toArray.size = ns.length := by rw [List.size_toArray, ← rv.length, List.length_map]
  refine call_set_F (setF_int X.prog X.w) (fun j => ns.getD j 0) (I1.ok.hd hc) pl.isList (fun i v hv => ?_) (by rw [hlen]; exact Nat.lt_trans hl (by decide)) fun h' tk x k => PyProof.Rows.args_nil ?_
  · obtain ⟨n, t, e2, e3⟩ := ints_at rv i v (by simpa using hv)
    exact ⟨t, by rw [e3, List.getD_eq_getElem?_getD, e2]; rfl⟩
  · have hle := onceTo_le (fun j => ns.getD j 0) ns.length
    rw [hlen] at x
    rw [onceTo_is 0 ns ns.length (Nat.le_refl _), List.take_length] at x hle
    generalize hS2 : s1.heap.objs.size = S at x
    have nS : H1 S = none := I1.hok.fresh (Nat.le_of_eq hS2)
    have I3 : Inv X pins σ (upd H1 S (SetO X.w S (fun k => decide (k ∈ once ns)) (once ns).length)) { s1 with heap := h', toks := tk } := I1.laid (t' := tk) k (Nat.le_of_eq hS2) (setO_new x)
    refine cr_sortedSet hc pins _ σ _ [.ref S] [.ref S] _ I3 (.cons rfl .nil) ⟨S, _, _, rfl, upd_same, by omega, fun ms p hpw hmem hlm hp => ?_⟩
    have em : ms = isortI (once ns) := lt_same hpw (isortI_lt (once_nd ns)) fun k => (hmem k).trans (by rw [decide_eq_true_eq, isortI_mem])
    subst em
    have nSG : G1 S = none := none_sub g1.sub nS
    have g2 : Gr G H G1 (upd H1 S (SetO X.w S (fun k => decide (k ∈ once ns)) (once ns).length)) := g1.trans (Gr.own g1.sub nS)
    have np : H p = none := none_sub g2.keep hp
    have g3 := Gr.own (o := .lst ((isortI (once ns)).map .int)) g2.sub hp
    exact q1 p G1 _ (g2.trans g3) np (none_sub g2.sub hp) (.inl ⟨_, _, rfl, upd_same, ints_all _⟩)
end
end Vs

set_option Elab.async false
set_option linter.all false
set_option maxRecDepth 100000
/-! xs.count(x) of a list. -/
namespace Vs
open PySem PySem.Spec PyProof.Rows L2
def rCountD (K : PySem.W.Frag) : V → List V → Hp → VK → Prop := fun x xs H Q => ∃ (a : Addr) (y : V) (d : D) (ds : List D), x = .ref a ∧ xs = [y] ∧ Dp K H (.ref a) (.list ds) ∧ Dp K H y d ∧ SeqAt.shaped (.list ds) = true ∧ SeqAt.shaped d = true ∧ Q (.int (ds.countP fun z => PyData.eqv z d : Nat)) H
section
variable {X : Cx} {a b : Expr} {apos cpos : Pos} {e : Nat → D → Prop} {O : List Nat} {fa fb : Env' → R D}
theorem mt_countD (hu : X.A.units + 65 < cLine) : MtR X "list.count" (rCountD X.K) := by
  intro pins s σ H x xs v us Q I rx rxs ⟨l, y, d, ds, ex, exs, hl, hy, sl, sd, q⟩
  subst ex exs
  obtain rfl : v = Value.ref l := rx
  obtain ⟨u, rfl, ru⟩ := rxs.one
  obtain ⟨bs, r1⟩ := Dp.reads I d y u hy ru
  cases hl with
  | lst hs ha =>
    obtain ⟨its, rv, pl, hlen⟩ := I.list hs
    obtain ⟨as, r2⟩ := Dp.readsAll I ds _ its ha rv
    refine PySem.SeqAt.count_list_data (vs := its.toArray) pl.isList r2 r1 (PyData.plainAll_of_canLay0 _ (SeqAt.canLay_of_shaped sl)) (PyData.plain_of_canLay0 _ (SeqAt.canLay_of_shaped sd)) (room_in_shaped sd hu) ⟨.int (_ : Nat), H, I.tok _, ⟨_, rfl⟩, q⟩
def countLD (l d : D) : R D := itL l >>= fun ds => if SeqAt.shaped (.list ds) = true ∧ SeqAt.shaped d = true then .ok (.int (ds.countP fun z => PyData.eqv z d : Nat)) else stk
theorem v_countL (hu : X.A.units + 65 < cLine) (ho : PE X a (tV X.w X.K e O fa)) (hb : PE X b (tV X.w X.K e O fb))
    (hbase : attributeBase a "count" X.env (eval a X.env) = eval a X.env := by rfl)
    (hfew : ((backTo cpos (starEach [b] X.env)).all (fun x => !x.1) && (backToKw cpos (keywordEach [] X.env)).all (fun x => x.1.isSome) && decide ([b].length + ([] : List Keyword).length + (if ([] : List Keyword).isEmpty then 0 else 1) < 30)) = true := by rfl)
    (hline : (apos.endLine == cpos.line) = true := by rfl) (hst : starEach [b] X.env = (false, eval b X.env) :: starEach [] X.env := by rfl) (hpl : (backTo cpos (starEach [] X.env)).any (·.1) = false := by rfl) :
    PE X (.Call (.Attribute a "count" apos) [b] [] cpos) (tV X.w X.K e O fun ρ => fa ρ >>= fun x => itL x >>= fun _ => fb ρ >>= fun y => countLD x y) := by
  refine pe_imp (pe_bm PySem.F.plainAttrs_list PySem.F.slot_list_count PySem.F.type_list_count (mt_countD hu) ho (pa_cons hb pa_nil hst) hbase hfew hline hst hpl) fun σ H Q ⟨B, ρ, G, r, q⟩ => ⟨B, ρ, G, r, gd_mono (gd_bind.mp q) fun d q v G1 H1 g1 t1 => ?_⟩
  cases t1 with
  | lst s1 a1 =>
    rename_i A xs ds
    refine ⟨.inl ⟨rfl, xs, Rd.sq (Rd.sub g1.sub s1)⟩, B, ρ, G1, r.grow g1, gd_mono (gd_bind.mp q) fun d2 q u G2 H2 g2 t2 => ?_⟩
    have q : gd (if SeqAt.shaped (.list ds) = true ∧ SeqAt.shaped d2 = true then .ok (.int (ds.countP fun z => PyData.eqv z d2 : Nat)) else stk) (fun d => ∀ v G' H', Gr G H G' H' → Dt X.w X.K G' v d → Q v H') e := q
    split at q
    · rename_i hc
      have tl : Dt X.w X.K G2 (.ref A) (.list ds) := .lst (Rd.sub (g2.up g1.sub) s1) (a1.sub (g2.up g1.sub))
      exact ⟨A, u, d2, ds, rfl, rfl, tl.dp g2.sub (shaped_lay hc.1), t2.dp g2.sub (shaped_lay hc.2), hc.1, hc.2, q _ G2 H2 (g1.trans g2) (.int _)⟩
    · exact q.elim
  | non => exact q.elim
  | bl _ => exact q.elim
  | int _ => exact q.elim
  | str _ => exact q.elim
  | tup _ _ => exact q.elim
  | dct _ _ _ _ _ _ => exact q.elim
  | scr _ _ => exact q.elim
end
end Vs

set_option Elab.async false
set_option linter.all false
set_option maxRecDepth 100000
/-! [.. for x in xs], xs a list of one's own that stays one's own. -/
namespace Vs
open PySem PySem.Spec PyProof.Rows L2
/-- J walks the data ds from where things stand as in G0, H0 -/
structure WkH (w : World) (K : PySem.W.Frag) (J : It) (G0 H0 : Hp) (ds : List D) : Prop where
  go : ∀ (i : Nat) (G H : Hp), Gr G0 H0 G H → i < ds.length → J.go i H
  stop : ∀ (G H : Hp), Gr G0 H0 G H → J.stop ds.length H
  yld : ∀ (i : Nat) (d : D) (G H : Hp) (x : V) (H' : Hp), Gr G0 H0 G H → ds[i]? = some d → J.yld i H x H' → ∃ G', Gr G H G' H' ∧ Dt w K G' x d
def iH (w : World) (K : PySem.W.Frag) (e : Nat → D → Prop) (O : List Nat) (f : Env' → R (List D)) : TI := fun σ H Q => ∃ B ρ G, Rp w K B O ρ σ G H ∧
  gd (f ρ) (fun ds => ∀ J G' H', Gr G H G' H' → WkH w K J G' H' ds → Q J H') e
theorem wk_own {w : World} {K : PySem.W.Frag} {G H : Hp} {a : Addr} {xs : List V} {ds : List D} (s : Sub G H) (h : H a = some (.lst xs)) (t : DtAll w K G xs ds) : WkH w K (Itl K a) G H ds where
  go := fun i G' H' g hi => ⟨xs, xs[i]'(by rw [t.length]; exact hi), .inl (.inl (g.keep a _ h)), List.getElem?_eq_getElem _⟩
  stop := fun G' H' g => ⟨xs, .inl (.inl (g.keep a _ h)), by rw [t.length]; exact Nat.le_refl _⟩
  yld := fun i d G' H' x H2 g hd y => by
    obtain ⟨rfl, y⟩ := y
    obtain ⟨d', e2, t2⟩ := t.get (y xs (.inl (.inl (g.keep a _ h))))
    rw [hd] at e2; cases e2
    exact ⟨G', Gr.refl g.sub, t2.sub (g.up s)⟩
section
variable {X : Cx} {elt tgt iter : Expr} {ifs : List Expr} {scope : Scope} {pos p : Pos} {e : Nat → D → Prop} {O vs ws : List Nat} {fi : Env' → R (List D)} {tg : D → Env' → R Env'} {ft : Env' → R Bool} {fe : Env' → R D}
theorem i_own (i : Nat) {x : Str} (hi : i ∈ O := by decide) (hN : X.N[i]? = some x := by rfl) (hv : Vis X.env.scope x := by first | exact Or.inl rfl | exact Or.inr (Or.inl rfl) | exact Or.inr (Or.inr rfl)) (hd : (x == ("__debug__" : Str)) = false := by decide)
    (hc : (x == ("__classdict__" : Str)) = false := by decide) : PI X tgt (.Name x p) (iH X.w X.K e O fun ρ => gl ρ i) := by
  refine pi_imp (pi_list (pv i hN hv hd hc)) fun σ H Q ⟨B, ρ, G, r, q⟩ => ?_
  obtain ⟨ds, e0, q⟩ := gl_in q
  obtain ⟨A, s0, o, n1, n2⟩ := r.own i _ e0 hi
  rcases o with ⟨us, ds', ed, hA, tA⟩ | ⟨_, _, _, _, ed, _⟩
  · cases ed
    exact ⟨.ref A, s0, A, rfl, ⟨us, .inl (.inl hA)⟩, q _ G H r.here (wk_own r.sub hA tA)⟩
  · cases ed
theorem lc_inH {w : World} {K : PySem.W.Frag} {σ : L2.St} {H : Hp} {Q : VK} {ws : List Nat} (hv : ∀ j ∈ ws, j ∈ vs)
    (h : tO w K e O (compD vs fi tg ft fe) σ H Q) : tLc (iH w K e O fi) (gT w K noE O ws tg) (tW w K noE O ft) (tV w K noE O fe) vs σ H Q := by
  obtain ⟨B, ρ, G, r, q⟩ := h
  refine ⟨B, ρ, G, r, gd_mono (gd_bind.mp q) fun ds q J G1 H1 g1 wk A nA => ?_⟩
  obtain ⟨hlen, q⟩ := lenOk_in (gd_bind.mp q)
  obtain ⟨ys, eys, q⟩ := noX_in (gd_bind.mp q)
  have r1 := r.grow g1
  have nA0 : H A = none := by
    cases z : H A with
    | none => rfl
    | some o => rw [g1.keep A o z] at nA; cases nA
  have nG1 : G1 A = none := by
    cases z : G1 A with
    | none => rfl
    | some o => rw [g1.sub A o z] at nA; cases nA
  have gA := Gr.own (o := .lst []) g1.sub nA
  have nB : B.H A = none := by
    cases z : B.H A with
    | none => rfl
    | some o => rw [r.gr.keep A o z] at nA0; cases nA0
  have ap : ∀ (i : Nat) (d : D), i ∈ O → (wipeD ρ vs)[i]? = some (some d) → (wipe σ vs)[i]? ≠ some (some (.ref A)) := fun i d hi e z => by
    obtain ⟨b, q1, q2, _⟩ := (r1.wipe vs).own i d e hi
    rw [z] at q1; cases q1
    obtain ⟨u, hu⟩ := q2.there
    rw [hu] at nA; cases nA
  refine ⟨fun i m H' => m = ds.length - i ∧ i ≤ ds.length ∧ ∃ G' acc dacc rest, Rp w K B O (wipeD ρ vs) (wipe σ vs) G' H' ∧ Gr G1 H1 G' H' ∧ G' A = none ∧ H' A = some (.lst acc) ∧ DtAll w K G' acc dacc ∧ lcD tg ft fe (wipeD ρ vs) (ds.drop i) = .ok rest ∧ dacc ++ rest = ys ∧ dacc.length ≤ i, ⟨ds.length, rfl, Nat.zero_le _, G1, [], [], ys, (r1.grow gA).wipe vs, gA, nG1, upd_same, .nil, eys, rfl, Nat.le_refl _⟩, fun i m H' hW => ?_⟩
  obtain ⟨rfl, hi, G', acc, dacc, rest, r', g', nG, hA, tA, eR, eY, hdl⟩ := hW
  by_cases hl : i < ds.length
  · refine .inr ⟨wk.go i G' H' g' hl, fun H2 => ∃ G2 acc dacc rest, Rp w K B O (wipeD ρ vs) (wipe σ vs) G2 H2 ∧ Gr G1 H1 G2 H2 ∧ G2 A = none ∧ H2 A = some (.lst acc) ∧ DtAll w K G2 acc dacc ∧ lcD tg ft fe (wipeD ρ vs) (ds.drop (i + 1)) = .ok rest ∧ dacc ++ rest = ys ∧ dacc.length ≤ i + 1, fun H2 h2 => ⟨ds.length - (i + 1), by omega, rfl, hl, h2⟩, fun x H2 y => ?_⟩
    obtain ⟨G2, g2, t2⟩ := wk.yld i ds[i] G' H' x H2 g' (List.getElem?_eq_getElem hl) y
    rw [List.drop_eq_getElem_cons hl] at eR
    obtain ⟨ρ1, e1, eR⟩ := bind_ok (show (tg ds[i] (wipeD ρ vs) >>= fun ρ1 => ft ρ1 >>= fun b => if b then fe ρ1 >>= fun y => lcD tg ft fe (wipeD ρ vs) (ds.drop (i + 1)) >>= fun ys => .ok (y :: ys) else lcD tg ft fe (wipeD ρ vs) (ds.drop (i + 1))) = .ok rest from eR)
    obtain ⟨b, e2, eR⟩ := bind_ok eR
    have neA : H' A ≠ none := by rw [hA]; exact fun z => nomatch z
    refine ⟨B, wipeD ρ vs, G2, ds[i], r'.grow g2, t2, gd_of e1 fun σ2 k2 r2 => ⟨?_, B, ρ1, G2, r2, gd_of e2 fun G3 H3 g3 => ?_⟩⟩
    · have := wipe_same (vs := vs) k2.len k2.off hv
      rw [this, wipe_wipe]
    · have g23 := g2.trans g3
      cases b with
      | false =>
        refine iteF ⟨G3, acc, dacc, rest, r'.grow g23, g'.trans g23, (g23.fix A neA).trans nG, g23.keep A _ hA, tA.sub (g23.up g'.sub), eR, eY, by omega⟩
      | true =>
        obtain ⟨y1, e3, eR⟩ := bind_ok (show (fe ρ1 >>= fun y => lcD tg ft fe (wipeD ρ vs) (ds.drop (i + 1)) >>= fun ys => .ok (y :: ys)) = .ok rest from eR)
        obtain ⟨zs, e4, eR⟩ := bind_ok eR
        cases eR
        refine iteT ⟨B, ρ1, G3, r2.grow g3, gd_of e3 fun u G4 H4 g4 t4 => ?_⟩
        have g24 := g23.trans g4
        have hA4 := g24.keep A _ hA
        have nG4 : G4 A = none := (g24.fix A neA).trans nG
        refine ⟨acc, hA4, by rw [tA.length]; omega, G4, acc ++ [u], dacc ++ [y1], zs, ?_, ?_, nG4, upd_same, (tA.sub (g24.up g'.sub)).append (.one t4), e4, by rw [List.append_assoc]; exact eY, by rw [List.length_append, List.length_singleton]; omega⟩
        · exact (r'.grow g24).out nG4 nB ap
        · exact (g'.trans g24).wr nA nG4
  · have ei : i = ds.length := by omega
    subst ei
    rw [List.drop_length] at eR
    cases eR
    rw [List.append_nil] at eY
    subst eY
    exact .inl ⟨wk.stop G' H' g', q A G' H' (g1.trans g') nA0 nG (.inl ⟨acc, dacc, rfl, hA, tA⟩)⟩
theorem o_lcH (own : List (Str × Nat)) (hc : X.calm = true) (hN : X.N.Nodup) (hi : PI X tgt iter (iH X.w X.K e O fi)) (ok : BlkOk X.N X.env.scope scope own) (hg : Blk X scope fun Y => PG Y tgt (gT Y.w Y.K noE O ws tg)) (ht : Blk X scope fun Y => PTs Y ifs (tW Y.w Y.K noE O ft)) (he : Blk X scope fun Y => PE Y elt (tV Y.w Y.K noE O fe))
    (hv : ∀ j ∈ ws, j ∈ own.map (·.2) := by decide) (hs : ∀ x, foldedSetIterable iter X.env x = pure x := by intro _; rfl) : PE X (.ListComp elt [⟨tgt, iter, ifs, 0⟩] scope pos) (tO X.w X.K e O (compD (own.map (·.2)) fi tg ft fe)) :=
  pe_imp (pe_lc hc hN hi ok hg ht he hs) fun σ H Q h => lc_inH hv h
end
end Vs

set_option Elab.async false
set_option linter.all false
set_option maxRecDepth 100000
/-! The typed mirror: plain Lean functions over typed values, and the rules that carry them to the meanings. -/
namespace Vt
open PySem PySem.Spec PyProof.Rows L2 Vs

abbrev Ch := Fin 128
abbrev Tx := List Ch
class En (α : Type) where
  en : α → D
open En (en)
def eS (l : Tx) : D := .str (tx (l.map Fin.val))
structure T3 (α β γ : Type) where
  a : α
  b : β
  c : γ
deriving DecidableEq
structure T4 (α β γ δ : Type) where
  a : α
  b : β
  c : γ
  d : δ
deriving DecidableEq
structure Tu (α : Type) where
  l : List α
deriving DecidableEq
structure Dc (κ α : Type) where
  l : List (κ × α)
deriving DecidableEq
instance : En D := ⟨fun d => d⟩
instance : En Int := ⟨.int⟩
instance : En Bool := ⟨.bool⟩
instance : En Unit := ⟨fun _ => .none⟩
instance {α : Type} [En α] : En (List α) := ⟨fun l => .list (l.map en)⟩
instance : En Tx := ⟨eS⟩
instance {α β : Type} [En α] [En β] : En (α × β) := ⟨fun p => .tuple [en p.1, en p.2]⟩
instance {α β γ : Type} [En α] [En β] [En γ] : En (T3 α β γ) := ⟨fun p => .tuple [en p.a, en p.b, en p.c]⟩
instance {α β γ δ : Type} [En α] [En β] [En γ] [En δ] : En (T4 α β γ δ) := ⟨fun p => .tuple [en p.a, en p.b, en p.c, en p.d]⟩
instance {α : Type} [En α] : En (Tu α) := ⟨fun t => .tuple (t.l.map en)⟩
def eKv {κ α : Type} [En κ] [En α] (p : κ × α) : D × D := (en p.1, en p.2)
instance {κ α : Type} [En κ] [En α] : En (Dc κ α) := ⟨fun d => .dict (d.l.map eKv)⟩
instance {α : Type} [En α] : En (Option α) := ⟨fun o => match o with | none => .none | some a => en a⟩

/-! ### what is known of an encoding -/
theorem S_inj {a b : Tx} : tx (a.map Fin.val) = tx (b.map Fin.val) ↔ a = b := by
  rw [tx_inj]
  constructor
  · intro h
    exact List.map_inj_right (fun x y e => Fin.ext e) |>.mp h
  · intro h; rw [h]
/-- == on the data is = -/
class Eqv (α : Type) [En α] [DecidableEq α] : Prop where
  eqv : ∀ a b : α, PyData.eqv (en a) (en b) = decide (a = b)
  nn : ∀ a : α, en a ≠ .none
/-- data that can be laid, of this depth at most -/
class Sh (α : Type) [En α] where
  n : Nat
  lay : ∀ a : α, (en a).canLay0 = true
  dep : ∀ a : α, (en a).depth ≤ n
theorem ch_lt (c : Ch) : c.val < 0x110000 := Nat.lt_trans c.isLt (by decide)
theorem lay_S (l : Tx) : PyData.strOk (tx (l.map Fin.val)) = true := by
  unfold PyData.strOk
  rw [Array.all_eq_true']
  intro x hx
  have hx : x ∈ l.map Fin.val := by simpa [tx] using hx
  obtain ⟨c, _, rfl⟩ := List.mem_map.mp hx
  exact decide_eq_true (ch_lt c)
instance : Sh Int := ⟨0, fun _ => rfl, fun _ => Nat.le_refl _⟩
instance : Sh Bool := ⟨0, fun _ => rfl, fun _ => Nat.le_refl _⟩
instance : Sh Unit := ⟨0, fun _ => rfl, fun _ => Nat.le_refl _⟩
instance : Sh Tx := ⟨0, lay_S, fun _ => Nat.le_refl _⟩
theorem lay_all {α : Type} [En α] [Sh α] : ∀ l : List α, PyData.canLayAll0 (l.map en) = true
  | [] => rfl
  | a :: l => by
    show ((en a).canLay0 && PyData.canLayAll0 (l.map en)) = true
    rw [Sh.lay a, lay_all l]; rfl
theorem dep_all {α : Type} [En α] [s : Sh α] : ∀ l : List α, PyData.depthAll (l.map en) ≤ s.n
  | [] => Nat.zero_le _
  | a :: l => by
    show max (en a).depth (PyData.depthAll (l.map en)) ≤ _
    exact Nat.max_le.mpr ⟨Sh.dep a, dep_all l⟩
instance {α : Type} [En α] [s : Sh α] : Sh (List α) := ⟨s.n + 1, fun l => lay_all l, fun l => Nat.succ_le_succ (dep_all l)⟩
instance {α : Type} [En α] [s : Sh α] : Sh (Tu α) := ⟨s.n + 1, fun l => lay_all l.l, fun l => Nat.succ_le_succ (dep_all l.l)⟩
instance {α β : Type} [En α] [En β] [s : Sh α] [t : Sh β] : Sh (α × β) := ⟨max s.n t.n + 1, fun p => by
  show ((en p.1).canLay0 && ((en p.2).canLay0 && true)) = true
  rw [Sh.lay p.1, Sh.lay p.2]; rfl, fun p => by
  show max (en p.1).depth (max (en p.2).depth 0) + 1 ≤ _
  have h1 := Sh.dep p.1
  have h2 := Sh.dep p.2
  omega⟩
instance {α β γ : Type} [En α] [En β] [En γ] [s : Sh α] [t : Sh β] [u : Sh γ] : Sh (T3 α β γ) := ⟨max s.n (max t.n u.n) + 1, fun p => by
  show ((en p.a).canLay0 && ((en p.b).canLay0 && ((en p.c).canLay0 && true))) = true
  rw [Sh.lay p.a, Sh.lay p.b, Sh.lay p.c]; rfl, fun p => by
  show max (en p.a).depth (max (en p.b).depth (max (en p.c).depth 0)) + 1 ≤ _
  have h1 := Sh.dep p.a
  have h2 := Sh.dep p.b
  have h3 := Sh.dep p.c
  omega⟩
instance {α : Type} [En α] [s : Sh α] : Sh (Option α) := ⟨s.n, fun o => match o with | none => rfl | some a => Sh.lay a, fun o => match o with | none => Nat.zero_le _ | some a => Sh.dep a⟩
theorem shp {α : Type} [En α] [s : Sh α] (h : s.n ≤ 64) (a : α) : SeqAt.shaped (en a) = true := by
  unfold SeqAt.shaped
  rw [Sh.lay a, Bool.true_and]
  exact decide_eq_true (Nat.le_trans (Sh.dep a) h)
instance : Eqv Int := ⟨fun a b => by
  show (a == b) = _
  by_cases h : a = b <;> simp [h], fun _ h => nomatch h⟩
instance : Eqv Bool := ⟨fun a b => by
  show (a == b) = _
  cases a <;> cases b <;> rfl, fun _ h => nomatch h⟩
instance : Eqv Tx := ⟨fun a b => by
  show ((tx (a.map Fin.val)) == (tx (b.map Fin.val))) = _
  by_cases h : a = b
  · rw [h]; simp
  · rw [decide_eq_false h, beq_eq_false_iff_ne]; exact fun e => h (S_inj.mp e), fun _ h => nomatch h⟩
theorem eqv_all {α : Type} [En α] [DecidableEq α] [Eqv α] : ∀ l m : List α, PyData.eqvAll (l.map en) (m.map en) = decide (l = m)
  | [], [] => rfl
  | [], _ :: _ => rfl
  | _ :: _, [] => rfl
  | a :: l, b :: m => by
    show (PyData.eqv (en a) (en b) && PyData.eqvAll (l.map en) (m.map en)) = _
    rw [Eqv.eqv, eqv_all l m]
    by_cases h : a = b
    · by_cases h2 : l = m <;> simp [h, h2]
    · simp [h]
instance {α : Type} [En α] [DecidableEq α] [Eqv α] : Eqv (List α) := ⟨fun l m => eqv_all l m, fun _ h => nomatch h⟩
instance {α : Type} [En α] [DecidableEq α] [Eqv α] : Eqv (Tu α) := ⟨fun l m => by
  obtain ⟨l⟩ := l
  obtain ⟨m⟩ := m
  show PyData.eqvAll (l.map en) (m.map en) = _
  rw [eqv_all l m]
  exact decide_eq_decide.mpr ⟨fun h => by rw [h], fun h => by injection h⟩, fun _ h => nomatch h⟩
instance {α β : Type} [En α] [En β] [DecidableEq α] [DecidableEq β] [Eqv α] [Eqv β] : Eqv (α × β) := ⟨fun p q => by
  show (PyData.eqv (en p.1) (en q.1) && (PyData.eqv (en p.2) (en q.2) && true)) = _
  rw [Eqv.eqv, Eqv.eqv, Bool.and_true]
  obtain ⟨a, b⟩ := p
  obtain ⟨c, d⟩ := q
  by_cases h : a = c <;> by_cases h2 : b = d <;> simp [h, h2], fun _ h => nomatch h⟩
instance {α β γ : Type} [En α] [En β] [En γ] [DecidableEq α] [DecidableEq β] [DecidableEq γ] [Eqv α] [Eqv β] [Eqv γ] : Eqv (T3 α β γ) := ⟨fun p q => by
  show (PyData.eqv (en p.a) (en q.a) && (PyData.eqv (en p.b) (en q.b) && (PyData.eqv (en p.c) (en q.c) && true))) = _
  rw [Eqv.eqv, Eqv.eqv, Eqv.eqv, Bool.and_true]
  obtain ⟨a, b, c⟩ := p
  obtain ⟨d, e, f⟩ := q
  by_cases h : a = d <;> by_cases h2 : b = e <;> by_cases h3 : c = f <;> simp [h, h2, h3], fun _ h => nomatch h⟩
theorem eqv_non {d : D} (h : d ≠ .none) : PyData.eqv .none d = false ∧ PyData.eqv d .none = false := by
  cases d with
  | none => exact absurd rfl h
  | _ => exact ⟨rfl, rfl⟩
/-- == with None among the data -/
class EqvO (α : Type) [En α] [DecidableEq α] : Prop where
  eqv : ∀ a b : α, PyData.eqv (en a) (en b) = decide (a = b)
instance {α : Type} [En α] [DecidableEq α] [Eqv α] : EqvO α := ⟨Eqv.eqv⟩
instance {α : Type} [En α] [DecidableEq α] [Eqv α] : EqvO (Option α) := ⟨fun p q => by
  cases p with
  | none =>
    cases q with
    | none => rfl
    | some b => exact (eqv_non (Eqv.nn b)).1.trans (by simp)
  | some a =>
    cases q with
    | none => exact (eqv_non (Eqv.nn a)).2.trans (by simp)
    | some b => exact (Eqv.eqv a b).trans (by simp)⟩
theorem eqvO_all {α : Type} [En α] [DecidableEq α] [EqvO α] : ∀ l m : List α, PyData.eqvAll (l.map en) (m.map en) = decide (l = m)
  | [], [] => rfl
  | [], _ :: _ => rfl
  | _ :: _, [] => rfl
  | a :: l, b :: m => by
    show (PyData.eqv (en a) (en b) && PyData.eqvAll (l.map en) (m.map en)) = _
    rw [EqvO.eqv, eqvO_all l m]
    by_cases h : a = b
    · by_cases h2 : l = m <;> simp [h, h2]
    · simp [h]
instance {α : Type} [En α] [DecidableEq α] [EqvO α] : EqvO (List α) := ⟨fun l m => eqvO_all l m⟩
instance {α β : Type} [En α] [En β] [DecidableEq α] [DecidableEq β] [EqvO α] [EqvO β] : EqvO (α × β) := ⟨fun p q => by
  show (PyData.eqv (en p.1) (en q.1) && (PyData.eqv (en p.2) (en q.2) && true)) = _
  rw [EqvO.eqv, EqvO.eqv, Bool.and_true]
  obtain ⟨a, b⟩ := p
  obtain ⟨c, d⟩ := q
  by_cases h : a = c <;> by_cases h2 : b = d <;> simp [h, h2]⟩
/-- data that are told apart by < -/
class Alk (α : Type) [En α] : Prop where
  alk : ∀ a b : α, PySem.W.alike (en a) (en b) = true
  nn : ∀ a : α, en a ≠ .none
instance : Alk Int := ⟨fun _ _ => rfl, fun _ h => nomatch h⟩
instance : Alk Tx := ⟨fun _ _ => rfl, fun _ h => nomatch h⟩
theorem alk_all {α : Type} [En α] [Alk α] : ∀ l m : List α, PySem.W.alikeAll (l.map en) (m.map en) = true
  | [], [] => rfl
  | [], _ :: _ => rfl
  | _ :: _, [] => rfl
  | a :: l, b :: m => by
    show (PySem.W.alike (en a) (en b) && PySem.W.alikeAll (l.map en) (m.map en)) = true
    rw [Alk.alk, alk_all l m]; rfl
instance {α : Type} [En α] [Alk α] : Alk (List α) := ⟨fun l m => alk_all l m, fun _ h => nomatch h⟩
instance {α : Type} [En α] [Alk α] : Alk (Tu α) := ⟨fun l m => alk_all l.l m.l, fun _ h => nomatch h⟩
instance {α β : Type} [En α] [En β] [Alk α] [Alk β] : Alk (α × β) := ⟨fun p q => by
  show (PySem.W.alike (en p.1) (en q.1) && (PySem.W.alike (en p.2) (en q.2) && true)) = true
  rw [Alk.alk, Alk.alk]; rfl, fun _ h => nomatch h⟩
instance {α β γ : Type} [En α] [En β] [En γ] [Alk α] [Alk β] [Alk γ] : Alk (T3 α β γ) := ⟨fun p q => by
  show (PySem.W.alike (en p.a) (en q.a) && (PySem.W.alike (en p.b) (en q.b) && (PySem.W.alike (en p.c) (en q.c) && true))) = true
  rw [Alk.alk, Alk.alk, Alk.alk]; rfl, fun _ h => nomatch h⟩
/-- keys: whole numbers and texts -/
class KyA (κ : Type) [En κ] [DecidableEq κ] : Prop where
  eqv : ∀ a b : κ, PyData.eqv (en a) (en b) = decide (a = b)
  kind : ∀ a : κ, (atomK (en a)).isSome = true
instance : KyA Int := ⟨Eqv.eqv, fun _ => rfl⟩
instance : KyA Tx := ⟨Eqv.eqv, fun _ => rfl⟩
/-- keys: tuples of such -/
class Nk (κ : Type) [En κ] where
  n : Nat
  nk : ∀ a : κ, ∃ k, nk (en a) = some k ∧ k.depth ≤ n
instance : Nk Int := ⟨0, fun i => ⟨_, rfl, Nat.le_refl _⟩⟩
instance : Nk Tx := ⟨0, fun i => ⟨_, rfl, Nat.le_refl _⟩⟩
theorem nk_allT {α : Type} [En α] [s : Nk α] : ∀ l : List α, ∃ ks, nkAll (l.map en) = some ks ∧ NestedKey.depthAll ks ≤ s.n
  | [] => ⟨[], rfl, Nat.zero_le _⟩
  | a :: l => by
    obtain ⟨k, h1, h2⟩ := Nk.nk a
    obtain ⟨ks, h3, h4⟩ := nk_allT l
    refine ⟨k :: ks, ?_, Nat.max_le.mpr ⟨h2, h4⟩⟩
    show (match nk (en a), nkAll (l.map en) with | some k, some ks => some (k :: ks) | _, _ => none) = _
    rw [h1, h3]
instance {α : Type} [En α] [s : Nk α] : Nk (Tu α) := ⟨s.n + 1, fun l => by
  obtain ⟨ks, h1, h2⟩ := nk_allT l.l
  refine ⟨.tup ks, ?_, Nat.succ_le_succ h2⟩
  show (nkAll (l.l.map en)).map _ = _
  rw [h1]; rfl⟩
instance {α β : Type} [En α] [En β] [s : Nk α] [t : Nk β] : Nk (α × β) := ⟨max s.n t.n + 1, fun p => by
  obtain ⟨k, h1, h2⟩ := Nk.nk p.1
  obtain ⟨j, h3, h4⟩ := Nk.nk p.2
  refine ⟨.tup [k, j], ?_, ?_⟩
  · show (nkAll [en p.1, en p.2]).map _ = _
    unfold nkAll
    unfold nkAll
    unfold nkAll
    rw [h1, h3]; rfl
  · show max k.depth (max j.depth 0) + 1 ≤ _
    omega⟩
instance {α β γ : Type} [En α] [En β] [En γ] [s : Nk α] [t : Nk β] [u : Nk γ] : Nk (T3 α β γ) := ⟨max s.n (max t.n u.n) + 1, fun p => by
  obtain ⟨k, h1, h2⟩ := Nk.nk p.a
  obtain ⟨j, h3, h4⟩ := Nk.nk p.b
  obtain ⟨i, h5, h6⟩ := Nk.nk p.c
  refine ⟨.tup [k, j, i], ?_, ?_⟩
  · show (nkAll [en p.a, en p.b, en p.c]).map _ = _
    unfold nkAll
    unfold nkAll
    unfold nkAll
    unfold nkAll
    rw [h1, h3, h5]; rfl
  · show max k.depth (max j.depth (max i.depth 0)) + 1 ≤ _
    omega⟩
structure Kyk (κ : Type) [En κ] [DecidableEq κ] : Prop where
  eqv : ∀ a b : κ, PyData.eqv (en a) (en b) = decide (a = b)
  kind : (∀ a : κ, (atomK (en a)).isSome = true) ∨ ∀ a : κ, (tk (en a)).isSome = true
theorem tk_some {d : D} {ds : List D} {ks : List NestedKey} (e : d = .tuple ds) (h : nkAll ds = some ks) (hd : NestedKey.depthAll ks ≤ 7) : (tk d).isSome = true := by
  subst e
  unfold tk
  simp only [h, if_pos hd]
  rfl
theorem tk_of_nk {κ : Type} [En κ] [s : Nk κ] (h : s.n ≤ 8) (a : κ) {ds : List D} (e : en a = .tuple ds) : (tk (en a)).isSome = true := by
  obtain ⟨k, h1, h2⟩ := Nk.nk a
  rw [e] at h1
  unfold nk at h1
  obtain ⟨ks, h3, rfl⟩ := Option.map_eq_some_iff.mp h1
  refine tk_some e h3 ?_
  have h2 : NestedKey.depthAll ks + 1 ≤ s.n := h2
  omega
theorem kyA {κ : Type} [En κ] [DecidableEq κ] [KyA κ] : Kyk κ := ⟨KyA.eqv, .inl KyA.kind⟩
theorem kyT {κ : Type} [En κ] [DecidableEq κ] [Eqv κ] [s : Nk κ] (h : s.n ≤ 8) (ht : ∀ a : κ, ∃ ds, en a = .tuple ds) : Kyk κ := ⟨Eqv.eqv, .inr fun a => let ⟨_, e⟩ := ht a; tk_of_nk h a e⟩
end Vt

set_option Elab.async false
set_option linter.all false
set_option maxRecDepth 100000
/-! The typed mirror: expressions. -/
namespace Vt
open PySem PySem.Spec PyProof.Rows L2 Vs
open En (en)
section
variable {α β γ δ κ : Type} [En α] [En β] [En γ] [En δ] [En κ]
/-- where the plain answer is v, the meaning's is v's datum -/
def Ev (r : R D) (p : R α) : Prop := ∀ v, p = .ok v → r = .ok (en v)
theorem so {r : R D} {a : α} (h : r = .ok (en a)) : r = .ok (en (some a)) := h
theorem noN {r : R D} (h : r = .ok .none) : r = .ok (en (none : Option α)) := h
theorem ev_ok {r : R D} {v : α} (h : r = .ok (en v)) : Ev r (.ok v) := fun u e => by cases e; exact h
theorem ev_bind {r : R D} {m : R γ} {p : γ → R α} (h : ∀ x, m = .ok x → Ev r (p x)) : Ev r (m >>= p) := fun v e => by
  obtain ⟨x, h1, h2⟩ := bind_ok e
  exact h x h1 v h2
theorem at_ok {r : R D} {t x : α} (e : (.ok t : R α) = .ok x) (h : r = .ok (en t)) : r = .ok (en x) := by cases e; exact h
theorem atv {r : R D} {p : R α} {v : α} (h : p = .ok v) (e : Ev r p) : r = .ok (en v) := e v h
/-- tests -/
def Et (r p : R Bool) : Prop := ∀ v, p = .ok v → r = .ok v
theorem et_ok {r : R Bool} {v : Bool} (h : r = .ok v) : Et r (.ok v) := fun u e => by cases e; exact h
theorem et_bind {r : R Bool} {m : R γ} {p : γ → R Bool} (h : ∀ x, m = .ok x → Et r (p x)) : Et r (m >>= p) := fun v e => by
  obtain ⟨x, h1, h2⟩ := bind_ok e
  exact h x h1 v h2
theorem att {r p : R Bool} {v : Bool} (h : p = .ok v) (e : Et r p) : r = .ok v := e v h
variable {A B C : R D} {T U : R Bool}
theorem t_val {b : Bool} (h : A = .ok (en b)) : (A >>= asB) = .ok b := by subst h; rfl
theorem t_and {a b : Bool} (h : T = .ok a) (h2 : U = .ok b) : (T >>= fun c => if c then U else .ok false) = .ok (a && b) := by subst h h2; cases a <;> rfl
theorem t_or {a b : Bool} (h : T = .ok a) (h2 : U = .ok b) : (T >>= fun c => if c then .ok true else U) = .ok (a || b) := by subst h h2; cases a <;> rfl
theorem t_not {a : Bool} (h : T = .ok a) : (T >>= fun c => .ok (!c)) = .ok (!a) := by subst h; rfl
theorem et_and {a : Bool} {p : R Bool} (h : T = .ok a) (h2 : Et U p) : Et (T >>= fun c => if c then U else .ok false) (if a then p else .ok false) := by
  subst h
  cases a
  · exact et_ok rfl
  · exact h2
theorem et_or {a : Bool} {p : R Bool} (h : T = .ok a) (h2 : Et U p) : Et (T >>= fun c => if c then .ok true else U) (if a then .ok true else p) := by
  subst h
  cases a
  · exact h2
  · exact et_ok rfl
/-! values that are tests -/
theorem e_and {a b : Bool} (h : T = .ok a) (h2 : B = .ok (en b)) : (T >>= fun c => if c then B else .ok (.bool false)) = .ok (en (a && b)) := by subst h h2; cases a <;> rfl
theorem e_or {a b : Bool} (h : T = .ok a) (h2 : B = .ok (en b)) : (T >>= fun c => if c then .ok (.bool true) else B) = .ok (en (a || b)) := by subst h h2; cases a <;> rfl
theorem e_not {a : Bool} (h : T = .ok a) : (T >>= fun c => .ok (.bool (!c))) = .ok (en (!a)) := by subst h; rfl
theorem ev_and {a : Bool} {p : R Bool} (h : T = .ok a) (h2 : Ev B p) : Ev (T >>= fun c => if c then B else .ok (.bool false)) (if a then p else .ok false) := by
  subst h
  cases a
  · exact ev_ok rfl
  · exact h2
theorem ev_or {a : Bool} {p : R Bool} (h : T = .ok a) (h2 : Ev B p) : Ev (T >>= fun c => if c then .ok (.bool true) else B) (if a then .ok true else p) := by
  subst h
  cases a
  · exact h2
  · exact ev_ok rfl
theorem e_if {c : Bool} {a b : α} (h : T = .ok c) (h1 : A = .ok (en a)) (h2 : B = .ok (en b)) : (T >>= fun k => if k then A else B) = .ok (en (if c then a else b)) := by subst h h1 h2; cases c <;> rfl
theorem ev_if {c : Bool} {p q : R α} (h : T = .ok c) (h1 : Ev A p) (h2 : Ev B q) : Ev (T >>= fun k => if k then A else B) (if c then p else q) := by
  subst h
  cases c
  · exact h2
  · exact h1
/-! ### whole numbers -/
theorem e_add {a b : Int} (h : A = .ok (en a)) (h2 : B = .ok (en b)) : (A >>= fun x => B >>= fun y => addD x y) = .ok (en (a + b)) := by subst h h2; rfl
theorem e_sub {a b : Int} (h : A = .ok (en a)) (h2 : B = .ok (en b)) : (A >>= fun x => B >>= fun y => subI x y) = .ok (en (a - b)) := by subst h h2; rfl
theorem e_mulr {a b : Int} (h : A = .ok (en a)) (h2 : B = .ok (en b)) (hb : b.natAbs < 18446744073709551616) : (A >>= fun x => B >>= fun y => mulD x y) = .ok (en (a * b)) := by subst h h2; exact mul_r hb
theorem e_mull {a b : Int} (h : A = .ok (en a)) (h2 : B = .ok (en b)) (hb : a.natAbs < 18446744073709551616) : (A >>= fun x => B >>= fun y => mulD x y) = .ok (en (a * b)) := by subst h h2; exact mul_l hb
def mulG (a b : Int) : R Int := if a.natAbs < 18446744073709551616 ∨ b.natAbs < 18446744073709551616 then .ok (a * b) else stk
theorem v_mul {a b : Int} (h : A = .ok (en a)) (h2 : B = .ok (en b)) : Ev (A >>= fun x => B >>= fun y => mulD x y) (mulG a b) := fun v e => by
  unfold mulG at e
  split at e
  · rename_i hh
    cases e
    rcases hh with hh | hh
    · exact e_mull h h2 hh
    · exact e_mulr h h2 hh
  · cases e
theorem e_mod {a b : Int} (h : A = .ok (en a)) (h2 : B = .ok (en b)) (hb : 0 < b) : (A >>= fun x => B >>= fun y => modI x y) = .ok (en (a % b)) := by subst h h2; exact mod_i hb
theorem e_fdiv {a b : Int} (h : A = .ok (en a)) (h2 : B = .ok (en b)) (hb : 0 < b ∧ b < 1073741824) : (A >>= fun x => B >>= fun y => fdivI x y) = .ok (en (a / b)) := by subst h h2; exact fdiv_i hb
def modG (a b : Int) : R Int := if 0 < b then .ok (a % b) else stk
def fdivG (a b : Int) : R Int := if 0 < b ∧ b < 1073741824 then .ok (a / b) else stk
theorem v_mod {a b : Int} (h : A = .ok (en a)) (h2 : B = .ok (en b)) : Ev (A >>= fun x => B >>= fun y => modI x y) (modG a b) := fun v e => by
  unfold modG at e
  split at e
  · cases e; exact e_mod h h2 ‹_›
  · cases e
theorem v_fdiv {a b : Int} (h : A = .ok (en a)) (h2 : B = .ok (en b)) : Ev (A >>= fun x => B >>= fun y => fdivI x y) (fdivG a b) := fun v e => by
  unfold fdivG at e
  split at e
  · cases e; exact e_fdiv h h2 ‹_›
  · cases e
theorem e_neg {a : Int} (h : A = .ok (en a)) : (A >>= fun x => negD x) = .ok (en (-a)) := by subst h; rfl
theorem e_lt {a b : Int} (h : A = .ok (en a)) (h2 : B = .ok (en b)) : (A >>= fun x => B >>= fun y => ltD x y) = .ok (en (decide (a < b))) := by subst h h2; rfl
theorem e_le {a b : Int} (h : A = .ok (en a)) (h2 : B = .ok (en b)) : (A >>= fun x => B >>= fun y => leD x y) = .ok (en (decide (a ≤ b))) := by subst h h2; rfl
theorem e_gt {a b : Int} (h : A = .ok (en a)) (h2 : B = .ok (en b)) : (A >>= fun x => B >>= fun y => gtD x y) = .ok (en (decide (b < a))) := by subst h h2; rfl
theorem e_ge {a b : Int} (h : A = .ok (en a)) (h2 : B = .ok (en b)) : (A >>= fun x => B >>= fun y => geD x y) = .ok (en (decide (b ≤ a))) := by subst h h2; rfl
theorem e_ch {p q : Int → Int → Bool} {fa fb fc : Env' → R D} {ρ : Env'} {a b c : Int} (h : fa ρ = .ok (en a)) (h2 : fb ρ = .ok (en b)) (h3 : fc ρ = .ok (en c)) : chD p q fa fb fc ρ = .ok (en (p a b && q b c)) := by
  show (fa ρ >>= fun x => fb ρ >>= fun y => asI x >>= fun i => asI y >>= fun j => if p i j then fc ρ >>= fun z => asI z >>= fun k => .ok (.bool (q j k)) else .ok (.bool false) : R D) = _
  rw [h, h2, h3]
  show (if p a b = true then (.ok (.bool (q b c)) : R D) else .ok (.bool false)) = .ok (.bool (p a b && q b c))
  cases p a b <;> rfl
theorem ev_ch {p q : Int → Int → Bool} {fa fb fc : Env' → R D} {ρ : Env'} {a b : Int} {r : R Bool} (h : fa ρ = .ok (en a)) (h2 : fb ρ = .ok (en b)) {m : R Int} (hr : r = if p a b then m >>= fun c => .ok (q b c) else .ok false) (h3 : Ev (fc ρ) m) : Ev (chD p q fa fb fc ρ) r := fun v e => by
  subst hr
  show (fa ρ >>= fun x => fb ρ >>= fun y => asI x >>= fun i => asI y >>= fun j => if p i j then fc ρ >>= fun z => asI z >>= fun k => .ok (.bool (q j k)) else .ok (.bool false) : R D) = _
  rw [h, h2]
  show (if p a b = true then (fc ρ >>= fun z => asI z >>= fun k => .ok (.bool (q b k))) else .ok (.bool false) : R D) = _
  cases hp : p a b
  · rw [hp] at e
    cases e
    rfl
  · rw [hp] at e
    obtain ⟨c, h4, h5⟩ := bind_ok (show (m >>= fun c => .ok (q b c)) = .ok v from e)
    cases h5
    rw [if_pos rfl, h3 c h4]
    rfl
/-! ### =, is, in -/
theorem e_eqS {a b : Tx} (h : A = .ok (en a)) (h2 : B = .ok (en b)) : (A >>= fun x => B >>= fun y => eqD x y) = .ok (en (decide (a = b))) := by
  subst h h2
  show (.ok (.bool (decide (tx (a.map Fin.val) = tx (b.map Fin.val)))) : R D) = .ok (.bool _)
  rw [decide_eq_decide.mpr S_inj]
theorem e_neS {a b : Tx} (h : A = .ok (en a)) (h2 : B = .ok (en b)) : (A >>= fun x => B >>= fun y => neD x y) = .ok (en (!decide (a = b))) := by
  subst h h2
  show (.ok (.bool (!decide (tx (a.map Fin.val) = tx (b.map Fin.val)))) : R D) = .ok (.bool _)
  rw [decide_eq_decide.mpr S_inj]
theorem eqD_of {a b : D} (h : SeqAt.shaped a = true) (h2 : SeqAt.shaped b = true) (hs : ∀ x, a ≠ .str x) : eqD a b = .ok (.bool (PyData.eqv a b)) := by
  unfold eqD
  split
  · exact absurd rfl (hs _)
  · rw [if_pos ⟨h, h2⟩]
theorem neD_of {a b : D} (h : SeqAt.shaped a = true) (h2 : SeqAt.shaped b = true) (hs : ∀ x, a ≠ .str x) : neD a b = .ok (.bool (!PyData.eqv a b)) := by
  unfold neD
  split
  · exact absurd rfl (hs _)
  · rw [if_pos ⟨h, h2⟩]
theorem eqv_ss (x y : Str) : PyData.eqv (.str x) (.str y) = decide (x = y) := by
  show (x == y) = _
  by_cases h : x = y <;> simp [h]
theorem eqD_any {a b : D} (h : SeqAt.shaped a = true) (h2 : SeqAt.shaped b = true) : eqD a b = .ok (.bool (PyData.eqv a b)) := by
  unfold eqD
  split
  · rw [eqv_ss]
  · rw [if_pos ⟨h, h2⟩]
theorem neD_any {a b : D} (h : SeqAt.shaped a = true) (h2 : SeqAt.shaped b = true) : neD a b = .ok (.bool (!PyData.eqv a b)) := by
  unfold neD
  split
  · rw [eqv_ss]
  · rw [if_pos ⟨h, h2⟩]
theorem e_eq [DecidableEq α] [EqvO α] [s : Sh α] {a b : α} (h : A = .ok (en a)) (h2 : B = .ok (en b)) (hs : s.n ≤ 64 := by decide) : (A >>= fun x => B >>= fun y => eqD x y) = .ok (en (decide (a = b))) := by
  subst h h2
  show eqD (en a) (en b) = _
  rw [eqD_any (shp hs a) (shp hs b), EqvO.eqv]; rfl
theorem e_ne [DecidableEq α] [EqvO α] [s : Sh α] {a b : α} (h : A = .ok (en a)) (h2 : B = .ok (en b)) (hs : s.n ≤ 64 := by decide) : (A >>= fun x => B >>= fun y => neD x y) = .ok (en (!decide (a = b))) := by
  subst h h2
  show neD (en a) (en b) = _
  rw [neD_any (shp hs a) (shp hs b), EqvO.eqv]; rfl
class Nn (α : Type) [En α] : Prop where
  nn : ∀ a : α, en a ≠ .none
instance : Nn Int := ⟨fun _ h => nomatch h⟩
instance : Nn Bool := ⟨fun _ h => nomatch h⟩
instance : Nn Tx := ⟨fun _ h => nomatch h⟩
instance : Nn (List α) := ⟨fun _ h => nomatch h⟩
instance : Nn (Tu α) := ⟨fun _ h => nomatch h⟩
instance : Nn (α × β) := ⟨fun _ h => nomatch h⟩
instance : Nn (T3 α β γ) := ⟨fun _ h => nomatch h⟩
instance : Nn (Dc κ α) := ⟨fun _ h => nomatch h⟩
theorem isN_of {d : D} (h : d ≠ .none) : isN d .none = .ok (.bool false) ∧ notN d .none = .ok (.bool true) := by
  cases d with
  | none => exact absurd rfl h
  | _ => exact ⟨rfl, rfl⟩
theorem e_is [Nn α] {a : Option α} (h : A = .ok (en a)) : (A >>= fun x => .ok .none >>= fun y => isN x y) = .ok (en a.isNone) := by
  subst h
  cases a with
  | none => rfl
  | some a => exact (isN_of (Nn.nn a)).1
theorem e_isn [Nn α] {a : Option α} (h : A = .ok (en a)) : (A >>= fun x => .ok .none >>= fun y => notN x y) = .ok (en a.isSome) := by
  subst h
  cases a with
  | none => rfl
  | some a => exact (isN_of (Nn.nn a)).2
theorem e_isT {a b : Bool} (h : A = .ok (en a)) : (A >>= fun x => .ok (.bool b) >>= fun y => isBD x y) = .ok (en (decide (a = b))) := by subst h; rfl
theorem e_isnT {a b : Bool} (h : A = .ok (en a)) : (A >>= fun x => .ok (.bool b) >>= fun y => notBD x y) = .ok (en (!decide (a = b))) := by subst h; rfl
/-- a text in a text -/
def inS (x y : Tx) : Bool := strIn (tx (x.map Fin.val)) (tx (y.map Fin.val))
theorem inS_one (c : Ch) (y : Tx) : inS [c] y = decide (c ∈ y) := by
  show decide (c.val ∈ y.map Fin.val) = _
  refine decide_eq_decide.mpr ⟨fun h => ?_, fun h => List.mem_map.mpr ⟨c, h, rfl⟩⟩
  obtain ⟨d, h1, h2⟩ := List.mem_map.mp h
  rw [← Fin.ext h2]; exact h1
theorem e_inS {a b : Tx} (h : A = .ok (en a)) (h2 : B = .ok (en b)) : (A >>= fun x => B >>= fun y => inD x y) = .ok (en (inS a b)) := by subst h h2; rfl
theorem e_ninS {a b : Tx} (h : A = .ok (en a)) (h2 : B = .ok (en b)) : (A >>= fun x => B >>= fun y => ninD x y) = .ok (en (!inS a b)) := by subst h h2; rfl
/-- a in l -/
def hasT {α : Type} [DecidableEq α] (l : List α) (a : α) : Bool := l.any fun z => decide (z = a)
theorem hasT_iff {α : Type} [DecidableEq α] {l : List α} {a : α} : hasT l a = true ↔ a ∈ l := by
  unfold hasT
  rw [List.any_eq_true]
  exact ⟨fun ⟨x, h1, h2⟩ => of_decide_eq_true h2 ▸ h1, fun h => ⟨a, h, decide_eq_true rfl⟩⟩
theorem hasT_not {α : Type} [DecidableEq α] {l : List α} {a : α} : hasT l a = false ↔ a ∉ l := by
  rw [← hasT_iff]; cases hasT l a <;> simp
theorem any_en [DecidableEq α] [EqvO α] (a : α) : ∀ l : List α, (l.map en).any (fun z => PyData.eqv z (en a)) = hasT l a
  | [] => rfl
  | b :: l => by
    rw [List.map_cons, List.any_cons, any_en a l, EqvO.eqv]; rfl
theorem inB_l [DecidableEq α] [EqvO α] [s : Sh α] (hs : s.n + 1 ≤ 64) (a : α) (l : List α) : inB (en a) (.list (l.map en)) = .ok (hasT l a) := by
  show (if SeqAt.shaped (en a) = true ∧ SeqAt.shaped (.list (l.map en)) = true then _ else stk) = _
  rw [if_pos ⟨shp (by omega) a, shp (α := List α) hs l⟩, any_en]
theorem inB_t [DecidableEq α] [EqvO α] [s : Sh α] (hs : s.n + 1 ≤ 64) (a : α) (l : List α) : inB (en a) (.tuple (l.map en)) = .ok (hasT l a) := by
  show (if SeqAt.shaped (en a) = true ∧ SeqAt.shaped (.tuple (l.map en)) = true then _ else stk) = _
  rw [if_pos ⟨shp (by omega) a, shp (α := Tu α) hs ⟨l⟩⟩, any_en]
theorem e_inL [DecidableEq α] [EqvO α] [s : Sh α] {a : α} {l : List α} (h : A = .ok (en a)) (h2 : B = .ok (.list (l.map en))) (hs : s.n + 1 ≤ 64 := by decide) : (A >>= fun x => B >>= fun y => inD x y) = .ok (en (hasT l a)) := by
  subst h h2
  show (inB (en a) (.list (l.map en)) >>= fun b => .ok (.bool b) : R D) = _
  rw [inB_l hs]; rfl
theorem e_ninL [DecidableEq α] [EqvO α] [s : Sh α] {a : α} {l : List α} (h : A = .ok (en a)) (h2 : B = .ok (.list (l.map en))) (hs : s.n + 1 ≤ 64 := by decide) : (A >>= fun x => B >>= fun y => ninD x y) = .ok (en (!hasT l a)) := by
  subst h h2
  show (inB (en a) (.list (l.map en)) >>= fun b => .ok (.bool (!b)) : R D) = _
  rw [inB_l hs]; rfl
theorem e_inT [DecidableEq α] [EqvO α] [s : Sh α] {a : α} {l : List α} (h : A = .ok (en a)) (h2 : B = .ok (.tuple (l.map en))) (hs : s.n + 1 ≤ 64 := by decide) : (A >>= fun x => B >>= fun y => inD x y) = .ok (en (hasT l a)) := by
  subst h h2
  show (inB (en a) (.tuple (l.map en)) >>= fun b => .ok (.bool b) : R D) = _
  rw [inB_t hs]; rfl
theorem e_ninT [DecidableEq α] [EqvO α] [s : Sh α] {a : α} {l : List α} (h : A = .ok (en a)) (h2 : B = .ok (.tuple (l.map en))) (hs : s.n + 1 ≤ 64 := by decide) : (A >>= fun x => B >>= fun y => ninD x y) = .ok (en (!hasT l a)) := by
  subst h h2
  show (inB (en a) (.tuple (l.map en)) >>= fun b => .ok (.bool (!b)) : R D) = _
  rw [inB_t hs]; rfl
/-! ### dicts -/
def dcF [DecidableEq κ] (d : Dc κ α) (k : κ) : Option α := (d.l.find? fun p => decide (p.1 = k)).map (·.2)
theorem dfind_en [DecidableEq κ] (hk : Kyk κ) (k : κ) : ∀ l : List (κ × α), dfind (l.map eKv) (en k) = ((l.find? fun p => decide (p.1 = k)).map (·.2)).map en
  | [] => rfl
  | p :: l => by
    have ih := dfind_en hk k l
    unfold dfind at ih ⊢
    rw [List.map_cons, List.find?_cons, List.find?_cons]
    have e : PyData.eqv (eKv p).1 (en k) = decide (p.1 = k) := hk.eqv p.1 k
    rw [e]
    cases decide (p.1 = k)
    · exact ih
    · rfl
theorem allAt_en [DecidableEq κ] (h : ∀ a : κ, (atomK (en a)).isSome = true) (l : List (κ × α)) : allAt (l.map eKv) = true := by
  unfold allAt
  rw [List.all_eq_true]
  intro x hx
  obtain ⟨p, _, rfl⟩ := List.mem_map.mp hx
  exact h p.1
theorem allTk_en [DecidableEq κ] (h : ∀ a : κ, (tk (en a)).isSome = true) (l : List (κ × α)) : allTk (l.map eKv) = true := by
  unfold allTk
  rw [List.all_eq_true]
  intro x hx
  obtain ⟨p, _, rfl⟩ := List.mem_map.mp hx
  exact h p.1
theorem putOk_en [DecidableEq κ] (hk : Kyk κ) (l : List (κ × α)) (k : κ) : putOk (l.map eKv) (en k) = true := by
  unfold putOk
  rcases hk.kind with h | h
  · rw [allAt_en h, h k]; rfl
  · rw [allTk_en h, h k]; simp
theorem dkOk_en [DecidableEq κ] (hk : Kyk κ) (l : List (κ × α)) : dkOk (l.map eKv) = true := by
  unfold dkOk
  rcases hk.kind with h | h
  · rw [allAt_en h]; rfl
  · rw [allTk_en h]; simp
theorem dgD_en [DecidableEq κ] (hk : Kyk κ) (d : Dc κ α) (k : κ) : dgD (d.l.map eKv) (en k) = .ok ((dcF d k).map en) := by
  unfold dgD
  rw [if_pos (putOk_en hk _ _), dfind_en hk]; rfl
theorem tk_tup {d : D} (h : (tk d).isSome = true) : ∃ ds, d = .tuple ds := by
  cases d with
  | tuple ds => exact ⟨ds, rfl⟩
  | _ => cases h
theorem inE_en [DecidableEq κ] (hk : Kyk κ) (d : Dc κ α) (k : κ) : inE (en k) (en d) = .ok (.bool (dcF d k).isSome) ∧ ninE (en k) (en d) = .ok (.bool (!(dcF d k).isSome)) := by
  have hf := dfind_en hk k d.l
  have hs : (dfind (d.l.map eKv) (en k)).isSome = (dcF d k).isSome := by rw [hf, Option.isSome_map]; rfl
  rcases hk.kind with h | h
  · have ha := allAt_en h d.l
    have hk1 := h k
    have hb : inB (en k) (.dict (d.l.map eKv)) = .ok (dcF d k).isSome := by
      show (if allAt (d.l.map eKv) = true ∧ (atomK (en k)).isSome = true then .ok (dfind (d.l.map eKv) (en k)).isSome else stk : R Bool) = _
      rw [if_pos ⟨ha, hk1⟩, hs]
    have hn : ∀ ds, en k ≠ .tuple ds := fun ds e => by rw [e] at hk1; cases hk1
    constructor
    · show inE (en k) (.dict (d.l.map eKv)) = _
      unfold inE
      split
      · exact absurd ‹en k = _› (hn _)
      · show (inB (en k) (.dict (d.l.map eKv)) >>= fun b => .ok (.bool b) : R D) = _
        rw [hb]; rfl
    · show ninE (en k) (.dict (d.l.map eKv)) = _
      unfold ninE
      split
      · exact absurd ‹en k = _› (hn _)
      · show (inB (en k) (.dict (d.l.map eKv)) >>= fun b => .ok (.bool (!b)) : R D) = _
        rw [hb]; rfl
  · have ha := allTk_en h d.l
    have hk1 := h k
    obtain ⟨ds, e⟩ := tk_tup hk1
    rw [e] at hk1 hs
    constructor
    · show inE (en k) (.dict (d.l.map eKv)) = _
      rw [e]
      show (if allTk (d.l.map eKv) = true ∧ (tk (.tuple ds)).isSome = true then .ok (.bool (dfind (d.l.map eKv) (.tuple ds)).isSome) else stk : R D) = _
      rw [if_pos ⟨ha, hk1⟩, hs]
    · show ninE (en k) (.dict (d.l.map eKv)) = _
      rw [e]
      show (if allTk (d.l.map eKv) = true ∧ (tk (.tuple ds)).isSome = true then .ok (.bool (!(dfind (d.l.map eKv) (.tuple ds)).isSome)) else stk : R D) = _
      rw [if_pos ⟨ha, hk1⟩, hs]
theorem e_inD [DecidableEq κ] {a : κ} {d : Dc κ α} (hk : Kyk κ) (h : A = .ok (en a)) (h2 : B = .ok (en d)) : (A >>= fun x => B >>= fun y => inE x y) = .ok (en (dcF d a).isSome) := by
  subst h h2; exact (inE_en hk d a).1
theorem e_ninD [DecidableEq κ] {a : κ} {d : Dc κ α} (hk : Kyk κ) (h : A = .ok (en a)) (h2 : B = .ok (en d)) : (A >>= fun x => B >>= fun y => ninE x y) = .ok (en (!(dcF d a).isSome)) := by
  subst h h2; exact (inE_en hk d a).2
def dcG [DecidableEq κ] (d : Dc κ α) (k : κ) : R α := opt (dcF d k)
theorem opt_map (o : Option α) : Ev (opt (o.map en)) (opt o) := fun v e => by
  cases o with
  | none => cases e
  | some a => cases e; rfl
theorem ixE_en [DecidableEq κ] (hk : Kyk κ) (d : Dc κ α) (k : κ) : Ev (ixE (en d) (en k)) (dcG d k) := fun v e => by
  have hf := dfind_en hk k d.l
  have e2 := opt_map _ v (show opt (dcF d k) = .ok v from e)
  show ixE (.dict (d.l.map eKv)) (en k) = _
  have hm : ∀ ds, d.l.map eKv ≠ [(.none, .list ds), (.none, .none)] := fun ds z => by
    have := dkOk_en hk d.l
    rw [z] at this
    exact dkOk_scr this
  rcases hk.kind with h | h
  · have ha := allAt_en h d.l
    have hk1 := h k
    have hn : ∀ ds, en k ≠ .tuple ds := fun ds e => by rw [e] at hk1; cases hk1
    unfold ixE
    split
    · exact absurd ‹en k = _› (hn _)
    · show ixD (.dict (d.l.map eKv)) (en k) = _
      unfold ixD
      split
      · rename_i q; injection q with q; exact absurd q (hm _)
      · rename_i q; cases q
      · rename_i q; cases q
      · rename_i q; cases q
      · rename_i kvs _ q
        injection q with q
        subst q
        rw [if_pos ⟨ha, hk1⟩, hf]
        exact e2
      · rename_i q1 q2 q3 q4 q5
        exact absurd rfl (q5 _)
  · have ha := allTk_en h d.l
    have hk1 := h k
    obtain ⟨ds, e3⟩ := tk_tup hk1
    rw [e3] at hk1 hf
    rw [e3]
    show (if allTk (d.l.map eKv) = true ∧ (tk (.tuple ds)).isSome = true then opt (dfind (d.l.map eKv) (.tuple ds)) else stk : R D) = _
    rw [if_pos ⟨ha, hk1⟩, hf]
    exact e2
theorem v_ixd [DecidableEq κ] {d : Dc κ α} {k : κ} (hk : Kyk κ) (h : A = .ok (en d)) (h2 : B = .ok (en k)) : Ev (A >>= fun x => B >>= fun y => ixE x y) (dcG d k) := by
  subst h h2; exact ixE_en hk d k
theorem gk_en {d : Dc κ α} {ρ : Env'} {i : Nat} (h : gv ρ i = .ok (en d)) : gk ρ i = .ok (d.l.map eKv) := by
  unfold gk; rw [h]; rfl
theorem v_ixo [DecidableEq κ] {d : Dc κ α} {k : κ} {ρ : Env'} {i : Nat} (hk : Kyk κ) (h : gv ρ i = .ok (en d)) (h2 : B = .ok (en k)) : Ev (gk ρ i >>= fun kvs => B >>= fun y => dgD kvs y >>= opt) (dcG d k) := by
  subst h2
  rw [gk_en h]
  show Ev (dgD (d.l.map eKv) (en k) >>= opt) _
  rw [dgD_en hk]
  exact opt_map _
theorem asDk_en [DecidableEq κ] (hk : Kyk κ) (d : Dc κ α) : asDk (en d) = .ok (d.l.map eKv) := if_pos (dkOk_en hk d.l)
theorem e_get [DecidableEq κ] {d : Dc κ α} {k : κ} (hk : Kyk κ) (h : A = .ok (en d)) (h2 : B = .ok (en k)) : (A >>= asDk >>= fun kvs => B >>= fun k => dgD kvs k >>= fun r => .ok (r.getD .none)) = .ok (en (dcF d k)) := by
  subst h h2
  show (asDk (en d) >>= fun kvs => dgD kvs (en k) >>= fun r => .ok (r.getD .none) : R D) = _
  rw [asDk_en hk]
  show (dgD (d.l.map eKv) (en k) >>= fun r => .ok (r.getD .none) : R D) = _
  rw [dgD_en hk]
  cases dcF d k <;> rfl
theorem e_getO [DecidableEq κ] {d : Dc κ (Option α)} {k : κ} (hk : Kyk κ) (h : A = .ok (en d)) (h2 : B = .ok (en k)) : (A >>= asDk >>= fun kvs => B >>= fun k => dgD kvs k >>= fun r => .ok (r.getD .none)) = .ok (en ((dcF d k).getD none)) := by
  subst h h2
  show (asDk (en d) >>= fun kvs => dgD kvs (en k) >>= fun r => .ok (r.getD .none) : R D) = _
  rw [asDk_en hk]
  show (dgD (d.l.map eKv) (en k) >>= fun r => .ok (r.getD .none) : R D) = _
  rw [dgD_en hk]
  cases dcF d k <;> rfl
theorem e_get2 [DecidableEq κ] {d : Dc κ α} {k : κ} {z : α} (hk : Kyk κ) (h : A = .ok (en d)) (h2 : B = .ok (en k)) (h3 : C = .ok (en z)) : (A >>= asDk >>= fun kvs => B >>= fun k => C >>= fun z => dgD kvs k >>= fun r => .ok (r.getD z)) = .ok (en ((dcF d k).getD z)) := by
  subst h h2 h3
  show (asDk (en d) >>= fun kvs => dgD kvs (en k) >>= fun r => .ok (r.getD (en z)) : R D) = _
  rw [asDk_en hk]
  show (dgD (d.l.map eKv) (en k) >>= fun r => .ok (r.getD (en z)) : R D) = _
  rw [dgD_en hk]
  cases dcF d k <;> rfl
def lenDc (d : Dc κ α) : R Int := if d.l.length ≤ 16777216 then .ok d.l.length else stk
end
end Vt

set_option Elab.async false
set_option linter.all false
set_option maxRecDepth 100000
/-! The typed mirror: displays, calls, subscripts, built-ins, comprehensions. -/
namespace Vt
open PySem PySem.Spec PyProof.Rows L2 Vs
open En (en)
section
variable {α β γ δ κ : Type} [En α] [En β] [En γ] [En δ] [En κ] {A B C : R D} {L M : R (List D)} {ds es : List D}
/-! ### argument lists, displays -/
theorem a_no : (.ok [] : R (List D)) = .ok [] := rfl
theorem a_co {d : D} (h : A = .ok d) (h2 : L = .ok ds) : (A >>= fun x => L >>= fun xs => .ok (x :: xs)) = .ok (d :: ds) := by subst h h2; rfl
theorem a_st {xs : List α} (h : A = .ok (.list (xs.map en))) (h2 : L = .ok ds) : (A >>= fun x => seqOf x >>= fun zs => L >>= fun ys => .ok (zs ++ ys)) = .ok (xs.map en ++ ds) := by subst h h2; rfl
theorem a_stT {xs : List α} (h : A = .ok (.tuple (xs.map en))) (h2 : L = .ok ds) : (A >>= fun x => seqOf x >>= fun zs => L >>= fun ys => .ok (zs ++ ys)) = .ok (xs.map en ++ ds) := by subst h h2; rfl
theorem e_t2 {a : α} {b : β} (h : L = .ok [en a, en b]) : (L >>= fun xs => lenOk xs.length >>= fun _ => .ok (.tuple xs)) = .ok (en (a, b)) := by subst h; rfl
theorem e_t3 {a : α} {b : β} {c : γ} (h : L = .ok [en a, en b, en c]) : (L >>= fun xs => lenOk xs.length >>= fun _ => .ok (.tuple xs)) = .ok (en (T3.mk a b c)) := by subst h; rfl
theorem e_t4 {a : α} {b : β} {c : γ} {d : δ} (h : L = .ok [en a, en b, en c, en d]) : (L >>= fun xs => lenOk xs.length >>= fun _ => .ok (.tuple xs)) = .ok (en (T4.mk a b c d)) := by subst h; rfl
theorem e_tu {xs : List α} (h : L = .ok (xs.map en)) (hl : xs.length ≤ 16777216 := by first | decide | (simp only [List.length_cons, List.length_nil]; decide)) : (L >>= fun xs => lenOk xs.length >>= fun _ => .ok (.tuple xs)) = .ok (en (Tu.mk xs)) := by
  subst h
  show (lenOk (xs.map en).length >>= fun _ => .ok (.tuple (xs.map en)) : R D) = _
  rw [List.length_map, lenOk_i hl]; rfl
theorem e_li {xs : List α} (h : L = .ok (xs.map en)) (hl : xs.length ≤ 16777216 := by first | decide | (simp only [List.length_cons, List.length_nil]; decide)) : (L >>= fun xs => lenOk xs.length >>= fun _ => .ok (.list xs) : R D) = .ok (.list (xs.map en)) := by
  subst h
  show (lenOk (xs.map en).length >>= fun _ => .ok (.list (xs.map en)) : R D) = _
  rw [List.length_map, lenOk_i hl]; rfl
/-- a list as it is, if it is not too long -/
def lstG (xs : List α) : R (List α) := if xs.length ≤ 16777216 then .ok xs else stk
def tupG (xs : List α) : R (Tu α) := if xs.length ≤ 16777216 then .ok ⟨xs⟩ else stk
/-- .. as an answer -/
def EvL (r : R D) (p : R (List α)) : Prop := ∀ v, p = .ok v → r = .ok (.list (v.map en))
theorem atl {r : R D} {p : R (List α)} {v : List α} (h : p = .ok v) (e : EvL r p) : r = .ok (.list (v.map en)) := e v h
theorem v_li {xs : List α} {ys : List D} (h : L = .ok ys) (hy : ys = xs.map en) : EvL (L >>= fun xs => lenOk xs.length >>= fun _ => .ok (.list xs)) (lstG xs) := fun v e => by
  subst hy
  unfold lstG at e
  split at e
  · cases e; exact e_li h ‹_›
  · cases e
theorem v_tu {xs : List α} {ys : List D} (h : L = .ok ys) (hy : ys = xs.map en) : Ev (L >>= fun xs => lenOk xs.length >>= fun _ => .ok (.tuple xs)) (tupG xs) := fun v e => by
  subst hy
  unfold tupG at e
  split at e
  · cases e; exact e_tu h ‹_›
  · cases e
/-! lists that are told by their data; a text is not one of them -/
theorem ofL {xs : List α} (h : A = .ok (.list (xs.map en))) : A = .ok (en xs) := h
/-! ### calls of defs -/
theorem v_call {f : List D → R D} {n : Nat} {p : R α} (h : L = .ok ds) (hf : Ev (f ds) p) (hn : ds.length = n := by rfl) : Ev (L >>= fnD n f) p := fun v e => by
  subst h
  show (if ds.length = n then f ds else stk) = _
  rw [if_pos hn]
  exact hf v e
/-! ### subscripts -/
def atR (xs : List α) (i : Int) : R α := opt (atI xs i)
theorem atI_en (xs : List α) (i : Int) : atI (xs.map en) i = (atI xs i).map en := by
  unfold atI
  rw [List.length_map]
  cases ixN xs.length i with
  | none => rfl
  | some j => exact List.getElem?_map
theorem v_ixl {xs : List α} {i : Int} (h : A = .ok (.list (xs.map en))) (h2 : B = .ok (en i)) : Ev (A >>= fun x => B >>= fun y => ixD x y) (atR xs i) := by
  subst h h2
  show Ev (opt (atI (xs.map en) i)) _
  rw [atI_en]; exact opt_map _
theorem v_ixt {xs : List α} {i : Int} (h : A = .ok (.tuple (xs.map en))) (h2 : B = .ok (en i)) : Ev (A >>= fun x => B >>= fun y => ixD x y) (atR xs i) := by
  subst h h2
  show Ev (opt (atI (xs.map en) i)) _
  rw [atI_en]; exact opt_map _
theorem gl_en {xs : List α} {ρ : Env'} {i : Nat} (h : gv ρ i = .ok (.list (xs.map en))) : gl ρ i = .ok (xs.map en) := by
  unfold gl; rw [h]; rfl
theorem v_ixol {xs : List α} {i : Int} {ρ : Env'} {k : Nat} (h : gv ρ k = .ok (.list (xs.map en))) (h2 : B = .ok (en i)) : Ev (gl ρ k >>= fun ds => B >>= fun y => asI y >>= fun j => opt (atI ds j)) (atR xs i) := by
  subst h2
  rw [gl_en h]
  show Ev (opt (atI (xs.map en) i)) _
  rw [atI_en]; exact opt_map _
def atS (l : Tx) (i : Int) : R Tx := if l.length ≤ 16777216 then opt (atI l i) >>= fun c => .ok [c] else stk
theorem atI_val (l : Tx) (i : Int) : atI (l.map Fin.val) i = (atI l i).map Fin.val := by
  unfold atI
  rw [List.length_map]
  cases ixN l.length i with
  | none => rfl
  | some j => exact List.getElem?_map
theorem v_ixs {l : Tx} {i : Int} (h : A = .ok (en l)) (h2 : B = .ok (en i)) : Ev (A >>= fun x => B >>= fun y => ixD x y) (atS l i) := fun v e => by
  subst h h2
  unfold atS at e
  split at e
  · rename_i hl
    obtain ⟨c, h1, h2⟩ := bind_ok e
    cases h2
    cases hc : atI l i with
    | none => rw [hc] at h1; cases h1
    | some d =>
      rw [hc] at h1; cases h1
      exact ix_tx (by rw [List.length_map]; exact hl) (by rw [atI_val, hc]; rfl)
  · cases e
theorem e_p1 {p : α × β} (h : A = .ok (en p)) : (A >>= fun x => .ok (.int 0) >>= fun y => ixD x y) = .ok (en p.1) := by subst h; rfl
theorem e_p2 {p : α × β} (h : A = .ok (en p)) : (A >>= fun x => .ok (.int 1) >>= fun y => ixD x y) = .ok (en p.2) := by subst h; rfl
theorem e_pl {p : α × β} (h : A = .ok (en p)) : (A >>= fun x => .ok (.int (-1)) >>= fun y => ixD x y) = .ok (en p.2) := by subst h; rfl
theorem e_q1 {p : T3 α β γ} (h : A = .ok (en p)) : (A >>= fun x => .ok (.int 0) >>= fun y => ixD x y) = .ok (en p.a) := by subst h; rfl
theorem e_q2 {p : T3 α β γ} (h : A = .ok (en p)) : (A >>= fun x => .ok (.int 1) >>= fun y => ixD x y) = .ok (en p.b) := by subst h; rfl
theorem e_q3 {p : T3 α β γ} (h : A = .ok (en p)) : (A >>= fun x => .ok (.int 2) >>= fun y => ixD x y) = .ok (en p.c) := by subst h; rfl
/-! ### slices -/
theorem p_none : (.ok none : R (Option Int)) = .ok none := rfl
theorem p_some {i : Int} (h : A = .ok (en i)) : (A >>= fun d => asI d >>= fun i => .ok (some i)) = .ok (some i) := by subst h; rfl
theorem cutA_map {γ δ : Type} (f : γ → δ) (xs : List γ) (lo hi : Option Int) : cutA (xs.map f) lo hi = (cutA xs lo hi).map f := by
  unfold cutA
  rw [List.length_map, List.map_take, List.map_drop]
theorem e_sl {P Q : R (Option Int)} {xs : List α} {lo hi : Option Int} (h : A = .ok (.list (xs.map en))) (h2 : P = .ok lo) (h3 : Q = .ok hi) : (A >>= fun x => P >>= fun l => Q >>= fun h => slD x l h) = .ok (.list ((cutA xs lo hi).map en)) := by
  subst h h2 h3
  show (.ok (.list (cutA (xs.map en) lo hi)) : R D) = _
  rw [cutA_map]
def cutG (l : Tx) (lo hi : Option Int) : R Tx := if l.length ≤ 16777216 then .ok (cutA l lo hi) else stk
theorem cutS_val (l : Tx) (lo hi : Option Int) : cutS (tx (l.map Fin.val)) lo hi = tx ((cutA l lo hi).map Fin.val) := by
  rw [← cutA_map]
  unfold cutS cutA tx
  have hl : (⟨(l.map Fin.val).toArray⟩ : Str).length = (l.map Fin.val).length := by show (l.map Fin.val).toArray.size = _; rw [List.size_toArray]
  simp only [hl]
theorem v_sls {P Q : R (Option Int)} {l : Tx} {lo hi : Option Int} (h : A = .ok (en l)) (h2 : P = .ok lo) (h3 : Q = .ok hi) : Ev (A >>= fun x => P >>= fun l => Q >>= fun h => slD x l h) (cutG l lo hi) := fun v e => by
  subst h h2 h3
  unfold cutG at e
  split at e
  · rename_i hl
    cases e
    show (lenOk (tx (l.map Fin.val)).length >>= fun _ => .ok (.str (cutS (tx (l.map Fin.val)) lo hi)) : R D) = _
    rw [tx_len, List.length_map, lenOk_i hl, cutS_val]; rfl
  · cases e
theorem e_rev {xs : List α} (h : A = .ok (.list (xs.map en))) : (A >>= fun x => revD x) = .ok (.list (xs.reverse.map en)) := by
  subst h
  show (.ok (.list (xs.map en).reverse) : R D) = _
  rw [List.map_reverse]
/-! ### sums of texts and lists; so many times -/
def addS (a b : Tx) : R Tx := if a.length + b.length ≤ 16777216 then .ok (a ++ b) else stk
theorem v_addS {a b : Tx} (h : A = .ok (en a)) (h2 : B = .ok (en b)) : Ev (A >>= fun x => B >>= fun y => addD x y) (addS a b) := fun v e => by
  subst h h2
  unfold addS at e
  split at e
  · rename_i hl
    cases e
    show addD (.str (tx (a.map Fin.val))) (.str (tx (b.map Fin.val))) = .ok (.str (tx ((a ++ b).map Fin.val)))
    rw [add_tx (by rw [List.length_map, List.length_map]; exact hl), List.map_append]
  · cases e
def addL (a b : List α) : R (List α) := if a.length + b.length ≤ 16777216 then .ok (a ++ b) else stk
theorem v_addL {a b : List α} (h : A = .ok (.list (a.map en))) (h2 : B = .ok (.list (b.map en))) : EvL (A >>= fun x => B >>= fun y => addD x y) (addL a b) := fun v e => by
  subst h h2
  unfold addL at e
  split at e
  · rename_i hl
    cases e
    show (if (a.map en).length + (b.map en).length ≤ sizeLine then .ok (.list (a.map en ++ b.map en)) else stk : R D) = _
    rw [if_pos (by rw [List.length_map, List.length_map, sizeLine_eq]; exact hl), List.map_append]
  · cases e
def repG (xs : List α) (k : Int) : R (List α) := if -9223372036854775808 ≤ k ∧ k < 9223372036854775808 ∧ xs.length * k.toNat ≤ 16777216 then .ok (List.replicate k.toNat xs).flatten else stk
theorem v_rep {xs : List α} {k : Int} (h : A = .ok (.list (xs.map en))) (h2 : B = .ok (en k)) : EvL (A >>= fun x => B >>= fun y => mulE x y) (repG xs k) := fun v e => by
  subst h h2
  unfold repG at e
  split at e
  · rename_i hl
    cases e
    show (if -9223372036854775808 ≤ k ∧ k < 9223372036854775808 ∧ (xs.map en).length * k.toNat ≤ 16777216 then .ok (.list (repL (xs.map en) k)) else stk : R D) = _
    rw [if_pos (by rw [List.length_map]; exact hl)]
    unfold repL
    rw [List.map_flatten, List.map_replicate]
  · cases e
def repT (x : Tx) (k : Int) : R Tx := if 0 ≤ k ∧ k ≤ 1000 ∧ x.length ≤ 1000 then .ok (List.replicate k.toNat x).flatten else stk
theorem fold_rep (l : Array Nat) : ∀ (k : Nat) (acc : Array Nat), ((List.replicate k l).foldl (· ++ ·) acc).toList = acc.toList ++ (List.replicate k l.toList).flatten
  | 0, acc => by simp
  | k + 1, acc => by
    rw [List.replicate_succ, List.foldl_cons, fold_rep l k, List.replicate_succ, List.flatten_cons]
    simp
theorem repS_tx (l : List Nat) (k : Int) : repS (tx l) k = tx (List.replicate k.toNat l).flatten := by
  unfold repS Txt.mul
  split
  · have : k.toNat = 0 := by omega
    rw [this]; rfl
  · split
    · rename_i h
      rw [Bool.or_eq_true, beq_iff_eq, beq_iff_eq] at h
      rcases h with h | h
      · subst h; simp
      · rw [tx_len] at h
        have : l = [] := List.length_eq_zero_iff.mp h
        subst this
        have : ∀ m : Nat, (List.replicate m ([] : List Nat)).flatten = [] := fun m => by
          induction m with
          | zero => rfl
          | succ m ih => rw [List.replicate_succ, List.flatten_cons, ih]; rfl
        rw [this]
    · have := fold_rep (tx l).cps k.toNat #[]
      show (⟨_⟩ : Str) = ⟨_⟩
      congr 1
      apply Array.toList_inj.mp
      rw [this]
      rfl
theorem v_repT {x : Tx} {k : Int} (h : A = .ok (en x)) (h2 : B = .ok (en k)) : Ev (A >>= fun x => B >>= fun y => mulD x y) (repT x k) := fun v e => by
  subst h h2
  unfold repT at e
  split at e
  · rename_i hh
    cases e
    show (if mulOkB (tx (x.map Fin.val)) k then .ok (.str (repS (tx (x.map Fin.val)) k)) else stk : R D) = .ok (.str (tx (((List.replicate k.toNat x).flatten).map Fin.val)))
    have hm : mulOkB (tx (x.map Fin.val)) k = true := by
      unfold mulOkB
      rw [tx_len, List.length_map, decide_eq_true hh.1, decide_eq_true hh.2.1, decide_eq_true hh.2.2]; rfl
    rw [if_pos hm, repS_tx, List.map_flatten, List.map_replicate]
  · cases e
/-! ### built-ins -/
theorem e_lenL {xs : List α} (h : L = .ok [.list (xs.map en)]) : (L >>= lenD) = .ok (en (xs.length : Int)) := by
  subst h
  show (.ok (.int (xs.map en).length) : R D) = _
  rw [List.length_map]; rfl
theorem e_lenT {xs : List α} (h : L = .ok [.tuple (xs.map en)]) : (L >>= lenD) = .ok (en (xs.length : Int)) := by
  subst h
  show (.ok (.int (xs.map en).length) : R D) = _
  rw [List.length_map]; rfl
theorem e_lenP {p : α × β} (h : L = .ok [en p]) : (L >>= lenD) = .ok (en (2 : Int)) := by subst h; rfl
def lenS (l : Tx) : R Int := if l.length ≤ 16777216 then .ok l.length else stk
theorem v_lenS {l : Tx} (h : L = .ok [en l]) : Ev (L >>= lenD) (lenS l) := fun v e => by
  subst h
  unfold lenS at e
  split at e
  · rename_i hl
    cases e
    show lenD [.str (tx (l.map Fin.val))] = _
    rw [len_tx (by rw [List.length_map]; exact hl), List.length_map]; rfl
  · cases e
theorem v_lenD [DecidableEq κ] {d : Dc κ α} (hk : Kyk κ) (h : L = .ok [en d]) : Ev (L >>= lenE) (lenDc d) := fun v e => by
  subst h
  unfold lenDc at e
  split at e
  · rename_i hl
    cases e
    show (if dkOk (d.l.map eKv) = true then lenOk (d.l.map eKv).length >>= fun _ => .ok (.int (d.l.map eKv).length) else lenD [.dict (d.l.map eKv)] : R D) = _
    rw [if_pos (dkOk_en hk _), List.length_map, lenOk_i hl]; rfl
  · cases e
theorem e_abs {a : Int} (h : L = .ok [en a]) : (L >>= absD) = .ok (en (a.natAbs : Int)) := by subst h; exact abs_i a
theorem e_min2 {a b : Int} (h : L = .ok [en a, en b]) : (L >>= min2D) = .ok (en (min a b)) := by subst h; exact min2_ii a b
theorem e_max2 {a b : Int} (h : L = .ok [en a, en b]) : (L >>= max2D) = .ok (en (max a b)) := by subst h; exact max2_ii a b
theorem e_intI {a : Int} (h : L = .ok [en a]) : (L >>= intD) = .ok (en a) := by subst h; rfl
theorem e_intB {a : Bool} (h : L = .ok [en a]) : (L >>= intD) = .ok (en (if a then (1 : Int) else 0)) := by subst h; exact intD_b a
theorem e_all {bs : List Bool} (h : L = .ok [.list (bs.map en)]) : (L >>= allD) = .ok (en (bs.all id)) := by subst h; exact all_bl bs
theorem e_any {bs : List Bool} (h : L = .ok [.list (bs.map en)]) : (L >>= anyD) = .ok (en (bs.any id)) := by subst h; exact any_bl bs
theorem e_sum {ns : List Int} (h : L = .ok [.list (ns.map en)]) : (L >>= sumD) = .ok (en ns.sum) := by subst h; exact sum_in ns
theorem lists_en : ∀ ls : List (List α), lists? (ls.map fun l => .list (l.map en)) = some (ls.map fun l => l.map en)
  | [] => rfl
  | l :: ls => by
    show (lists? (ls.map fun l => .list (l.map en))).map (l.map en :: ·) = _
    rw [lists_en ls]; rfl
def sumL (ls : List (List α)) : R (List α) := if ls.flatten.length ≤ 16777216 then .ok ls.flatten else stk
theorem v_sumL {ls : List (List α)} (h : L = .ok [.list (ls.map fun l => .list (l.map en)), .list []]) : EvL (L >>= sum2D) (sumL ls) := fun v e => by
  subst h
  unfold sumL at e
  split at e
  · rename_i hl
    cases e
    show (opt (lists? (ls.map fun l => .list (l.map en))) >>= fun ls => if ls.flatten.length ≤ 16777216 then .ok (.list ls.flatten) else stk : R D) = _
    rw [lists_en]
    show (if (ls.map fun l => l.map en).flatten.length ≤ 16777216 then .ok (.list (ls.map fun l => l.map en).flatten) else stk : R D) = _
    have e : (ls.map fun l => l.map en).flatten = ls.flatten.map en := by rw [List.map_flatten]
    rw [e, List.length_map, if_pos hl]
  · cases e
/-- the least of whole numbers -/
def minI : List Int → R Int
  | [] => stk
  | a :: l => .ok (l.foldl min a)
def maxI : List Int → R Int
  | [] => stk
  | a :: l => .ok (l.foldl max a)
theorem v_minI {ns : List Int} (h : L = .ok [.list (ns.map en)]) : Ev (L >>= Vs.minD) (minI ns) := fun v e => by
  subst h
  cases ns with
  | nil => cases e
  | cons a l =>
    cases e
    show (opt (ints? ((a :: l).map .int)) >>= fun ns => if 0 < ns.length then .ok (.int (minL ns)) else stk : R D) = _
    rw [Vs.ints_map (a :: l)]
    rfl
theorem v_maxI {ns : List Int} (h : L = .ok [.list (ns.map en)]) : Ev (L >>= Vs.maxD) (maxI ns) := fun v e => by
  subst h
  cases ns with
  | nil => cases e
  | cons a l =>
    cases e
    show (opt (ints? ((a :: l).map .int)) >>= fun ns => if 0 < ns.length then .ok (.int (maxL ns)) else stk : R D) = _
    rw [Vs.ints_map (a :: l)]
    rfl
theorem e_list {xs : List α} (h : L = .ok [.list (xs.map en)]) : (L >>= listD) = .ok (.list (xs.map en)) := by subst h; rfl
theorem e_listT {xs : List α} (h : L = .ok [.tuple (xs.map en)]) : (L >>= listD) = .ok (.list (xs.map en)) := by subst h; rfl
theorem e_tuple {xs : List α} (h : L = .ok [.list (xs.map en)]) : (L >>= tupleD) = .ok (.tuple (xs.map en)) := by subst h; rfl
theorem e_tupleT {xs : List α} (h : L = .ok [.tuple (xs.map en)]) : (L >>= tupleD) = .ok (.tuple (xs.map en)) := by subst h; rfl
theorem e_tuple2 {p : α × β} (h : L = .ok [en p]) : (L >>= tupleD) = .ok (en p) := by subst h; rfl
/-! ### the order -/
def ltT (a b : α) : Bool := PySem.W.dataLt (en a) (en b)
theorem cmpOk_en [Alk α] [s : Sh α] (hs : s.n ≤ 60) (a : α) : cmpOk (en a) = true := by
  unfold cmpOk
  rw [Sh.lay a, Bool.true_and, decide_eq_true (Nat.le_trans (Sh.dep a) hs), Bool.true_and]
  have := Alk.nn a
  split
  · rename_i e; exact absurd e this
  · rfl
theorem e_ltT [Alk α] [s : Sh α] {a b : α} (h : A = .ok (en a)) (h2 : B = .ok (en b)) (hs : s.n ≤ 60 := by decide) : (A >>= fun x => B >>= fun y => ltE x y) = .ok (en (ltT a b)) := by
  subst h h2
  show ltE (en a) (en b) = _
  unfold ltE
  split
  · rename_i i j e1 e2
    unfold ltT
    rw [e1, e2, PySem.W.dataLt_int]; rfl
  · rw [if_pos (by rw [cmpOk_en hs a, cmpOk_en hs b, Alk.alk]; rfl)]; rfl
theorem ltT_int (a b : Int) : ltT a b = decide (a < b) := PySem.W.dataLt_int a b
def minT : List α → R α
  | [] => stk
  | a :: l => .ok (l.foldl (fun a y => if ltT y a then y else a) a)
def maxT : List α → R α
  | [] => stk
  | a :: l => .ok (l.foldl (fun a y => if ltT a y then y else a) a)
theorem mmOk_en [Alk α] [s : Sh α] (hs : s.n ≤ 60) (l : List α) : mmOk (l.map en) = true := by
  unfold mmOk
  rw [List.all_eq_true]
  intro x hx
  obtain ⟨a, _, rfl⟩ := List.mem_map.mp hx
  rw [cmpOk_en hs a, Bool.true_and, List.all_eq_true]
  intro y hy
  obtain ⟨b, _, rfl⟩ := List.mem_map.mp hy
  exact Alk.alk a b
theorem minD_en (a : α) : ∀ l : List α, PySem.W.minD (en a) (l.map en) = en (l.foldl (fun a y => if ltT y a then y else a) a) := by
  intro l
  unfold PySem.W.minD
  induction l generalizing a with
  | nil => rfl
  | cons b l ih =>
    rw [List.map_cons, List.foldl_cons, List.foldl_cons]
    have : (if PySem.W.dataLt (en b) (en a) = true then en b else en a) = en (if ltT b a then b else a) := by
      unfold ltT; split <;> rfl
    rw [this]
    exact ih _
theorem maxD_en (a : α) : ∀ l : List α, PySem.W.maxD (en a) (l.map en) = en (l.foldl (fun a y => if ltT a y then y else a) a) := by
  intro l
  unfold PySem.W.maxD
  induction l generalizing a with
  | nil => rfl
  | cons b l ih =>
    rw [List.map_cons, List.foldl_cons, List.foldl_cons]
    have : (if PySem.W.dataLt (en a) (en b) = true then en b else en a) = en (if ltT a b then b else a) := by
      unfold ltT; split <;> rfl
    rw [this]
    exact ih _
theorem v_minT [Alk α] [s : Sh α] {l : List α} (h : L = .ok [.list (l.map en)]) (hs : s.n ≤ 60 := by decide) : Ev (L >>= minE) (minT l) := fun v e => by
  subst h
  cases l with
  | nil => cases e
  | cons a l =>
    cases e
    show (if mmOk ((a :: l).map en) = true then .ok (PySem.W.minD (en a) (l.map en)) else stk : R D) = _
    rw [if_pos (mmOk_en hs _), minD_en]
theorem v_maxT [Alk α] [s : Sh α] {l : List α} (h : L = .ok [.list (l.map en)]) (hs : s.n ≤ 60 := by decide) : Ev (L >>= maxE) (maxT l) := fun v e => by
  subst h
  cases l with
  | nil => cases e
  | cons a l =>
    cases e
    show (if mmOk ((a :: l).map en) = true then .ok (PySem.W.maxD (en a) (l.map en)) else stk : R D) = _
    rw [if_pos (mmOk_en hs _), maxD_en]
theorem v_minTp {p : α × α} [Alk α] [s : Sh α] (h : L = .ok [en p]) (hs : s.n ≤ 60 := by decide) : Ev (L >>= minE) (minT [p.1, p.2]) := fun v e => by
  subst h
  cases e
  show (if mmOk ([p.1, p.2].map en) = true then .ok (PySem.W.minD (en p.1) ([p.2].map en)) else stk : R D) = _
  rw [if_pos (mmOk_en hs _), minD_en]
theorem v_maxTp {p : α × α} [Alk α] [s : Sh α] (h : L = .ok [en p]) (hs : s.n ≤ 60 := by decide) : Ev (L >>= maxE) (maxT [p.1, p.2]) := fun v e => by
  subst h
  cases e
  show (if mmOk ([p.1, p.2].map en) = true then .ok (PySem.W.maxD (en p.1) ([p.2].map en)) else stk : R D) = _
  rw [if_pos (mmOk_en hs _), maxD_en]
theorem v_un {o : Option α} (h : A = .ok (en o)) : Ev A (opt o) := fun v e => by
  cases o with
  | none => cases e
  | some a => cases e; exact h
/-! ### index -/
def idxG [DecidableEq α] (l : List α) (a : α) : R Int := opt (l.findIdx? fun z => decide (z = a)) >>= fun j => .ok (j : Nat)
theorem v_index [DecidableEq α] [EqvO α] [s : Sh α] {l : List α} {a : α} (h : A = .ok (.list (l.map en))) (h2 : B = .ok (en a)) (hs : s.n + 1 ≤ 64 := by decide) : Ev (A >>= fun x => itL x >>= fun _ => B >>= fun y => indexD x y) (idxG l a) := fun v e => by
  subst h h2
  show (if SeqAt.shaped (.list (l.map en)) = true ∧ SeqAt.shaped (en a) = true then opt ((l.map en).findIdx? fun z => PyData.eqv z (en a)) >>= fun j => .ok (.int (j : Nat)) else stk : R D) = _
  rw [if_pos ⟨shp (α := List α) hs l, shp (by omega) a⟩, List.findIdx?_map]
  have : ((fun z => PyData.eqv z (en a)) ∘ en : α → Bool) = fun z => decide (z = a) := funext fun z => EqvO.eqv z a
  rw [this]
  obtain ⟨j, h1, h2⟩ := bind_ok (show (opt (l.findIdx? fun z => decide (z = a)) >>= fun j => .ok (j : Nat) : R Int) = .ok v from e)
  cases h2
  rw [h1]; rfl
/-! ### what is walked -/
def rgI (lo : Int) (n : Nat) : List Int := (List.range n).map fun (i : Nat) => lo + i
theorem rgI_en (lo : Int) (n : Nat) : rgD lo n = (rgI lo n).map en := by
  unfold rgD rgI
  rw [List.map_map]; rfl
def rgR1 (n : Int) : R (List Int) := if n.natAbs < 4611686018427387904 then .ok (rgI 0 n.toNat) else stk
def rgR2 (m n : Int) : R (List Int) := if m.natAbs < 4611686018427387904 ∧ n.natAbs < 4611686018427387904 then .ok (rgI m (n - m).toNat) else stk
def rgR3 (m n : Int) : R (List Int) := if m.natAbs < 4611686018427387904 ∧ n.natAbs < 4611686018427387904 then .ok ((List.range (m - n).toNat).map fun (i : Nat) => m + i * (-1)) else stk
/-- what is walked, where the plain list is v -/
def Ei (r : R (List D)) (p : R (List α)) : Prop := ∀ v, p = .ok v → r = .ok (v.map en)
theorem ati {r : R (List D)} {p : R (List α)} {v : List α} (h : p = .ok v) (e : Ei r p) : r = .ok (v.map en) := e v h
theorem i_ok {xs : List α} {r : R (List D)} (h : r = .ok (xs.map en)) : Ei r (.ok xs) := fun v e => by cases e; exact h
theorem i_r1 {n : Int} (h : L = .ok [en n]) : Ei (L >>= rg1) (rgR1 n) := fun v e => by
  subst h
  unfold rgR1 at e
  split at e
  · cases e
    show rg1 [.int n] = _
    rw [rg1_i ‹_›, rgI_en]
  · cases e
theorem i_r2 {m n : Int} (h : L = .ok [en m, en n]) : Ei (L >>= rg2) (rgR2 m n) := fun v e => by
  subst h
  unfold rgR2 at e
  split at e
  · cases e
    show rg2 [.int m, .int n] = _
    rw [rg2_i ‹_›, rgI_en]
  · cases e
theorem i_r3 {m n : Int} (h : L = .ok [en m, en n, .int (-1)]) : Ei (L >>= rg3) (rgR3 m n) := fun v e => by
  subst h
  unfold rgR3 at e
  split at e
  · rename_i hh
    cases e
    show (if (-1 : Int) = -1 ∧ m.natAbs < 4611686018427387904 ∧ n.natAbs < 4611686018427387904 then .ok (rgC m (m - n).toNat) else stk : R (List D)) = _
    rw [if_pos ⟨rfl, hh⟩]
    unfold rgC
    rw [List.map_map]; rfl
  · cases e
def lrR (i j : Int) : R (List Int) := if i.natAbs < 4611686018427387904 ∧ j.natAbs < 4611686018427387904 ∧ (j - i).toNat ≤ 16777216 then .ok (rgI i (j - i).toNat) else stk
theorem lr_en (i j : Int) : EvL (lrD i j) (lrR i j) := fun v e => by
  unfold lrR at e
  split at e
  · cases e
    unfold lrD
    rw [if_pos ‹_›, rgI_en]
  · cases e
theorem v_lr1 {i : Int} (h : A = .ok (en i)) : EvL (A >>= fun d => asI d >>= fun i => lrD 0 i) (lrR 0 i) := by subst h; exact lr_en 0 i
theorem v_lr2 {i j : Int} (h : A = .ok (en i)) (h2 : B = .ok (en j)) : EvL (A >>= fun d => B >>= fun d2 => asI d >>= fun i => asI d2 >>= fun j => lrD i j) (lrR i j) := by subst h h2; exact lr_en i j
theorem i_l {xs : List α} (h : A = .ok (.list (xs.map en))) : (A >>= itL) = .ok (xs.map en) := by subst h; rfl
theorem i_t {xs : List α} (h : A = .ok (.tuple (xs.map en))) : (A >>= itT) = .ok (xs.map en) := by subst h; rfl
theorem i_p {a b : α} (h : A = .ok (en (a, b))) : (A >>= itT) = .ok ([a, b].map en) := by subst h; rfl
theorem i_pp {p : α × α} (h : A = .ok (en p)) : (A >>= itT) = .ok ([p.1, p.2].map en) := by subst h; rfl
def sgs (l : Tx) : List Tx := l.map fun c => [c]
theorem sgs_en (l : Tx) : ((tx (l.map Fin.val)).cps.toList.map fun c => PyData.str ⟨#[c]⟩) = (sgs l).map en := by
  rw [tx_cps]
  unfold sgs
  rw [List.map_map, List.map_map]; rfl
theorem i_s {l : Tx} (h : A = .ok (en l)) : (A >>= itS) = .ok ((sgs l).map en) := by
  subst h
  show (.ok ((tx (l.map Fin.val)).cps.toList.map fun c => PyData.str ⟨#[c]⟩) : R (List D)) = _
  rw [sgs_en]
def dkeys (d : Dc κ α) : List κ := d.l.map (·.1)
theorem i_d [DecidableEq κ] {d : Dc κ α} (hk : Kyk κ) (h : A = .ok (en d)) : (A >>= itK) = .ok ((dkeys d).map en) := by
  subst h
  show (if dkOk (d.l.map eKv) = true then .ok ((d.l.map eKv).map (·.1)) else stk : R (List D)) = _
  rw [if_pos (dkOk_en hk _)]
  unfold dkeys
  rw [List.map_map, List.map_map]; rfl
def enI (k : Nat) : List α → List (Int × α)
  | [] => []
  | a :: l => ((k : Int), a) :: enI (k + 1) l
theorem enI_en : ∀ (l : List α) (k : Nat), enD k (l.map en) = (enI k l).map en
  | [], _ => rfl
  | a :: l, k => by
    show PyData.tuple [.int (k : Nat), en a] :: enD (k + 1) (l.map en) = _
    rw [enI_en l]; rfl
theorem i_e {xs : List α} (h : L = .ok [.list (xs.map en)]) : (L >>= en1) = .ok ((enI 0 xs).map en) := by
  subst h
  show (.ok (enD 0 (xs.map en)) : R (List D)) = _
  rw [enI_en]
theorem i_et {xs : List α} (h : L = .ok [.tuple (xs.map en)]) : (L >>= en1t) = .ok ((enI 0 xs).map en) := by
  subst h
  show (.ok (enD 0 (xs.map en)) : R (List D)) = _
  rw [enI_en]
theorem i_ep {a b : α} (h : L = .ok [en (a, b)]) : (L >>= en1t) = .ok ((enI 0 [a, b]).map en) := by subst h; rfl
theorem i_es {l : Tx} (h : L = .ok [en l]) : (L >>= en1s) = .ok ((enI 0 (sgs l)).map en) := by
  subst h
  show (.ok (enD 0 ((tx (l.map Fin.val)).cps.toList.map fun c => PyData.str ⟨#[c]⟩)) : R (List D)) = _
  rw [sgs_en, enI_en]
/-! ### comprehensions -/
def mapR (f : α → R β) : List α → R (List β)
  | [] => .ok []
  | a :: l => f a >>= fun b => mapR f l >>= fun bs => .ok (b :: bs)
def filR (t : α → R Bool) (f : α → R β) : List α → R (List β)
  | [] => .ok []
  | a :: l => t a >>= fun c => if c then f a >>= fun b => filR t f l >>= fun bs => .ok (b :: bs) else filR t f l
def mapG (f : α → R β) (l : List α) : R (List β) := if l.length ≤ 16777216 then mapR f l else stk
def filG (t : α → R Bool) (f : α → R β) (l : List α) : R (List β) := if l.length ≤ 16777216 then filR t f l else stk
theorem lc_en {tg : D → Env' → R Env'} {ft : Env' → R Bool} {fe : Env' → R D} {ρ : Env'} {t : α → R Bool} {f : α → R β} (h : ∀ a, ∃ ρ1, tg (en a) ρ = .ok ρ1 ∧ Et (ft ρ1) (t a) ∧ Ev (fe ρ1) (f a)) :
    ∀ (l : List α) (v : List β), filR t f l = .ok v → lcD tg ft fe ρ (l.map en) = .ok (v.map en)
  | [], v, e => by cases e; rfl
  | a :: l, v, e => by
    obtain ⟨ρ1, h1, h2, h3⟩ := h a
    obtain ⟨c, e1, e2⟩ := bind_ok (show (t a >>= fun c => if c then f a >>= fun b => filR t f l >>= fun bs => .ok (b :: bs) else filR t f l) = .ok v from e)
    rw [List.map_cons, lc_is, h1, okb, h2 c e1, okb]
    cases c with
    | true =>
      obtain ⟨b, e3, e4⟩ := bind_ok (show (f a >>= fun b => filR t f l >>= fun bs => .ok (b :: bs)) = .ok v from e2)
      obtain ⟨bs, e5, e6⟩ := bind_ok e4
      cases e6
      rw [if_pos rfl, h3 b e3, okb, lc_en h l bs e5, okb]
      rfl
    | false => exact lc_en h l v e2
theorem lc_enM {tg : D → Env' → R Env'} {fe : Env' → R D} {ρ : Env'} {f : α → R β} (h : ∀ a, ∃ ρ1, tg (en a) ρ = .ok ρ1 ∧ Ev (fe ρ1) (f a)) :
    ∀ (l : List α) (v : List β), mapR f l = .ok v → lcD tg (fun _ => .ok true) fe ρ (l.map en) = .ok (v.map en)
  | [], v, e => by cases e; rfl
  | a :: l, v, e => by
    obtain ⟨ρ1, h1, h3⟩ := h a
    obtain ⟨b, e3, e4⟩ := bind_ok (show (f a >>= fun b => mapR f l >>= fun bs => .ok (b :: bs)) = .ok v from e)
    obtain ⟨bs, e5, e6⟩ := bind_ok e4
    cases e6
    rw [List.map_cons, lc_is, h1, okb, okb, if_pos rfl, h3 b e3, okb, lc_enM h l bs e5, okb]
    rfl
theorem v_fil {vs : List Nat} {fi : Env' → R (List D)} {tg : D → Env' → R Env'} {ft : Env' → R Bool} {fe : Env' → R D} {ρ : Env'} {t : α → R Bool} {f : α → R β} {xs : List α} (ρ1 : α → Env') (hi : fi ρ = .ok (xs.map en)) (ht : ∀ a, Et (ft (ρ1 a)) (t a)) (hf : ∀ a, Ev (fe (ρ1 a)) (f a)) (hg : ∀ a, tg (en a) (wipeD ρ vs) = .ok (ρ1 a) := by intro _; rfl) :
    EvL (compD vs fi tg ft fe ρ) (filG t f xs) := fun v e => by
  unfold filG at e
  split at e
  · rename_i hl
    rw [comp_is, hi, okb, List.length_map, lenOk_i hl, okb, lc_en (fun a => ⟨ρ1 a, hg a, ht a, hf a⟩) xs v e]
    rfl
  · cases e
theorem v_map {vs : List Nat} {fi : Env' → R (List D)} {tg : D → Env' → R Env'} {fe : Env' → R D} {ρ : Env'} {f : α → R β} {xs : List α} (ρ1 : α → Env') (hi : fi ρ = .ok (xs.map en)) (hf : ∀ a, Ev (fe (ρ1 a)) (f a)) (hg : ∀ a, tg (en a) (wipeD ρ vs) = .ok (ρ1 a) := by intro _; rfl) :
    EvL (compD vs fi tg (fun _ => .ok true) fe ρ) (mapG f xs) := fun v e => by
  unfold mapG at e
  split at e
  · rename_i hl
    rw [comp_is, hi, okb, List.length_map, lenOk_i hl, okb, lc_enM (fun a => ⟨ρ1 a, hg a, hf a⟩) xs v e]
    rfl
  · cases e

/-- two clauses -/
def mapR2 (g : α → R (List γ)) : List α → R (List γ)
  | [] => .ok []
  | a :: l => g a >>= fun b => mapR2 g l >>= fun bs => .ok (b ++ bs)
def mapG2 (g : α → R (List γ)) (l : List α) : R (List γ) := mapR2 g l >>= fun ys => if ys.length ≤ 16777216 then .ok ys else stk
theorem lc2_is (tg : D → Env' → R Env') (ft : Env' → R Bool) (fi1 : Env' → R (List D)) (vs1 : List Nat) (tg1 : D → Env' → R Env') (ft1 : Env' → R Bool) (fe : Env' → R D) (ρ : Env') (d : D) (ds : List D) : lcD2 tg ft fi1 vs1 tg1 ft1 fe ρ (d :: ds) = (tg d ρ >>= fun ρ1 => ft ρ1 >>= fun b => if b then fi1 ρ1 >>= fun ds1 => lcD tg1 ft1 fe (wipeD ρ1 vs1) ds1 >>= fun ys => lcD2 tg ft fi1 vs1 tg1 ft1 fe ρ ds >>= fun zs => .ok (ys ++ zs) else lcD2 tg ft fi1 vs1 tg1 ft1 fe ρ ds) := rfl
theorem lc2_en {tg tg1 : D → Env' → R Env'} {ft1 : Env' → R Bool} {fi1 : Env' → R (List D)} {fe : Env' → R D} {vs1 : List Nat} {ρ : Env'} {g : α → R (List γ)}
    (h : ∀ a, ∃ ρ1, tg (en a) ρ = .ok ρ1 ∧ ∀ v, g a = .ok v → ∃ ds1, fi1 ρ1 = .ok ds1 ∧ lcD tg1 ft1 fe (wipeD ρ1 vs1) ds1 = .ok (v.map en)) :
    ∀ (l : List α) (v : List γ), mapR2 g l = .ok v → lcD2 tg (fun _ => .ok true) fi1 vs1 tg1 ft1 fe ρ (l.map en) = .ok (v.map en)
  | [], v, e => by cases e; rfl
  | a :: l, v, e => by
    obtain ⟨ρ1, h1, h2⟩ := h a
    obtain ⟨b, e3, e4⟩ := bind_ok (show (g a >>= fun b => mapR2 g l >>= fun bs => .ok (b ++ bs)) = .ok v from e)
    obtain ⟨bs, e5, e6⟩ := bind_ok e4
    cases e6
    obtain ⟨ds1, h3, h4⟩ := h2 b e3
    rw [List.map_cons, lc2_is, h1, okb, okb, if_pos rfl, h3, okb, h4, okb, lc2_en h l bs e5, okb, List.map_append]
theorem v_map2 {vs vs1 : List Nat} {fi : Env' → R (List D)} {tg tg1 : D → Env' → R Env'} {fi1 : Env' → R (List D)} {fe : Env' → R D} {ρ : Env'} {xs : List α} {q : α → R (List β)} {f : α → β → R γ} (ρ1 : α → Env') (ρ2 : α → β → Env') (hi : fi ρ = .ok (xs.map en)) (hq : ∀ a, Ei (fi1 (ρ1 a)) (q a)) (hf : ∀ a b, Ev (fe (ρ2 a b)) (f a b))
    (hg : ∀ a, tg (en a) (wipeD ρ vs) = .ok (ρ1 a) := by intro _; rfl) (hg1 : ∀ a b, tg1 (en b) (wipeD (ρ1 a) vs1) = .ok (ρ2 a b) := by intro _ _; rfl) :
    EvL (compD2 vs vs1 fi tg (fun _ => .ok true) fi1 tg1 (fun _ => .ok true) fe ρ) (mapG2 (fun a => q a >>= fun ys => mapR (f a) ys) xs) := fun v e => by
  obtain ⟨ys, e1, e2⟩ := bind_ok (show (mapR2 (fun a => q a >>= fun ys => mapR (f a) ys) xs >>= fun ys => if ys.length ≤ 16777216 then .ok ys else stk) = .ok v from e)
  split at e2
  · rename_i hl
    cases e2
    show (fi ρ >>= fun ds => noX (lcD2 tg (fun _ => .ok true) fi1 vs1 tg1 (fun _ => .ok true) fe (wipeD ρ vs) ds) >>= fun ys => lenOk ys.length >>= fun _ => .ok (.list ys) : R D) = _
    rw [hi, okb, lc2_en (fun a => ⟨ρ1 a, hg a, fun v e => by
      obtain ⟨zs, e3, e4⟩ := bind_ok e
      exact ⟨_, hq a zs e3, lc_enM (fun b => ⟨ρ2 a b, hg1 a b, hf a b⟩) zs v e4⟩⟩) xs _ e1]
    show (lenOk (v.map en).length >>= fun _ => .ok (.list (v.map en)) : R D) = _
    rw [List.length_map, lenOk_i hl]; rfl
  · cases e2
theorem v_fil2 {vs vs1 : List Nat} {fi : Env' → R (List D)} {tg tg1 : D → Env' → R Env'} {ft1 : Env' → R Bool} {fi1 : Env' → R (List D)} {fe : Env' → R D} {ρ : Env'} {xs : List α} {q : α → R (List β)} {t : α → β → R Bool} {f : α → β → R γ} (ρ1 : α → Env') (ρ2 : α → β → Env') (hi : fi ρ = .ok (xs.map en)) (hq : ∀ a, Ei (fi1 (ρ1 a)) (q a)) (ht : ∀ a b, Et (ft1 (ρ2 a b)) (t a b)) (hf : ∀ a b, Ev (fe (ρ2 a b)) (f a b))
    (hg : ∀ a, tg (en a) (wipeD ρ vs) = .ok (ρ1 a) := by intro _; rfl) (hg1 : ∀ a b, tg1 (en b) (wipeD (ρ1 a) vs1) = .ok (ρ2 a b) := by intro _ _; rfl) :
    EvL (compD2 vs vs1 fi tg (fun _ => .ok true) fi1 tg1 ft1 fe ρ) (mapG2 (fun a => q a >>= fun ys => filR (t a) (f a) ys) xs) := fun v e => by
  obtain ⟨ys, e1, e2⟩ := bind_ok (show (mapR2 (fun a => q a >>= fun ys => filR (t a) (f a) ys) xs >>= fun ys => if ys.length ≤ 16777216 then .ok ys else stk) = .ok v from e)
  split at e2
  · rename_i hl
    cases e2
    show (fi ρ >>= fun ds => noX (lcD2 tg (fun _ => .ok true) fi1 vs1 tg1 ft1 fe (wipeD ρ vs) ds) >>= fun ys => lenOk ys.length >>= fun _ => .ok (.list ys) : R D) = _
    rw [hi, okb, lc2_en (fun a => ⟨ρ1 a, hg a, fun v e => by
      obtain ⟨zs, e3, e4⟩ := bind_ok e
      exact ⟨_, hq a zs e3, lc_en (fun b => ⟨ρ2 a b, hg1 a b, ht a b, hf a b⟩) zs v e4⟩⟩) xs _ e1]
    show (lenOk (v.map en).length >>= fun _ => .ok (.list (v.map en)) : R D) = _
    rw [List.length_map, lenOk_i hl]; rfl
  · cases e2
end
end Vt

set_option Elab.async false
set_option linter.all false
set_option maxRecDepth 100000
/-! The typed mirror: statements, loops, defs. -/
namespace Vt
open PySem PySem.Spec PyProof.Rows L2 Vs
open En (en)
/-- where the plain answer is g, the meaning ends with what W says of it -/
def Jm {γ : Type} (o : R Out) (p : R γ) (W : γ → Out → Prop) : Prop := ∀ g, p = .ok g → ∃ u, o = .ok u ∧ W g u
/-- at the end of a def -/
def WT {α : Type} [En α] (fr : Bool) : α → Out → Prop := fun v u => ret fr u = .ok (en v)
/-- behind a block that goes on -/
def WL {σ : Type} (L : σ → (Nat → Option D) → Env') : σ → Out → Prop := fun s u => ∃ j, u = .nx (L s j)
/-- .. that may return -/
def WR {σ β : Type} [En β] (L : σ → (Nat → Option D) → Env') : σ ⊕ β → Out → Prop := fun x u => match x with
  | .inl s => ∃ j, u = .nx (L s j)
  | .inr b => u = .rt (en b)
/-- a block at these slots -/
def ap (f : Env' → R Out) (ρ : Env') : R Out := f ρ
/-- the slots as they are -/
def jn (ρ : Env') (i : Nat) : Option D := (ρ[i]?).getD none
section
variable {α β γ δ κ σ τ : Type} [En α] [En β] [En κ] {o : R Out} {f g h : Env' → R Out} {ρ ρ' : Env'} {A B : R D} {T : R Bool} {fa fb : Env' → R D} {W : γ → Out → Prop} {p : R γ}
theorem jm_bind {m : R δ} {p : δ → R γ} (h : ∀ x, m = .ok x → Jm o (p x) W) : Jm o (m >>= p) W := fun v e => by
  obtain ⟨x, h1, h2⟩ := bind_ok e
  exact h x h1 v h2
theorem jm_stk : Jm o (stk : R γ) W := fun v e => nomatch e
theorem jm_ok {v : γ} (h : W v (.nx ρ)) : Jm (ap (fun ρ => .ok (.nx ρ)) ρ) (.ok v) W := fun g e => by cases e; exact ⟨.nx ρ, rfl, h⟩
theorem jm_o {o' : R Out} (h : o' = o) (j : Jm o p W) : Jm o' p W := h ▸ j
theorem seq_as (f g h : Env' → R Out) (ρ : Env') : seqD (seqD f g) h ρ = seqD f (seqD g h) ρ := by
  rw [seq_eq, seq_eq, seq_eq]
  cases f ρ with
  | error e => rfl
  | ok u => cases u <;> rfl
theorem jm_as (j : Jm (ap (seqD f (seqD g h)) ρ) p W) : Jm (ap (seqD (seqD f g) h) ρ) p W := jm_o (seq_as f g h ρ) j
theorem seq_last (f : Env' → R Out) (ρ : Env') : seqD f (fun ρ => .ok (.nx ρ)) ρ = f ρ := by
  rw [seq_eq]
  cases f ρ with
  | error e => rfl
  | ok u => cases u <;> rfl
theorem jm_last (j : Jm (ap (seqD f (fun ρ => .ok (.nx ρ))) ρ) p W) : Jm (ap f ρ) p W := jm_o (seq_last f ρ).symm j
theorem jm_first (j : Jm (ap g ρ) p W) : Jm (ap (seqD (fun ρ => .ok (.nx ρ)) g) ρ) p W := j
/-! ### plain statements, each with what follows -/
theorem jm_set {i : Nat} {x : α} (h : fa ρ = .ok (en x)) (ρ' : Env') (j : Jm (ap g ρ') p W) (e : ρ.set i (some (en x)) = ρ' := by rfl) : Jm (ap (seqD (fun ρ => fa ρ >>= fun d => setD i d ρ) g) ρ) p W := jm_o (by
  show seqD _ _ _ = _
  rw [seq_eq, h, okb]; show g (ρ.set i (some (en x))) = _; rw [e]; rfl) j
theorem jm_setL {i : Nat} {x : List α} (h : fa ρ = .ok (.list (x.map en))) (ρ' : Env') (j : Jm (ap g ρ') p W) (e : ρ.set i (some (.list (x.map en))) = ρ' := by rfl) : Jm (ap (seqD (fun ρ => fa ρ >>= fun d => setD i d ρ) g) ρ) p W := jm_o (by
  show seqD _ _ _ = _
  rw [seq_eq, h, okb]; show g (ρ.set i _) = _; rw [e]; rfl) j
theorem jm_ex {x : α} (h : fa ρ = .ok (en x)) (j : Jm (ap g ρ) p W) : Jm (ap (seqD (fun ρ => fa ρ >>= fun _ => .ok (.nx ρ)) g) ρ) p W := jm_o (by show seqD _ _ _ = _; rw [seq_eq, h]; rfl) j
theorem jm_tg {x : α} {tg : D → Env' → R Env'} (h : fa ρ = .ok (en x)) (ρ' : Env') (j : Jm (ap g ρ') p W) (e : tg (en x) ρ = .ok ρ' := by rfl) : Jm (ap (seqD (fun ρ => fa ρ >>= fun d => tg d ρ >>= fun ρ' => .ok (.nx ρ')) g) ρ) p W := jm_o (by
  show seqD _ _ _ = _
  rw [seq_eq, h, okb, e]; rfl) j
theorem jm_par {i k : Nat} {fs : Env' → R (List D)} {x : α} {y : β} (h : fs ρ = .ok [en x, en y]) (ρ' : Env') (j : Jm (ap g ρ') p W) (e : (ρ.set i (some (en x))).set k (some (en y)) = ρ' := by rfl) :
    Jm (ap (seqD (fun ρ => fs ρ >>= fun ds => match ds with | [d1, d2] => .ok (.nx ((ρ.set i (some d1)).set k (some d2))) | _ => stk) g) ρ) p W := jm_o (by
  show seqD _ _ _ = _
  rw [seq_eq, h, okb]; show g _ = _; rw [e]; rfl) j
def apG (xs : List α) (x : α) : R (List α) := if xs.length < 16777216 then .ok (xs ++ [x]) else stk
theorem jm_app {i : Nat} {xs : List α} {x : α} {v : List α} (h0 : gv ρ i = .ok (.list (xs.map en))) (h : fa ρ = .ok (en x)) (hv : apG xs x = .ok v) (ρ' : Env') (j : Jm (ap g ρ') p W) (e : ρ.set i (some (.list (v.map en))) = ρ' := by rfl) :
    Jm (ap (seqD (fun ρ => gl ρ i >>= fun xs => fa ρ >>= fun d => apD i xs d ρ) g) ρ) p W := jm_o (by
  unfold apG at hv
  split at hv
  · rename_i hl
    cases hv
    show seqD _ _ _ = _
    rw [seq_eq, gl_en h0, okb, h, okb]
    show ((if (xs.map en).length < 16777216 then setD i (.list (xs.map en ++ [en x])) ρ else stk) >>= _) = _
    rw [if_pos (by rw [List.length_map]; exact hl)]
    show g (ρ.set i (some (.list (xs.map en ++ [en x])))) = _
    rw [← e, List.map_append]; rfl
  · cases hv) j
def exG (xs ys : List α) : R (List α) := if xs.length + ys.length ≤ 16777216 then .ok (xs ++ ys) else stk
theorem jm_ext {i : Nat} {xs ys v : List α} (h0 : gv ρ i = .ok (.list (xs.map en))) (h : fa ρ = .ok (.list (ys.map en))) (hv : exG xs ys = .ok v) (ρ' : Env') (j : Jm (ap g ρ') p W) (e : ρ.set i (some (.list (v.map en))) = ρ' := by rfl) :
    Jm (ap (seqD (fun ρ => gl ρ i >>= fun xs => fa ρ >>= fun d => exD i xs d ρ) g) ρ) p W := jm_o (by
  unfold exG at hv
  split at hv
  · rename_i hl
    cases hv
    show seqD _ _ _ = _
    rw [seq_eq, gl_en h0, okb, h, okb]
    show ((if (xs.map en).length + (ys.map en).length ≤ 16777216 then setD i (.list (xs.map en ++ ys.map en)) ρ else stk) >>= _) = _
    rw [if_pos (by rw [List.length_map, List.length_map]; exact hl)]
    show g (ρ.set i (some (.list (xs.map en ++ ys.map en)))) = _
    rw [← e, List.map_append]; rfl
  · cases hv) j
def dcP [DecidableEq κ] (d : Dc κ α) (k : κ) (v : α) : Dc κ α := ⟨if d.l.any (fun p => decide (p.1 = k)) then d.l.map (fun p => if p.1 = k then (p.1, v) else p) else d.l ++ [(k, v)]⟩
def dpG [DecidableEq κ] (d : Dc κ α) (k : κ) (v : α) : R (Dc κ α) := if d.l.length < 16777216 then .ok (dcP d k v) else stk
theorem dput_en [DecidableEq κ] (hk : Kyk κ) (d : Dc κ α) (k : κ) (v : α) : dput (d.l.map eKv) (en k) (en v) = (dcP d k v).l.map eKv := by
  have e : ∀ q : κ × α, PyData.eqv (eKv q).1 (en k) = decide (q.1 = k) := fun q => hk.eqv q.1 k
  unfold dput dcP
  rw [List.any_map, show ((fun q : D × D => PyData.eqv q.1 (en k)) ∘ eKv : κ × α → Bool) = fun q => decide (q.1 = k) from funext e]
  split
  · rw [List.map_map, List.map_map]
    refine List.map_congr_left fun q _ => ?_
    show (if PyData.eqv (eKv q).1 (en k) = true then ((eKv q).1, en v) else eKv q) = eKv (if q.1 = k then (q.1, v) else q)
    rw [e q]
    by_cases h : q.1 = k
    · rw [decide_eq_true h, if_pos rfl, if_pos h]; rfl
    · rw [decide_eq_false h, if_neg Bool.false_ne_true, if_neg h]
  · rw [List.map_append]; rfl
theorem jm_put [DecidableEq κ] {i : Nat} {d d' : Dc κ α} {k : κ} {v : α} (hk : Kyk κ) (h0 : gv ρ i = .ok (en d)) (h1 : fb ρ = .ok (en k)) (h : fa ρ = .ok (en v)) (hv : dpG d k v = .ok d') (ρ' : Env') (j : Jm (ap g ρ') p W) (e : ρ.set i (some (en d')) = ρ' := by rfl) :
    Jm (ap (seqD (fun ρ => fa ρ >>= fun v => gk ρ i >>= fun kvs => fb ρ >>= fun k => dpD i kvs k v ρ) g) ρ) p W := jm_o (by
  unfold dpG at hv
  split at hv
  · rename_i hl
    cases hv
    show seqD _ _ _ = _
    rw [seq_eq, h, okb, gk_en h0, okb, h1, okb]
    show ((if putOk (d.l.map eKv) (en k) = true ∧ (d.l.map eKv).length < 16777216 then setD i (.dict (dput (d.l.map eKv) (en k) (en v))) ρ else stk) >>= _) = _
    rw [if_pos ⟨putOk_en hk _ _, by rw [List.length_map]; exact hl⟩, dput_en hk]
    show g (ρ.set i (some (.dict ((dcP d k v).l.map eKv)))) = _
    rw [← e]; rfl
  · cases hv) j
/-! ### dict displays -/
theorem e_d0 : (.ok (.dict []) : R D) = .ok (en (Dc.mk ([] : List (κ × α)))) := rfl
theorem e_d1 [DecidableEq κ] {k : κ} {v : α} (hk : Kyk κ) (h : A = .ok (en k)) (h2 : B = .ok (en v)) : ((A >>= fun x => B >>= fun y => .ok [] >>= fun ps => .ok ((x, y) :: ps)) >>= fun ps => lenOk ps.length >>= fun _ => noX (dputs [] ps) >>= fun kvs => .ok (.dict kvs)) = .ok (en (Dc.mk [(k, v)])) := by
  subst h h2
  show (noX (if putOk [] (en k) = true then .ok (dput [] (en k) (en v)) else stk : R (List (D × D))) >>= fun kvs => .ok (.dict kvs) : R D) = _
  have := putOk_en (α := α) hk [] k
  rw [List.map_nil] at this
  rw [if_pos this]
  rfl
/-! ### return, if -/
theorem jm_ret {v : γ} (d : D) (h : fa ρ = .ok d) (hw : W v (.rt d)) : Jm (ap (fun ρ => fa ρ >>= fun d => .ok (.rt d)) ρ) (.ok v) W := fun g e => by
  cases e
  exact ⟨.rt d, by show (fa ρ >>= fun d => _) = _; rw [h]; rfl, hw⟩
theorem jm_retS {v : γ} (d : D) (h : fa ρ = .ok d) (hw : W v (.rt d)) : Jm (ap (seqD (fun ρ => fa ρ >>= fun d => .ok (.rt d)) g) ρ) (.ok v) W := fun z e => by
  cases e
  exact ⟨.rt d, by show seqD _ _ _ = _; rw [seq_eq, h]; rfl, hw⟩
theorem jm_if {b : Bool} {ft : Env' → R Bool} {p q : R γ} (h : ft ρ = .ok b) (h1 : b = true → Jm (ap f ρ) p W) (h2 : b = false → Jm (ap g ρ) q W) : Jm (ap (fun ρ => ft ρ >>= fun k => if k then f ρ else g ρ) ρ) (if b then p else q) W := by
  show Jm (ft ρ >>= fun k => if k then f ρ else g ρ) _ W
  rw [h]
  cases b
  · exact h2 rfl
  · exact h1 rfl
theorem jm_ifs {b : Bool} {ft : Env' → R Bool} {p q : R γ} (h1' : ft ρ = .ok b) (h1 : b = true → Jm (ap (seqD f h) ρ) p W) (h2 : b = false → Jm (ap (seqD g h) ρ) q W) : Jm (ap (seqD (fun ρ => ft ρ >>= fun k => if k then f ρ else g ρ) h) ρ) (if b then p else q) W := by
  have e : seqD (fun ρ => ft ρ >>= fun k => if k then f ρ else g ρ) h ρ = if b then seqD f h ρ else seqD g h ρ := by
    show seqD _ _ _ = _
    rw [seq_eq, h1', okb]
    cases b <;> rfl
  show Jm (seqD (fun ρ => ft ρ >>= fun k => if k then f ρ else g ρ) h ρ) _ W
  rw [e]
  cases b
  · exact h2 rfl
  · exact h1 rfl
/-- a block that goes on, and what follows -/
theorem jm_seq {m : R σ} {q : σ → R γ} (L : σ → (Nat → Option D) → Env') (h1 : Jm (ap f ρ) m (WL L)) (h2 : ∀ s j, Jm (ap g (L s j)) (q s) W) : Jm (ap (seqD f g) ρ) (m >>= q) W := fun v e => by
  obtain ⟨s, e1, e2⟩ := bind_ok e
  obtain ⟨u, e3, j, rfl⟩ := h1 s e1
  have e3' : f ρ = _ := e3
  obtain ⟨u, e4, e5⟩ := h2 s j v e2
  exact ⟨u, by show seqD _ _ _ = _; rw [seq_eq, e3']; exact e4, e5⟩
def onR {σ β γ : Type} (m : R (σ ⊕ β)) (q : σ → R γ) (k : β → R γ) : R γ := m >>= fun x => match x with
  | .inl s => q s
  | .inr b => k b
theorem jm_seqR {m : R (σ ⊕ β)} {q : σ → R γ} {k : β → γ} (L : σ → (Nat → Option D) → Env') (h1 : Jm (ap f ρ) m (WR L)) (h2 : ∀ s j, Jm (ap g (L s j)) (q s) W) (h3 : ∀ b, W (k b) (.rt (en b))) :
    Jm (ap (seqD f g) ρ) (onR m q fun b => .ok (k b)) W := fun v e => by
  unfold onR at e
  obtain ⟨s, e1, e2⟩ := bind_ok e
  obtain ⟨u, e3, e4⟩ := h1 s e1
  have e3' : f ρ = _ := e3
  cases s with
  | inl s =>
    obtain ⟨j, rfl⟩ := e4
    obtain ⟨u, e4, e5⟩ := h2 s j v e2
    exact ⟨u, by show seqD _ _ _ = _; rw [seq_eq, e3']; exact e4, e5⟩
  | inr b =>
    cases e2
    have e4 : u = .rt (en b) := e4
    subst e4
    exact ⟨_, by show seqD _ _ _ = _; rw [seq_eq, e3']; rfl, h3 b⟩
/-! ### loops -/
def forS (pb : δ → σ → R σ) : List δ → σ → R σ
  | [], s => .ok s
  | x :: xs, s => pb x s >>= fun s => forS pb xs s
def forR (pb : δ → σ → R (σ ⊕ τ)) : List δ → σ → R (σ ⊕ τ)
  | [], s => .ok (.inl s)
  | x :: xs, s => pb x s >>= fun r => match r with
    | .inl s => forR pb xs s
    | .inr b => .ok (.inr b)
def whS (pt : σ → R Bool) (pb : σ → R σ) : Nat → σ → R σ
  | 0, _ => stk
  | n + 1, s => pt s >>= fun c => if c then pb s >>= fun s => whS pt pb n s else .ok s
def whR (pt : σ → R Bool) (pb : σ → R (σ ⊕ τ)) : Nat → σ → R (σ ⊕ τ)
  | 0, _ => stk
  | n + 1, s => pt s >>= fun c => if c then pb s >>= fun r => match r with
      | .inl s => whR pt pb n s
      | .inr b => .ok (.inr b)
    else .ok (.inl s)
theorem for_en {tg : D → Env' → R Env'} {pb : α → σ → R σ} (L : σ → (Nat → Option D) → Env') (hb : ∀ x s j, Jm (tg (en x) (L s j) >>= f) (pb x s) (WL L)) : ∀ (xs : List α) (s : σ) (j : Nat → Option D), Jm (forD tg f (xs.map en) (L s j)) (forS pb xs s) (WL L)
  | [], s, j => fun g e => by cases e; exact ⟨_, rfl, j, rfl⟩
  | x :: xs, s, j => fun g e => by
    obtain ⟨s', e1, e2⟩ := bind_ok (show (pb x s >>= fun s => forS pb xs s) = .ok g from e)
    obtain ⟨u, e3, j', rfl⟩ := hb x s j s' e1
    obtain ⟨u, e4, e5⟩ := for_en L hb xs s' j' g e2
    refine ⟨u, ?_, e5⟩
    rw [List.map_cons, for_is, e3, okb]
    exact e4
theorem for_enR {tg : D → Env' → R Env'} {pb : α → σ → R (σ ⊕ β)} (L : σ → (Nat → Option D) → Env') (hb : ∀ x s j, Jm (tg (en x) (L s j) >>= f) (pb x s) (WR L)) : ∀ (xs : List α) (s : σ) (j : Nat → Option D), Jm (forD tg f (xs.map en) (L s j)) (forR pb xs s) (WR L)
  | [], s, j => fun g e => by cases e; exact ⟨_, rfl, j, rfl⟩
  | x :: xs, s, j => fun g e => by
    unfold forR at e
    obtain ⟨r, e1, e2⟩ := bind_ok e
    obtain ⟨u, e3, e4⟩ := hb x s j r e1
    cases r with
    | inl s' =>
      obtain ⟨j', rfl⟩ := e4
      obtain ⟨u, e4, e5⟩ := for_enR L hb xs s' j' g e2
      refine ⟨u, ?_, e5⟩
      rw [List.map_cons, for_is, e3, okb]
      exact e4
    | inr b =>
      have e4 : u = .rt (en b) := e4
      subst e4
      cases e2
      exact ⟨_, by rw [List.map_cons, for_is, e3]; rfl, rfl⟩
theorem jm_for {fi : Env' → R (List D)} {tg : D → Env' → R Env'} {pb : α → σ → R σ} {xs : List α} {s0 : σ} (L : σ → (Nat → Option D) → Env') (hi : fi ρ = .ok (xs.map en)) (hb : ∀ x s j, Jm (tg (en x) (L s j) >>= f) (pb x s) (WL L)) (h0 : L s0 (jn ρ) = ρ := by rfl) :
    Jm (ap (fun ρ => fi ρ >>= fun ds => forD tg f ds ρ) ρ) (forS pb xs s0) (WL L) := by
  have := for_en L hb xs s0 (jn ρ)
  rw [h0] at this
  exact jm_o (by show (fi ρ >>= fun ds => _) = _; rw [hi]; rfl) this
theorem jm_forR {fi : Env' → R (List D)} {tg : D → Env' → R Env'} {pb : α → σ → R (σ ⊕ β)} {xs : List α} {s0 : σ} (L : σ → (Nat → Option D) → Env') (hi : fi ρ = .ok (xs.map en)) (hb : ∀ x s j, Jm (tg (en x) (L s j) >>= f) (pb x s) (WR L)) (h0 : L s0 (jn ρ) = ρ := by rfl) :
    Jm (ap (fun ρ => fi ρ >>= fun ds => forD tg f ds ρ) ρ) (forR pb xs s0) (WR L) := by
  have := for_enR L hb xs s0 (jn ρ)
  rw [h0] at this
  exact jm_o (by show (fi ρ >>= fun ds => _) = _; rw [hi]; rfl) this
theorem jm_go {x : α} {tg : D → Env' → R Env'} (ρ' : Env') (j : Jm (ap f ρ') p W) (e : tg (en x) ρ = .ok ρ' := by rfl) : Jm (tg (en x) ρ >>= f) p W := jm_o (by rw [e]; rfl) j
theorem wh_en {fw : Env' → R Bool} {pt : σ → R Bool} {pb : σ → R σ} (L : σ → (Nat → Option D) → Env') (ht : ∀ s j, Et (fw (L s j)) (pt s)) (hb : ∀ s j, Jm (f (L s j)) (pb s) (WL L)) : ∀ (n : Nat) (s : σ) (j : Nat → Option D), Jm (whileD fw f n (L s j)) (whS pt pb n s) (WL L)
  | 0, s, j => jm_stk
  | n + 1, s, j => fun g e => by
    obtain ⟨c, e1, e2⟩ := bind_ok (show (pt s >>= fun c => if c then pb s >>= fun s => whS pt pb n s else .ok s) = .ok g from e)
    rw [wh_is, ht s j c e1, okb]
    cases c with
    | false =>
      cases e2
      exact ⟨_, rfl, j, rfl⟩
    | true =>
      obtain ⟨s', e3, e4⟩ := bind_ok (show (pb s >>= fun s => whS pt pb n s) = .ok g from e2)
      obtain ⟨u, e5, j', rfl⟩ := hb s j s' e3
      obtain ⟨u, e6, e7⟩ := wh_en L ht hb n s' j' g e4
      refine ⟨u, ?_, e7⟩
      rw [if_pos rfl, e5, okb]
      exact e6
theorem wh_enR {fw : Env' → R Bool} {pt : σ → R Bool} {pb : σ → R (σ ⊕ β)} (L : σ → (Nat → Option D) → Env') (ht : ∀ s j, Et (fw (L s j)) (pt s)) (hb : ∀ s j, Jm (f (L s j)) (pb s) (WR L)) : ∀ (n : Nat) (s : σ) (j : Nat → Option D), Jm (whileD fw f n (L s j)) (whR pt pb n s) (WR L)
  | 0, s, j => jm_stk
  | n + 1, s, j => fun g e => by
    unfold whR at e
    obtain ⟨c, e1, e2⟩ := bind_ok e
    rw [wh_is, ht s j c e1, okb]
    cases c with
    | false =>
      cases e2
      exact ⟨_, rfl, j, rfl⟩
    | true =>
      rw [if_pos rfl] at e2
      obtain ⟨r, e3, e4⟩ := bind_ok e2
      obtain ⟨u, e5, e6⟩ := hb s j r e3
      cases r with
      | inl s' =>
        obtain ⟨j', rfl⟩ := e6
        obtain ⟨u, e6, e7⟩ := wh_enR L ht hb n s' j' g e4
        refine ⟨u, ?_, e7⟩
        rw [if_pos rfl, e5, okb]
        exact e6
      | inr b =>
        have e6 : u = .rt (en b) := e6
        subst e6
        cases e4
        exact ⟨_, by rw [if_pos rfl, e5]; rfl, rfl⟩
theorem jm_wh {fw : Env' → R Bool} {pt : σ → R Bool} {pb : σ → R σ} {n : Nat} {s0 : σ} (L : σ → (Nat → Option D) → Env') (ht : ∀ s j, Et (fw (L s j)) (pt s)) (hb : ∀ s j, Jm (ap f (L s j)) (pb s) (WL L)) (h0 : L s0 (jn ρ) = ρ := by rfl) : Jm (ap (whileD fw f n) ρ) (whS pt pb n s0) (WL L) := by
  have := wh_en L ht hb n s0 (jn ρ)
  rw [h0] at this
  exact this
theorem jm_whR {fw : Env' → R Bool} {pt : σ → R Bool} {pb : σ → R (σ ⊕ β)} {n : Nat} {s0 : σ} (L : σ → (Nat → Option D) → Env') (ht : ∀ s j, Et (fw (L s j)) (pt s)) (hb : ∀ s j, Jm (ap f (L s j)) (pb s) (WR L)) (h0 : L s0 (jn ρ) = ρ := by rfl) : Jm (ap (whileD fw f n) ρ) (whR pt pb n s0) (WR L) := by
  have := wh_enR L ht hb n s0 (jn ρ)
  rw [h0] at this
  exact this
/-- a def -/
theorem v_def {m : Env' → R Out} {n : Nat} {ds : List D} {fr : Bool} {p : R α} (ρ : Env') (j : Jm (ap m ρ) p (WT fr)) (e : arg0 n ds = ρ := by rfl) : Ev (noX (m (arg0 n ds)) >>= ret fr) p := fun v h => by
  obtain ⟨u, e1, e2⟩ := j v h
  have e1' : m ρ = _ := e1
  rw [e, e1']
  exact e2
end
end Vt

set_option Elab.async false
set_option linter.all false
set_option maxRecDepth 100000
namespace Vt
open PySem PySem.Spec PyProof.Rows L2 Vs
open En (en)
theorem i_bind {α γ : Type} [En α] {r : R (List D)} {m : R γ} {p : γ → R (List α)} (h : ∀ x, m = .ok x → Ei r (p x)) : Ei r (m >>= p) := fun v e => by
  obtain ⟨x, h1, h2⟩ := bind_ok e
  exact h x h1 v h2
theorem atR_ok {α : Type} {l : List α} {i : Int} (h0 : 0 ≤ i) (h1 : i < l.length) : ∃ a, a ∈ l ∧ atR l i = .ok a := by
  have h5 : i = (i.toNat : Int) := (Int.toNat_of_nonneg h0).symm
  have h6 : i.toNat < l.length := by omega
  refine ⟨l[i.toNat], List.getElem_mem h6, ?_⟩
  have h7 := L2.atI_nat (List.getElem?_eq_getElem h6)
  rw [← h5] at h7
  unfold atR
  rw [h7]
  rfl
/-! ### the shared defs of the laws -/
def pm_mix (draws_ : (List Int)) (k_ : Int) (many_ : Int) : R Int := .ok ((0 : Int) : Int) >>= fun cell_there__1 => (if decide ((0 : Int) < (draws_.length : Int)) then modG k_ (draws_.length : Int) >>= fun i_3 => atR draws_ i_3 >>= fun v_4 => .ok v_4 else .ok cell_there__1 : R Int) >>= fun s_5 => (if decide (k_ < (draws_.length : Int)) then modG s_5 many_ >>= fun i_8 => .ok i_8 else modG (((s_5 * (7919 : Int)) + (k_ * (104729 : Int))) / (3 : Int)) many_ >>= fun i_9 => .ok i_9)
theorem mixT {zs : List Int} {k many : Int} (hk : 0 ≤ k) (hm : 0 < many) : ∃ r : Int, 0 ≤ r ∧ r < many ∧ pm_mix zs k many = .ok r := by
  have key : ∀ v : Int, ∃ r : Int, 0 ≤ r ∧ r < many ∧ (if decide (k < (zs.length : Int)) then modG v many >>= fun i_8 => .ok i_8 else modG (((v * (7919 : Int)) + (k * (104729 : Int))) / (3 : Int)) many >>= fun i_9 => .ok i_9 : R Int) = .ok r := by
    intro v
    have hmod : ∀ v : Int, 0 ≤ v % many ∧ v % many < many := fun v => ⟨Int.emod_nonneg _ (by omega), Int.emod_lt_of_pos _ hm⟩
    by_cases h : k < (zs.length : Int)
    · exact ⟨v % many, (hmod _).1, (hmod _).2, by rw [decide_eq_true h, if_pos rfl]; unfold modG; rw [if_pos hm]; rfl⟩
    · exact ⟨((v * (7919 : Int)) + (k * (104729 : Int))) / (3 : Int) % many, (hmod _).1, (hmod _).2, by rw [decide_eq_false h, if_neg Bool.false_ne_true]; unfold modG; rw [if_pos hm]; rfl⟩
  unfold pm_mix
  rw [okb]
  by_cases hz : (0 : Int) < (zs.length : Int)
  · rw [decide_eq_true hz, if_pos rfl]
    have h1 : modG k (zs.length : Int) = .ok (k % zs.length) := by unfold modG; rw [if_pos hz]
    obtain ⟨v, _, hv⟩ := atR_ok (l := zs) (Int.emod_nonneg k (show (zs.length : Int) ≠ 0 by omega)) (Int.emod_lt_of_pos k hz)
    rw [h1, okb, hv, okb, okb]
    exact key v
  · rw [decide_eq_false hz, if_neg Bool.false_ne_true, okb]
    exact key 0

/-- a loop that goes on each time -/
theorem forR_inl {δ τ : Type} {pb : δ → Unit → R (Unit ⊕ τ)} : ∀ (xs : List δ), (∀ x ∈ xs, pb x () = .ok (.inl ())) → forR pb xs () = .ok (.inl ())
  | [], _ => rfl
  | x :: xs, h => by
    rw [forR, h x List.mem_cons_self]
    exact forR_inl xs fun x hx => h x (List.mem_cons_of_mem _ hx)
theorem mem_rgI {lo : Int} {n : Nat} {x : Int} (h : x ∈ rgI lo n) : lo ≤ x ∧ x < lo + n := by
  unfold rgI at h
  obtain ⟨i, hi, rfl⟩ := List.mem_map.mp h
  have := List.mem_range.mp hi
  omega
end Vt

set_option Elab.async false
set_option linter.all false
set_option maxRecDepth 100000
/-! The typed mirror: zip, gcd, dict comprehensions, sorted, count. -/
namespace Vt
open PySem PySem.Spec PyProof.Rows L2 Vs
open En (en)
section
variable {α β γ κ : Type} [En α] [En β] [En γ] [En κ] {L : R (List D)} {A B : R D}
/-! ### zip -/
theorem sz_l {xs : List α} : seqZ (.list (xs.map en)) = .ok (xs.map en) := rfl
theorem sz_t {t : Tu α} : seqZ (en t) = .ok (t.l.map en) := rfl
theorem sz_s {x : Tx} : seqZ (en x) = .ok ((sgs x).map en) := by
  show (.ok ((tx (x.map Fin.val)).cps.toList.map fun c => PyData.str ⟨#[c]⟩) : R (List D)) = _
  rw [sgs_en]
theorem zip2_en : ∀ (xs : List α) (ys : List β), zip2L (xs.map en) (ys.map en) = (xs.zip ys).map en
  | [], _ => rfl
  | _ :: _, [] => rfl
  | x :: xs, y :: ys => congrArg (PyData.tuple [en x, en y] :: ·) (zip2_en xs ys)
theorem i_z2 {dx dy : D} {xs : List α} {ys : List β} (h : L = .ok [dx, dy]) (hx : seqZ dx = .ok (xs.map en)) (hy : seqZ dy = .ok (ys.map en)) : (L >>= zip2D) = .ok ((xs.zip ys).map en) := by
  subst h
  show (seqZ dx >>= fun xs => seqZ dy >>= fun ys => .ok (zip2L xs ys)) = _
  rw [hx, okb, hy, okb, zip2_en]
def zip3T : List α → List β → List γ → List (T3 α β γ)
  | x :: xs, y :: ys, z :: zs => ⟨x, y, z⟩ :: zip3T xs ys zs
  | _, _, _ => []
theorem zip3_en : ∀ (xs : List α) (ys : List β) (zs : List γ), zip3L (xs.map en) (ys.map en) (zs.map en) = (zip3T xs ys zs).map en
  | [], _, _ => rfl
  | _ :: _, [], _ => rfl
  | _ :: _, _ :: _, [] => rfl
  | x :: xs, y :: ys, z :: zs => congrArg (PyData.tuple [en x, en y, en z] :: ·) (zip3_en xs ys zs)
theorem i_z3 {dx dy dz : D} {xs : List α} {ys : List β} {zs : List γ} (h : L = .ok [dx, dy, dz]) (hx : seqZ dx = .ok (xs.map en)) (hy : seqZ dy = .ok (ys.map en)) (hz : seqZ dz = .ok (zs.map en)) : (L >>= zip3D) = .ok ((zip3T xs ys zs).map en) := by
  subst h
  show (seqZ dx >>= fun xs => seqZ dy >>= fun ys => seqZ dz >>= fun rs => .ok (zip3L xs ys rs)) = _
  rw [hx, okb, hy, okb, hz, okb, zip3_en]
/-! ### gcd, wide // -/
theorem e_gcd {a b : Int} (h : L = .ok [en a, en b]) : (L >>= gcdD) = .ok (en ((Nat.gcd a.natAbs b.natAbs : Nat) : Int)) := by subst h; rfl
def fdivWG (a b : Int) : R Int := if 0 < b ∧ b < 18446744073709551616 then .ok (a / b) else stk
theorem v_fdivW {a b : Int} (h : A = .ok (en a)) (h2 : B = .ok (en b)) : Ev (A >>= fun x => B >>= fun y => fdivW x y) (fdivWG a b) := fun v e => by
  unfold fdivWG at e
  split at e
  · rename_i hc
    cases e
    subst h h2
    show (if 0 < b ∧ b < 18446744073709551616 then .ok (.int (a / b)) else stk : R D) = _
    rw [if_pos hc]; rfl
  · cases e
/-! ### a, b, c = x, y, z -/
theorem jm_par3 {δ : Type} {f g : Env' → R Out} {ρ : Env'} {W : δ → Out → Prop} {p : R δ} {i k l : Nat} {fs : Env' → R (List D)} {x : α} {y : β} {z : γ} (h : fs ρ = .ok [en x, en y, en z]) (ρ' : Env') (j : Jm (ap g ρ') p W) (e : ((ρ.set i (some (en x))).set k (some (en y))).set l (some (en z)) = ρ' := by rfl) :
    Jm (ap (seqD (fun ρ => fs ρ >>= fun ds => match ds with | [d1, d2, d3] => .ok (.nx (((ρ.set i (some d1)).set k (some d2)).set l (some d3))) | _ => stk) g) ρ) p W := jm_o (by
  show seqD _ _ _ = _
  rw [seq_eq, h, okb]; show g _ = _; rw [e]; rfl) j
/-! ### xs.count(x) -/
theorem e_cntL [DecidableEq α] [EqvO α] [s : Sh α] {l : List α} {a : α} (h : A = .ok (.list (l.map en))) (h2 : B = .ok (en a)) (hs : s.n + 1 ≤ 64 := by decide) : (A >>= fun x => itL x >>= fun _ => B >>= fun y => countLD x y) = .ok (en ((l.countP fun z => decide (z = a) : Nat) : Int)) := by
  subst h h2
  show (if SeqAt.shaped (.list (l.map en)) = true ∧ SeqAt.shaped (en a) = true then .ok (.int ((l.map en).countP fun z => PyData.eqv z (en a) : Nat)) else stk : R D) = _
  rw [if_pos ⟨shp (α := List α) hs l, shp (by omega) a⟩, List.countP_map]
  have : ((fun z => PyData.eqv z (en a)) ∘ en : α → Bool) = fun z => decide (z = a) := funext fun z => EqvO.eqv z a
  rw [this]; rfl
/-! ### sorted -/
def insT (x : α) : List α → List α
  | [] => [x]
  | y :: r => if !ltT y x then x :: y :: r else y :: insT x r
def isortT : List α → List α
  | [] => []
  | x :: r => insT x (isortT r)
theorem insT_en (x : α) : ∀ l : List α, insD (en x) (l.map en) = (insT x l).map en
  | [] => rfl
  | y :: r => by
    show (if insD.dle (en x) (en y) then en x :: en y :: r.map en else en y :: insD (en x) (r.map en)) = (if !ltT y x then x :: y :: r else y :: insT x r).map en
    have e : insD.dle (en x) (en y) = !ltT y x := rfl
    rw [e, insT_en x r]
    cases !ltT y x <;> rfl
theorem isortT_en : ∀ l : List α, isort (l.map en) = (isortT l).map en
  | [] => rfl
  | x :: r => by
    show insD (en x) (isort (r.map en)) = _
    rw [isortT_en r, insT_en]; rfl
def srtG (xs : List α) : R (List α) := if srtOk (xs.map en) = true ∧ xs.length ≤ 16777216 then .ok (isortT xs) else stk
theorem v_srt {xs : List α} (h : L = .ok [.list (xs.map en)]) : EvL (L >>= sortedD) (srtG xs) := fun v e => by
  unfold srtG at e
  split at e
  · rename_i hc
    cases e
    subst h
    show srt (xs.map en) = _
    unfold srt
    rw [if_pos ⟨hc.1, by rw [List.length_map, sizeLine_eq]; exact hc.2⟩, isortT_en]
  · cases e
def ssG (ns : List Int) : R (List Int) := if ns.length + 1 < 64 then .ok (isortI (once ns)) else stk
theorem ints_en : ∀ ns : List Int, ints? (ns.map (en : Int → D)) = some ns
  | [] => rfl
  | n :: ns => by
    show (ints? (ns.map (en : Int → D))).map (n :: ·) = _
    rw [ints_en ns]; rfl
theorem v_sset {ns : List Int} (h : A = .ok (.list (ns.map en))) : EvL (A >>= fun x => ssetD x) (ssG ns) := fun v e => by
  unfold ssG at e
  split at e
  · rename_i hc
    cases e
    subst h
    show (opt (ints? (ns.map (en : Int → D))) >>= fun ns => if ns.length + 1 < 64 then .ok (.list ((isortI (once ns)).map .int)) else stk : R D) = _
    rw [ints_en]
    show (if ns.length + 1 < 64 then .ok (.list ((isortI (once ns)).map .int)) else stk : R D) = _
    rw [if_pos hc]; rfl
  · cases e
/-! ### {k: v for ..} -/
def dcR [DecidableEq κ] (gk : α → R κ) (gv : α → R β) : List α → Dc κ β → R (Dc κ β)
  | [], acc => .ok acc
  | a :: l, acc => gk a >>= fun k => gv a >>= fun v => dcR gk gv l (dcP acc k v)
def dcT [DecidableEq κ] (gk : α → R κ) (gv : α → R β) (xs : List α) : R (Dc κ β) := if xs.length ≤ 16777216 then dcR gk gv xs ⟨[]⟩ else stk
theorem dc_is (tg : D → Env' → R Env') (ft : Env' → R Bool) (fk fv : Env' → R D) (ρ : Env') (d : D) (ds : List D) (acc : List (D × D)) : dcL tg ft fk fv ρ (d :: ds) acc = (tg d ρ >>= fun ρ1 => ft ρ1 >>= fun b => if b then fk ρ1 >>= fun k => fv ρ1 >>= fun v => if (atomK k).isSome = true then dcL tg ft fk fv ρ ds (dput acc k v) else stk else dcL tg ft fk fv ρ ds acc) := rfl
theorem dcL_en [DecidableEq κ] (hk : Kyk κ) (ha : ∀ k : κ, (atomK (en k)).isSome = true) {tg : D → Env' → R Env'} {fk fv : Env' → R D} {ρ : Env'} {gk : α → R κ} {gv : α → R β} (h : ∀ a, ∃ ρ1, tg (en a) ρ = .ok ρ1 ∧ Ev (fk ρ1) (gk a) ∧ Ev (fv ρ1) (gv a)) :
    ∀ (l : List α) (acc v : Dc κ β), dcR gk gv l acc = .ok v → dcL tg (fun _ => .ok true) fk fv ρ (l.map en) (acc.l.map eKv) = .ok (v.l.map eKv)
  | [], acc, v, e => by cases e; rfl
  | a :: l, acc, v, e => by
    obtain ⟨ρ1, h1, h2, h3⟩ := h a
    obtain ⟨k, e1, e2⟩ := bind_ok (show (gk a >>= fun k => gv a >>= fun v => dcR gk gv l (dcP acc k v)) = .ok v from e)
    obtain ⟨x, e3, e4⟩ := bind_ok e2
    rw [List.map_cons, dc_is, h1, okb, okb, if_pos rfl, h2 k e1, okb, h3 x e3, okb, if_pos (ha k), dput_en hk]
    exact dcL_en hk ha h l _ v e4
theorem v_dc [DecidableEq κ] (hk : Kyk κ) {vs : List Nat} {fi : Env' → R (List D)} {tg : D → Env' → R Env'} {fk fv : Env' → R D} {ρ : Env'} {gk : α → R κ} {gv : α → R β} {xs : List α} (ρ1 : α → Env') (hi : fi ρ = .ok (xs.map en)) (hf : ∀ a, Ev (fk (ρ1 a)) (gk a)) (hf2 : ∀ a, Ev (fv (ρ1 a)) (gv a))
    (ha : ∀ k : κ, (atomK (en k)).isSome = true := by intro _; rfl) (hg : ∀ a, tg (en a) (wipeD ρ vs) = .ok (ρ1 a) := by intro _; rfl) : Ev (dcD vs fi tg (fun _ => .ok true) fk fv ρ) (dcT gk gv xs) := fun v e => by
  unfold dcT at e
  split at e
  · rename_i hl
    show (fi ρ >>= fun ds => lenOk ds.length >>= fun _ => noX (dcL tg (fun _ => .ok true) fk fv (wipeD ρ vs) ds []) >>= fun kvs => .ok (.dict kvs) : R D) = _
    rw [hi, okb, List.length_map, lenOk_i hl, okb, show ([] : List (D × D)) = (⟨[]⟩ : Dc κ β).l.map eKv from rfl, dcL_en hk ha (fun a => ⟨ρ1 a, hg a, hf a, hf2 a⟩) xs _ v e]
    rfl
  · cases e
end
end Vt

set_option Elab.async false
set_option linter.all false
set_option maxRecDepth 100000
namespace Gk92
open PySem PySem.Spec PyProof.Rows L2 Vs

def kv_ANY : D := (.str (tx [42]))
def kv_LEAST_LIGHTS : D := (.int 2)
def kv_MOST_COINS : D := (.int 10000)
def kv_MOST_LENGTH : D := (.int 10)
def kv_MOST_LIGHTS : D := (.int 6)
def kv_MOST_PAYS : D := (.int 8)
def kv_MOST_PLACES : D := (.int 8)
def kv_MOST_ROUNDS : D := (.int 30)
def kv_MOST_ROW : D := (.int 40)
def kv_MOST_SPINS : D := (.int 30)
def kv_MOST_STRIPS : D := (.int 4)
def kv_NOUGHT_held : D := (.tuple [(.int 0), (.int 1)])
def kv_NOUGHT_memory : D := (.tuple [(.int 0), (.int 1)])
def kv_ONE_held : D := (.tuple [(.int 1), (.int 1)])
def kv_ONE_memory : D := (.tuple [(.int 1), (.int 1)])
def kv_SIGNS : D := (.str (tx [65, 66, 67, 68, 69, 70]))
def m_is_fraction : Env' → R Out := fun ρ => ((((gv ρ 0 >>= fun x => .ok (.int 1) >>= fun y => ixD x y) >>= fun x => .ok (.int 0) >>= fun y => gtD x y) >>= asB) >>= fun c => if c then ((((gv ρ 0 >>= fun x => .ok (.int 0) >>= fun y => ixD x y) >>= fun x => ((gv ρ 0 >>= fun x => .ok (.int 1) >>= fun y => ixD x y) >>= fun x => .ok [] >>= fun xs => .ok (x :: xs)) >>= fun xs => .ok (x :: xs)) >>= gcdD) >>= fun x => .ok (.int 1) >>= fun y => eqD x y) else .ok (.bool false)) >>= fun d => .ok (.rt d)
def f_is_fraction : List D → R D := fun ds => noX (m_is_fraction (arg0 1 ds)) >>= ret false
def m_fraction : Env' → R Out := seqD (fun ρ => ((gv ρ 1 >>= fun x => .ok (.int 0) >>= fun y => ltD x y) >>= asB) >>= fun k => if k then (fun ρ => ((gv ρ 0 >>= fun x => negD x) >>= fun x => ((gv ρ 1 >>= fun x => negD x) >>= fun x => .ok [] >>= fun xs => .ok (x :: xs)) >>= fun xs => .ok (x :: xs)) >>= fun ds => match ds with | [d1, d2] => .ok (.nx ((ρ.set 0 (some d1)).set 1 (some d2))) | _ => stk) ρ else (fun ρ => .ok (.nx ρ)) ρ) (seqD (fun ρ => ((gv ρ 0 >>= fun x => (gv ρ 1 >>= fun x => .ok [] >>= fun xs => .ok (x :: xs)) >>= fun xs => .ok (x :: xs)) >>= gcdD) >>= fun d => setD 2 d ρ) (fun ρ => (((gv ρ 0 >>= fun x => gv ρ 2 >>= fun y => fdivW x y) >>= fun x => ((gv ρ 1 >>= fun x => gv ρ 2 >>= fun y => fdivW x y) >>= fun x => .ok [] >>= fun xs => .ok (x :: xs)) >>= fun xs => .ok (x :: xs)) >>= fun xs => lenOk xs.length >>= fun _ => .ok (.tuple xs)) >>= fun d => .ok (.rt d)))
def f_fraction : List D → R D := fun ds => noX (m_fraction (arg0 3 ds)) >>= ret false
def m_is_less : Env' → R Out := fun ρ => (((gv ρ 0 >>= fun x => .ok (.int 0) >>= fun y => ixD x y) >>= fun x => (gv ρ 1 >>= fun x => .ok (.int 1) >>= fun y => ixD x y) >>= fun y => mulD x y) >>= fun x => ((gv ρ 1 >>= fun x => .ok (.int 0) >>= fun y => ixD x y) >>= fun x => (gv ρ 0 >>= fun x => .ok (.int 1) >>= fun y => ixD x y) >>= fun y => mulD x y) >>= fun y => ltD x y) >>= fun d => .ok (.rt d)
def f_is_less : List D → R D := fun ds => noX (m_is_less (arg0 2 ds)) >>= ret false
def m_check_machine_c0 : Env' → R D := compD [8] (fun ρ => (gv ρ 4 >>= itS)) (tgN 8) (fun ρ => .ok true) (fun ρ => (gv ρ 8 >>= fun x => .ok kv_SIGNS >>= fun y => inD x y))
def m_check_machine_b0 : Env' → R Out := fun ρ => (((chD (fun i j => decide (i ≤ j)) (fun i j => decide (i ≤ j)) (fun ρ => .ok (.int 1)) (fun ρ => ((gv ρ 4 >>= fun x => .ok [] >>= fun xs => .ok (x :: xs)) >>= lenD)) (fun ρ => .ok kv_MOST_PLACES) ρ >>= asB) >>= fun c => .ok (!c)) >>= fun c => if c then .ok true else ((((m_check_machine_c0 ρ >>= fun x => .ok [] >>= fun xs => .ok (x :: xs)) >>= allD) >>= asB) >>= fun c => .ok (!c))) >>= fun k => if k then (fun _ => stk) ρ else (fun ρ => .ok (.nx ρ)) ρ
def m_check_machine_c1 : Env' → R D := compD [8] (fun ρ => (gv ρ 5 >>= itS)) (tgN 8) (fun ρ => .ok true) (fun ρ => (gv ρ 8 >>= fun x => (.ok kv_SIGNS >>= fun x => .ok kv_ANY >>= fun y => addD x y) >>= fun y => inD x y))
def m_check_machine_b1 : Env' → R Out := seqD (fun ρ => (((((gv ρ 5 >>= fun x => .ok [] >>= fun xs => .ok (x :: xs)) >>= lenD) >>= fun x => ((gv ρ 1 >>= fun x => .ok [] >>= fun xs => .ok (x :: xs)) >>= lenD) >>= fun y => eqD x y) >>= asB) >>= fun c => if c then ((m_check_machine_c1 ρ >>= fun x => .ok [] >>= fun xs => .ok (x :: xs)) >>= allD) else .ok (.bool false)) >>= fun d => setD 7 d ρ) (fun ρ => (((gv ρ 7 >>= asB) >>= fun c => .ok (!c)) >>= fun c => if c then .ok true else ((chD (fun i j => decide (i ≤ j)) (fun i j => decide (i ≤ j)) (fun ρ => .ok (.int 1)) (fun ρ => gv ρ 6) (fun ρ => .ok kv_MOST_COINS) ρ >>= asB) >>= fun c => .ok (!c))) >>= fun k => if k then (fun _ => stk) ρ else (fun ρ => .ok (.nx ρ)) ρ)
def m_check_machine : Env' → R Out := seqD (fun ρ => gv ρ 0 >>= fun d => (unT 2 (tsC (tgN 1) (tsC (tgN 2) tsN))) d ρ >>= fun ρ' => .ok (.nx ρ')) (seqD (fun ρ => ((chD (fun i j => decide (i ≤ j)) (fun i j => decide (i ≤ j)) (fun ρ => .ok (.int 1)) (fun ρ => ((gv ρ 1 >>= fun x => .ok [] >>= fun xs => .ok (x :: xs)) >>= lenD)) (fun ρ => .ok kv_MOST_STRIPS) ρ >>= asB) >>= fun c => .ok (!c)) >>= fun k => if k then (fun _ => stk) ρ else (fun ρ => .ok (.nx ρ)) ρ) (seqD (fun ρ => ((gv ρ 1 >>= fun x => .ok [] >>= fun xs => .ok (x :: xs)) >>= en1) >>= fun ds => forD (unT 2 (tsC (tgN 3) (tsC (tgN 4) tsN))) m_check_machine_b0 ds ρ) (seqD (fun ρ => ((((gv ρ 2 >>= fun x => .ok [] >>= fun xs => .ok (x :: xs)) >>= lenD) >>= fun x => .ok kv_MOST_PAYS >>= fun y => gtD x y) >>= asB) >>= fun k => if k then (fun _ => stk) ρ else (fun ρ => .ok (.nx ρ)) ρ) (fun ρ => ((gv ρ 2 >>= fun x => .ok [] >>= fun xs => .ok (x :: xs)) >>= en1) >>= fun ds => forD (unT 2 (tsC (tgN 3) (tsC (unT 2 (tsC (tgN 5) (tsC (tgN 6) tsN))) tsN))) m_check_machine_b1 ds ρ))))
def f_check_machine : List D → R D := fun ds => noX (m_check_machine (arg0 9 ds)) >>= ret false
def m_is_met_c0 : Env' → R D := compD [3, 4, 5] (fun ρ => ((gv ρ 1 >>= fun x => ((gv ρ 0 >>= fun x => .ok (.int 0) >>= fun y => ixD x y) >>= fun x => (gv ρ 2 >>= fun x => .ok [] >>= fun xs => .ok (x :: xs)) >>= fun xs => .ok (x :: xs)) >>= fun xs => .ok (x :: xs)) >>= zip3D)) (unT 3 (tsC (tgN 3) (tsC (tgN 4) (tsC (tgN 5) tsN)))) (fun ρ => .ok true) (fun ρ => (gv ρ 3 >>= fun x => ((.ok kv_ANY >>= fun x => ((gv ρ 4 >>= fun x => gv ρ 5 >>= fun y => ixD x y) >>= fun x => .ok [] >>= fun xs => .ok (x :: xs)) >>= fun xs => .ok (x :: xs)) >>= fun xs => lenOk xs.length >>= fun _ => .ok (.tuple xs)) >>= fun y => inD x y))
def m_is_met : Env' → R Out := fun ρ => ((m_is_met_c0 ρ >>= fun x => .ok [] >>= fun xs => .ok (x :: xs)) >>= allD) >>= fun d => .ok (.rt d)
def f_is_met : List D → R D := fun ds => noX (m_is_met (arg0 6 ds)) >>= ret false
def m_stops_of_c0 : Env' → R D := compD2 [6, 7] [7] (fun ρ => (gv ρ 2 >>= itL)) (tgN 6) (fun ρ => .ok true) (fun ρ => (gv ρ 5 >>= itL)) (tgN 7) (fun ρ => .ok true) (fun ρ => ((gv ρ 6 >>= fun x => seqOf x >>= fun zs => (gv ρ 7 >>= fun x => .ok [] >>= fun xs => .ok (x :: xs)) >>= fun xs => .ok (zs ++ xs)) >>= fun xs => lenOk xs.length >>= fun _ => .ok (.list xs)))
def m_stops_of_b0 : Env' → R Out := seqD (fun ρ => (((gv ρ 3 >>= fun x => gv ρ 1 >>= fun y => inE x y) >>= asB) >>= fun k => if k then (((gv ρ 1 >>= fun x => gv ρ 3 >>= fun y => ixE x y) >>= fun x => .ok [] >>= fun xs => .ok (x :: xs)) >>= fun xs => lenOk xs.length >>= fun _ => .ok (.list xs)) else (((gv ρ 4 >>= fun x => .ok [] >>= fun xs => .ok (x :: xs)) >>= lenD) >>= fun d => asI d >>= fun i => lrD 0 i)) >>= fun d => setD 5 d ρ) (fun ρ => m_stops_of_c0 ρ >>= fun d => setD 2 d ρ)
def m_stops_of : Env' → R Out := seqD (fun ρ => (((.ok [] >>= fun xs => lenOk xs.length >>= fun _ => .ok (.list xs)) >>= fun x => .ok [] >>= fun xs => .ok (x :: xs)) >>= fun xs => lenOk xs.length >>= fun _ => .ok (.list xs)) >>= fun d => setD 2 d ρ) (seqD (fun ρ => (((gv ρ 0 >>= fun x => .ok (.int 0) >>= fun y => ixD x y) >>= fun x => .ok [] >>= fun xs => .ok (x :: xs)) >>= en1) >>= fun ds => forD (unT 2 (tsC (tgN 3) (tsC (tgN 4) tsN))) m_stops_of_b0 ds ρ) (fun ρ => gv ρ 2 >>= fun d => .ok (.rt d)))
def f_stops_of : List D → R D := fun ds => noX (m_stops_of (arg0 8 ds)) >>= ret false
def m_sets_of_c0 : Env' → R D := compD [3] (fun ρ => gl ρ 1) (tgN 3) (fun ρ => .ok true) (fun ρ => ((gv ρ 3 >>= fun x => seqOf x >>= fun zs => (gv ρ 2 >>= fun x => .ok [] >>= fun xs => .ok (x :: xs)) >>= fun xs => .ok (zs ++ xs)) >>= fun xs => lenOk xs.length >>= fun _ => .ok (.list xs)))
def m_sets_of_b0 : Env' → R Out := fun ρ => gl ρ 1 >>= fun xs => m_sets_of_c0 ρ >>= fun d => exD 1 xs d ρ
def m_sets_of : Env' → R Out := seqD (fun ρ => (((.ok [] >>= fun xs => lenOk xs.length >>= fun _ => .ok (.list xs)) >>= fun x => .ok [] >>= fun xs => .ok (x :: xs)) >>= fun xs => lenOk xs.length >>= fun _ => .ok (.list xs)) >>= fun d => setD 1 d ρ) (seqD (fun ρ => ((gv ρ 0 >>= fun x => .ok [] >>= fun xs => .ok (x :: xs)) >>= rg1) >>= fun ds => forD (tgN 2) m_sets_of_b0 ds ρ) (fun ρ => ((gv ρ 1 >>= fun x => .ok [] >>= fun xs => .ok (x :: xs)) >>= sortedD) >>= fun d => .ok (.rt d)))
def f_sets_of : List D → R D := fun ds => noX (m_sets_of (arg0 4 ds)) >>= ret true
def m_check_range : Env' → R Out := fun ρ => ((chD (fun i j => decide (i ≤ j)) (fun i j => decide (i ≤ j)) (fun ρ => gv ρ 1) (fun ρ => gv ρ 0) (fun ρ => gv ρ 2) ρ >>= asB) >>= fun c => .ok (!c)) >>= fun k => if k then (fun _ => stk) ρ else (fun ρ => .ok (.nx ρ)) ρ
def f_check_range : List D → R D := fun ds => noX (m_check_range (arg0 3 ds)) >>= ret false
def m__law_draws_b0 : Env' → R Out := fun ρ => ((gv ρ 3 >>= fun x => .ok (.int 0) >>= fun y => gtD x y) >>= asB) >>= fun k => if k then (seqD (fun ρ => gl ρ 1 >>= fun xs => (((gv ρ 3 >>= fun x => .ok [] >>= fun xs => .ok (x :: xs)) >>= intD) >>= fun x => .ok (.int 65536) >>= fun y => modI x y) >>= fun d => apD 1 xs d ρ) (fun ρ => (gv ρ 3 >>= fun x => .ok (.int 65536) >>= fun y => fdivI x y) >>= fun d => setD 3 d ρ)) ρ else (fun ρ => .ok (.nx ρ)) ρ
def m__law_draws_b1 : Env' → R Out := seqD (fun ρ => (((gv ρ 0 >>= fun x => gv ρ 2 >>= fun y => ixD x y) >>= fun x => .ok [] >>= fun xs => .ok (x :: xs)) >>= absD) >>= fun d => setD 3 d ρ) (fun ρ => ((gv ρ 3 >>= fun x => (.ok (.int 10) >>= fun x => .ok (.int 18) >>= fun y => powI x y) >>= fun y => geD x y) >>= asB) >>= fun k => if k then (fun ρ => ((.ok (.int 60) >>= fun x => .ok [] >>= fun xs => .ok (x :: xs)) >>= rg1) >>= fun ds => forD (tgN 4) m__law_draws_b0 ds ρ) ρ else (seqD (fun ρ => (((((gv ρ 3 >>= fun x => .ok (.int 48271) >>= fun y => mulD x y) >>= fun x => ((gv ρ 2 >>= fun x => .ok (.int 1) >>= fun y => addD x y) >>= fun x => .ok (.int 69621) >>= fun y => mulD x y) >>= fun y => addD x y) >>= fun x => .ok [] >>= fun xs => .ok (x :: xs)) >>= intD) >>= fun x => .ok (.int 2147483647) >>= fun y => modI x y) >>= fun d => setD 5 d ρ) (seqD (fun ρ => ((((((gv ρ 5 >>= fun x => .ok (.int 16807) >>= fun y => mulD x y) >>= fun x => (.ok (.int 11) >>= fun x => gv ρ 2 >>= fun y => mulD x y) >>= fun y => addD x y) >>= fun x => .ok (.int 5) >>= fun y => addD x y) >>= fun x => .ok [] >>= fun xs => .ok (x :: xs)) >>= intD) >>= fun x => .ok (.int 2147483629) >>= fun y => modI x y) >>= fun d => setD 5 d ρ) (seqD (fun ρ => gl ρ 1 >>= fun xs => (((gv ρ 5 >>= fun x => .ok [] >>= fun xs => .ok (x :: xs)) >>= intD) >>= fun x => .ok (.int 65536) >>= fun y => modI x y) >>= fun d => apD 1 xs d ρ) (fun ρ => gl ρ 1 >>= fun xs => ((((gv ρ 5 >>= fun x => .ok (.int 65536) >>= fun y => fdivI x y) >>= fun x => .ok [] >>= fun xs => .ok (x :: xs)) >>= intD) >>= fun x => .ok (.int 32768) >>= fun y => modI x y) >>= fun d => apD 1 xs d ρ)))) ρ)
def m__law_draws : Env' → R Out := seqD (fun ρ => (.ok [] >>= fun xs => lenOk xs.length >>= fun _ => .ok (.list xs)) >>= fun d => setD 1 d ρ) (seqD (fun ρ => ((((.ok (.int 63) >>= fun x => (((gv ρ 0 >>= fun x => .ok [] >>= fun xs => .ok (x :: xs)) >>= lenD) >>= fun x => .ok [] >>= fun xs => .ok (x :: xs)) >>= fun xs => .ok (x :: xs)) >>= min2D) >>= fun x => .ok [] >>= fun xs => .ok (x :: xs)) >>= rg1) >>= fun ds => forD (tgN 2) m__law_draws_b1 ds ρ) (fun ρ => gv ρ 1 >>= fun d => .ok (.rt d)))
def f__law_draws : List D → R D := fun ds => noX (m__law_draws (arg0 6 ds)) >>= ret true
def m__law_mix : Env' → R Out := seqD (fun ρ => .ok (.int 0) >>= fun d => setD 3 d ρ) (seqD (fun ρ => ((((gv ρ 0 >>= fun x => .ok [] >>= fun xs => .ok (x :: xs)) >>= lenD) >>= fun x => .ok (.int 0) >>= fun y => gtD x y) >>= asB) >>= fun k => if k then (fun ρ => (gv ρ 0 >>= fun x => (((gv ρ 1 >>= fun x => .ok [] >>= fun xs => .ok (x :: xs)) >>= intD) >>= fun x => ((gv ρ 0 >>= fun x => .ok [] >>= fun xs => .ok (x :: xs)) >>= lenD) >>= fun y => modI x y) >>= fun y => ixD x y) >>= fun d => setD 3 d ρ) ρ else (fun ρ => .ok (.nx ρ)) ρ) (seqD (fun ρ => ((gv ρ 1 >>= fun x => ((gv ρ 0 >>= fun x => .ok [] >>= fun xs => .ok (x :: xs)) >>= lenD) >>= fun y => ltD x y) >>= asB) >>= fun k => if k then (fun ρ => (((gv ρ 3 >>= fun x => .ok [] >>= fun xs => .ok (x :: xs)) >>= intD) >>= fun x => gv ρ 2 >>= fun y => modI x y) >>= fun d => .ok (.rt d)) ρ else (fun ρ => .ok (.nx ρ)) ρ) (fun ρ => ((((((((gv ρ 3 >>= fun x => .ok (.int 7919) >>= fun y => mulD x y) >>= fun x => (gv ρ 1 >>= fun x => .ok (.int 104729) >>= fun y => mulD x y) >>= fun y => addD x y) >>= fun x => .ok [] >>= fun xs => .ok (x :: xs)) >>= intD) >>= fun x => .ok (.int 3) >>= fun y => fdivI x y) >>= fun x => .ok [] >>= fun xs => .ok (x :: xs)) >>= intD) >>= fun x => gv ρ 2 >>= fun y => modI x y) >>= fun d => .ok (.rt d))))
def f__law_mix : List D → R D := fun ds => noX (m__law_mix (arg0 4 ds)) >>= ret false
def m__law_low_t0 : Env' → R Bool := fun ρ => ((gv ρ 3 >>= fun x => .ok (.int 0) >>= fun y => neD x y) >>= asB)
def m__law_low_b0 : Env' → R Out := fun ρ => ((gv ρ 3 >>= fun x => ((((gv ρ 2 >>= fun x => .ok [] >>= fun xs => .ok (x :: xs)) >>= intD) >>= fun x => gv ρ 3 >>= fun y => modI x y) >>= fun x => .ok [] >>= fun xs => .ok (x :: xs)) >>= fun xs => .ok (x :: xs)) >>= fun xs => lenOk xs.length >>= fun _ => .ok (.list xs)) >>= fun d => (unL 2 (tsC (tgN 2) (tsC (tgN 3) tsN))) d ρ >>= fun ρ' => .ok (.nx ρ')
def m__law_low : Env' → R Out := seqD (fun ρ => (((gv ρ 0 >>= fun x => .ok [] >>= fun xs => .ok (x :: xs)) >>= absD) >>= fun x => (gv ρ 1 >>= fun x => .ok [] >>= fun xs => .ok (x :: xs)) >>= fun xs => .ok (x :: xs)) >>= fun ds => match ds with | [d1, d2] => .ok (.nx ((ρ.set 2 (some d1)).set 3 (some d2))) | _ => stk) (seqD (whileD m__law_low_t0 m__law_low_b0 FU) (fun ρ => (((gv ρ 0 >>= fun x => gv ρ 2 >>= fun y => fdivW x y) >>= fun x => ((gv ρ 1 >>= fun x => gv ρ 2 >>= fun y => fdivW x y) >>= fun x => .ok [] >>= fun xs => .ok (x :: xs)) >>= fun xs => .ok (x :: xs)) >>= fun xs => lenOk xs.length >>= fun _ => .ok (.tuple xs)) >>= fun d => .ok (.rt d)))
def f__law_low : List D → R D := fun ds => noX (m__law_low (arg0 4 ds)) >>= ret false
def m_plus : Env' → R Out := fun ρ => (((((gv ρ 0 >>= fun x => .ok (.int 0) >>= fun y => ixD x y) >>= fun x => (gv ρ 1 >>= fun x => .ok (.int 1) >>= fun y => ixD x y) >>= fun y => mulD x y) >>= fun x => ((gv ρ 1 >>= fun x => .ok (.int 0) >>= fun y => ixD x y) >>= fun x => (gv ρ 0 >>= fun x => .ok (.int 1) >>= fun y => ixD x y) >>= fun y => mulD x y) >>= fun y => addD x y) >>= fun x => (((gv ρ 0 >>= fun x => .ok (.int 1) >>= fun y => ixD x y) >>= fun x => (gv ρ 1 >>= fun x => .ok (.int 1) >>= fun y => ixD x y) >>= fun y => mulD x y) >>= fun x => .ok [] >>= fun xs => .ok (x :: xs)) >>= fun xs => .ok (x :: xs)) >>= fnD 2 f_fraction) >>= fun d => .ok (.rt d)
def f_plus : List D → R D := fun ds => noX (m_plus (arg0 2 ds)) >>= ret false
def m_minus : Env' → R Out := fun ρ => (((((gv ρ 0 >>= fun x => .ok (.int 0) >>= fun y => ixD x y) >>= fun x => (gv ρ 1 >>= fun x => .ok (.int 1) >>= fun y => ixD x y) >>= fun y => mulD x y) >>= fun x => ((gv ρ 1 >>= fun x => .ok (.int 0) >>= fun y => ixD x y) >>= fun x => (gv ρ 0 >>= fun x => .ok (.int 1) >>= fun y => ixD x y) >>= fun y => mulD x y) >>= fun y => subI x y) >>= fun x => (((gv ρ 0 >>= fun x => .ok (.int 1) >>= fun y => ixD x y) >>= fun x => (gv ρ 1 >>= fun x => .ok (.int 1) >>= fun y => ixD x y) >>= fun y => mulD x y) >>= fun x => .ok [] >>= fun xs => .ok (x :: xs)) >>= fun xs => .ok (x :: xs)) >>= fnD 2 f_fraction) >>= fun d => .ok (.rt d)
def f_minus : List D → R D := fun ds => noX (m_minus (arg0 2 ds)) >>= ret false
def m_times : Env' → R Out := fun ρ => ((((gv ρ 0 >>= fun x => .ok (.int 0) >>= fun y => ixD x y) >>= fun x => (gv ρ 1 >>= fun x => .ok (.int 0) >>= fun y => ixD x y) >>= fun y => mulD x y) >>= fun x => (((gv ρ 0 >>= fun x => .ok (.int 1) >>= fun y => ixD x y) >>= fun x => (gv ρ 1 >>= fun x => .ok (.int 1) >>= fun y => ixD x y) >>= fun y => mulD x y) >>= fun x => .ok [] >>= fun xs => .ok (x :: xs)) >>= fun xs => .ok (x :: xs)) >>= fnD 2 f_fraction) >>= fun d => .ok (.rt d)
def f_times : List D → R D := fun ds => noX (m_times (arg0 2 ds)) >>= ret false
def m_over : Env' → R Out := fun ρ => ((((gv ρ 0 >>= fun x => .ok (.int 0) >>= fun y => ixD x y) >>= fun x => (gv ρ 1 >>= fun x => .ok (.int 1) >>= fun y => ixD x y) >>= fun y => mulD x y) >>= fun x => (((gv ρ 0 >>= fun x => .ok (.int 1) >>= fun y => ixD x y) >>= fun x => (gv ρ 1 >>= fun x => .ok (.int 0) >>= fun y => ixD x y) >>= fun y => mulD x y) >>= fun x => .ok [] >>= fun xs => .ok (x :: xs)) >>= fun xs => .ok (x :: xs)) >>= fnD 2 f_fraction) >>= fun d => .ok (.rt d)
def f_over : List D → R D := fun ds => noX (m_over (arg0 2 ds)) >>= ret false
def m_check_stops_c0 : Env' → R D := compD [3, 4] (fun ρ => ((gv ρ 1 >>= fun x => (gv ρ 2 >>= fun x => .ok [] >>= fun xs => .ok (x :: xs)) >>= fun xs => .ok (x :: xs)) >>= zip2D)) (unT 2 (tsC (tgN 3) (tsC (tgN 4) tsN))) (fun ρ => .ok true) (fun ρ => chD (fun i j => decide (i ≤ j)) (fun i j => decide (i < j)) (fun ρ => .ok (.int 0)) (fun ρ => gv ρ 3) (fun ρ => ((gv ρ 4 >>= fun x => .ok [] >>= fun xs => .ok (x :: xs)) >>= lenD)) ρ)
def m_check_stops : Env' → R Out := seqD (fun ρ => ((gv ρ 0 >>= fun x => .ok [] >>= fun xs => .ok (x :: xs)) >>= fnD 1 f_check_machine) >>= fun _ => .ok (.nx ρ)) (seqD (fun ρ => (gv ρ 0 >>= fun x => .ok (.int 0) >>= fun y => ixD x y) >>= fun d => setD 2 d ρ) (fun ρ => (((((gv ρ 1 >>= fun x => .ok [] >>= fun xs => .ok (x :: xs)) >>= lenD) >>= fun x => ((gv ρ 2 >>= fun x => .ok [] >>= fun xs => .ok (x :: xs)) >>= lenD) >>= fun y => neD x y) >>= asB) >>= fun c => if c then .ok true else ((((m_check_stops_c0 ρ >>= fun x => .ok [] >>= fun xs => .ok (x :: xs)) >>= allD) >>= asB) >>= fun c => .ok (!c))) >>= fun k => if k then (fun _ => stk) ρ else (fun ρ => .ok (.nx ρ)) ρ))
def f_check_stops : List D → R D := fun ds => noX (m_check_stops (arg0 5 ds)) >>= ret false
def m_first_met_b0 : Env' → R Out := fun ρ => (((gv ρ 0 >>= fun x => (gv ρ 3 >>= fun x => (gv ρ 1 >>= fun x => .ok [] >>= fun xs => .ok (x :: xs)) >>= fun xs => .ok (x :: xs)) >>= fun xs => .ok (x :: xs)) >>= fnD 3 f_is_met) >>= asB) >>= fun k => if k then (fun ρ => gv ρ 2 >>= fun d => .ok (.rt d)) ρ else (fun ρ => .ok (.nx ρ)) ρ
def m_first_met : Env' → R Out := seqD (fun ρ => (((gv ρ 0 >>= fun x => .ok (.int 1) >>= fun y => ixD x y) >>= fun x => .ok [] >>= fun xs => .ok (x :: xs)) >>= en1) >>= fun ds => forD (unT 2 (tsC (tgN 2) (tsC (unT 2 (tsC (tgN 3) (tsC (tgN 4) tsN))) tsN))) m_first_met_b0 ds ρ) (fun ρ => .ok .none >>= fun d => .ok (.rt d))
def f_first_met : List D → R D := fun ds => noX (m_first_met (arg0 5 ds)) >>= ret false
def m_check_lights : Env' → R Out := fun ρ => ((gv ρ 0 >>= fun x => (.ok kv_LEAST_LIGHTS >>= fun x => (.ok kv_MOST_LIGHTS >>= fun x => .ok [] >>= fun xs => .ok (x :: xs)) >>= fun xs => .ok (x :: xs)) >>= fun xs => .ok (x :: xs)) >>= fnD 3 f_check_range) >>= fun _ => .ok (.nx ρ)
def f_check_lights : List D → R D := fun ds => noX (m_check_lights (arg0 1 ds)) >>= ret false
def m_check_hold : Env' → R Out := fun ρ => (((((gv ρ 0 >>= fun x => .ok [] >>= fun xs => .ok (x :: xs)) >>= fnD 1 f_is_fraction) >>= asB) >>= fun c => .ok (!c)) >>= fun c => if c then .ok true else ((chD (fun i j => decide (i ≤ j)) (fun i j => decide (i ≤ j)) (fun ρ => .ok (.int 0)) (fun ρ => (gv ρ 0 >>= fun x => .ok (.int 0) >>= fun y => ixD x y)) (fun ρ => (gv ρ 0 >>= fun x => .ok (.int 1) >>= fun y => ixD x y)) ρ >>= asB) >>= fun c => .ok (!c))) >>= fun k => if k then (fun _ => stk) ρ else (fun ρ => .ok (.nx ρ)) ρ
def f_check_hold : List D → R D := fun ds => noX (m_check_hold (arg0 1 ds)) >>= ret false
def m__law_plus : Env' → R Out := fun ρ => (((((gv ρ 0 >>= fun x => .ok (.int 0) >>= fun y => ixD x y) >>= fun x => (gv ρ 1 >>= fun x => .ok (.int 1) >>= fun y => ixD x y) >>= fun y => mulD x y) >>= fun x => ((gv ρ 1 >>= fun x => .ok (.int 0) >>= fun y => ixD x y) >>= fun x => (gv ρ 0 >>= fun x => .ok (.int 1) >>= fun y => ixD x y) >>= fun y => mulD x y) >>= fun y => addD x y) >>= fun x => (((gv ρ 0 >>= fun x => .ok (.int 1) >>= fun y => ixD x y) >>= fun x => (gv ρ 1 >>= fun x => .ok (.int 1) >>= fun y => ixD x y) >>= fun y => mulD x y) >>= fun x => .ok [] >>= fun xs => .ok (x :: xs)) >>= fun xs => .ok (x :: xs)) >>= fnD 2 f__law_low) >>= fun d => .ok (.rt d)
def f__law_plus : List D → R D := fun ds => noX (m__law_plus (arg0 2 ds)) >>= ret false
def m__law_times : Env' → R Out := fun ρ => ((((gv ρ 0 >>= fun x => .ok (.int 0) >>= fun y => ixD x y) >>= fun x => (gv ρ 1 >>= fun x => .ok (.int 0) >>= fun y => ixD x y) >>= fun y => mulD x y) >>= fun x => (((gv ρ 0 >>= fun x => .ok (.int 1) >>= fun y => ixD x y) >>= fun x => (gv ρ 1 >>= fun x => .ok (.int 1) >>= fun y => ixD x y) >>= fun y => mulD x y) >>= fun x => .ok [] >>= fun xs => .ok (x :: xs)) >>= fun xs => .ok (x :: xs)) >>= fnD 2 f__law_low) >>= fun d => .ok (.rt d)
def f__law_times : List D → R D := fun ds => noX (m__law_times (arg0 2 ds)) >>= ret false
def m_total_b0 : Env' → R Out := fun ρ => ((gv ρ 1 >>= fun x => (gv ρ 2 >>= fun x => .ok [] >>= fun xs => .ok (x :: xs)) >>= fun xs => .ok (x :: xs)) >>= fnD 2 f_plus) >>= fun d => setD 1 d ρ
def m_total : Env' → R Out := seqD (fun ρ => ((.ok (.int 0) >>= fun x => (.ok (.int 1) >>= fun x => .ok [] >>= fun xs => .ok (x :: xs)) >>= fun xs => .ok (x :: xs)) >>= fun xs => lenOk xs.length >>= fun _ => .ok (.tuple xs)) >>= fun d => setD 1 d ρ) (seqD (fun ρ => (gv ρ 0 >>= itL) >>= fun ds => forD (tgN 2) m_total_b0 ds ρ) (fun ρ => gv ρ 1 >>= fun d => .ok (.rt d)))
def f_total : List D → R D := fun ds => noX (m_total (arg0 3 ds)) >>= ret false
def m_paid_of : Env' → R Out := seqD (fun ρ => ((gv ρ 0 >>= fun x => (gv ρ 1 >>= fun x => .ok [] >>= fun xs => .ok (x :: xs)) >>= fun xs => .ok (x :: xs)) >>= fnD 2 f_first_met) >>= fun d => setD 2 d ρ) (fun ρ => (((gv ρ 2 >>= fun x => .ok .none >>= fun y => isN x y) >>= asB) >>= fun k => if k then .ok (.int 0) else (((gv ρ 0 >>= fun x => .ok (.int 1) >>= fun y => ixD x y) >>= fun x => gv ρ 2 >>= fun y => ixD x y) >>= fun x => .ok (.int 1) >>= fun y => ixD x y)) >>= fun d => .ok (.rt d))
def f_paid_of : List D → R D := fun ds => noX (m_paid_of (arg0 3 ds)) >>= ret false
def m_parts_of_c0 : Env' → R D := compD [2] (fun ρ => (((gv ρ 0 >>= fun x => ((.ok (.dict [])) >>= fun x => .ok [] >>= fun xs => .ok (x :: xs)) >>= fun xs => .ok (x :: xs)) >>= fnD 2 f_stops_of) >>= itL)) (tgN 2) (fun ρ => .ok true) (fun ρ => ((gv ρ 0 >>= fun x => (gv ρ 2 >>= fun x => .ok [] >>= fun xs => .ok (x :: xs)) >>= fun xs => .ok (x :: xs)) >>= fnD 2 f_first_met))
def m_parts_of_c1 : Env' → R D := compD [3] (fun ρ => (((((gv ρ 0 >>= fun x => .ok (.int 1) >>= fun y => ixD x y) >>= fun x => .ok [] >>= fun xs => .ok (x :: xs)) >>= lenD) >>= fun x => .ok [] >>= fun xs => .ok (x :: xs)) >>= rg1)) (tgN 3) (fun ρ => .ok true) (fun ρ => (((gv ρ 1 >>= fun x => itL x >>= fun _ => gv ρ 3 >>= fun y => countLD x y) >>= fun x => (((gv ρ 1 >>= fun x => .ok [] >>= fun xs => .ok (x :: xs)) >>= lenD) >>= fun x => .ok [] >>= fun xs => .ok (x :: xs)) >>= fun xs => .ok (x :: xs)) >>= fnD 2 f_fraction))
def m_parts_of : Env' → R Out := seqD (fun ρ => m_parts_of_c0 ρ >>= fun d => setD 1 d ρ) (fun ρ => m_parts_of_c1 ρ >>= fun d => .ok (.rt d))
def f_parts_of : List D → R D := fun ds => noX (m_parts_of (arg0 4 ds)) >>= ret true
def m_check_held_c0 : Env' → R D := compD [3] (fun ρ => (gv ρ 2 >>= itL)) (tgN 3) (fun ρ => .ok true) (fun ρ => chD (fun i j => decide (i ≤ j)) (fun i j => decide (i < j)) (fun ρ => .ok (.int 0)) (fun ρ => gv ρ 3) (fun ρ => (((gv ρ 0 >>= fun x => .ok (.int 0) >>= fun y => ixD x y) >>= fun x => .ok [] >>= fun xs => .ok (x :: xs)) >>= lenD)) ρ)
def m_check_held : Env' → R Out := seqD (fun ρ => ((gv ρ 0 >>= fun x => (gv ρ 1 >>= fun x => .ok [] >>= fun xs => .ok (x :: xs)) >>= fun xs => .ok (x :: xs)) >>= fnD 2 f_check_stops) >>= fun _ => .ok (.nx ρ)) (fun ρ => (((((gv ρ 2 >>= fun x => .ok [] >>= fun xs => .ok (x :: xs)) >>= listD) >>= fun x => (gv ρ 2 >>= fun x => ssetD x) >>= fun y => neD x y) >>= asB) >>= fun c => if c then .ok true else ((((m_check_held_c0 ρ >>= fun x => .ok [] >>= fun xs => .ok (x :: xs)) >>= allD) >>= asB) >>= fun c => .ok (!c))) >>= fun k => if k then (fun _ => stk) ρ else (fun ρ => .ok (.nx ρ)) ρ)
def f_check_held : List D → R D := fun ds => noX (m_check_held (arg0 4 ds)) >>= ret false
def m_power_b0 : Env' → R Out := fun ρ => ((gv ρ 2 >>= fun x => (gv ρ 0 >>= fun x => .ok [] >>= fun xs => .ok (x :: xs)) >>= fun xs => .ok (x :: xs)) >>= fnD 2 f_times) >>= fun d => setD 2 d ρ
def m_power : Env' → R Out := seqD (fun ρ => .ok kv_ONE_memory >>= fun d => setD 2 d ρ) (seqD (fun ρ => ((gv ρ 1 >>= fun x => .ok [] >>= fun xs => .ok (x :: xs)) >>= rg1) >>= fun ds => forD (tgN 3) m_power_b0 ds ρ) (fun ρ => gv ρ 2 >>= fun d => .ok (.rt d)))
def f_power : List D → R D := fun ds => noX (m_power (arg0 4 ds)) >>= ret false
def m_light_chance : Env' → R Out := fun ρ => ((gv ρ 1 >>= fun x => (((((.ok kv_ONE_memory >>= fun x => (gv ρ 1 >>= fun x => .ok [] >>= fun xs => .ok (x :: xs)) >>= fun xs => .ok (x :: xs)) >>= fnD 2 f_minus) >>= fun x => (((.ok (.int 1) >>= fun x => (gv ρ 0 >>= fun x => .ok [] >>= fun xs => .ok (x :: xs)) >>= fun xs => .ok (x :: xs)) >>= fnD 2 f_fraction) >>= fun x => .ok [] >>= fun xs => .ok (x :: xs)) >>= fun xs => .ok (x :: xs)) >>= fnD 2 f_times) >>= fun x => .ok [] >>= fun xs => .ok (x :: xs)) >>= fun xs => .ok (x :: xs)) >>= fnD 2 f_plus) >>= fun d => .ok (.rt d)
def f_light_chance : List D → R D := fun ds => noX (m_light_chance (arg0 2 ds)) >>= ret false
def m_mean_rounds_b0 : Env' → R Out := seqD (fun ρ => ((gv ρ 2 >>= fun x => (gv ρ 3 >>= fun x => .ok [] >>= fun xs => .ok (x :: xs)) >>= fun xs => .ok (x :: xs)) >>= fnD 2 f_times) >>= fun d => setD 2 d ρ) (fun ρ => ((gv ρ 1 >>= fun x => (gv ρ 2 >>= fun x => .ok [] >>= fun xs => .ok (x :: xs)) >>= fun xs => .ok (x :: xs)) >>= fnD 2 f_plus) >>= fun d => setD 1 d ρ)
def m_mean_rounds : Env' → R Out := seqD (fun ρ => .ok kv_NOUGHT_memory >>= fun d => setD 1 d ρ) (seqD (fun ρ => .ok kv_ONE_memory >>= fun d => setD 2 d ρ) (seqD (fun ρ => (gv ρ 0 >>= itL) >>= fun ds => forD (tgN 3) m_mean_rounds_b0 ds ρ) (fun ρ => gv ρ 1 >>= fun d => .ok (.rt d))))
def f_mean_rounds : List D → R D := fun ds => noX (m_mean_rounds (arg0 4 ds)) >>= ret false
def m_paid : Env' → R Out := seqD (fun ρ => ((gv ρ 0 >>= fun x => (gv ρ 1 >>= fun x => .ok [] >>= fun xs => .ok (x :: xs)) >>= fun xs => .ok (x :: xs)) >>= fnD 2 f_check_stops) >>= fun _ => .ok (.nx ρ)) (fun ρ => ((gv ρ 0 >>= fun x => (gv ρ 1 >>= fun x => .ok [] >>= fun xs => .ok (x :: xs)) >>= fun xs => .ok (x :: xs)) >>= fnD 2 f_paid_of) >>= fun d => .ok (.rt d))
def f_paid : List D → R D := fun ds => noX (m_paid (arg0 2 ds)) >>= ret false
def m_mean_of_c0 : Env' → R D := compD [3] (fun ρ => (gv ρ 2 >>= itL)) (tgN 3) (fun ρ => .ok true) (fun ρ => ((gv ρ 0 >>= fun x => (gv ρ 3 >>= fun x => .ok [] >>= fun xs => .ok (x :: xs)) >>= fun xs => .ok (x :: xs)) >>= fnD 2 f_paid_of))
def m_mean_of : Env' → R Out := seqD (fun ρ => ((gv ρ 0 >>= fun x => (gv ρ 1 >>= fun x => .ok [] >>= fun xs => .ok (x :: xs)) >>= fun xs => .ok (x :: xs)) >>= fnD 2 f_stops_of) >>= fun d => setD 2 d ρ) (fun ρ => ((((m_mean_of_c0 ρ >>= fun x => .ok [] >>= fun xs => .ok (x :: xs)) >>= sumD) >>= fun x => (((gv ρ 2 >>= fun x => .ok [] >>= fun xs => .ok (x :: xs)) >>= lenD) >>= fun x => .ok [] >>= fun xs => .ok (x :: xs)) >>= fun xs => .ok (x :: xs)) >>= fnD 2 f_fraction) >>= fun d => .ok (.rt d))
def f_mean_of : List D → R D := fun ds => noX (m_mean_of (arg0 4 ds)) >>= ret false
def m_hits : Env' → R Out := seqD (fun ρ => ((gv ρ 0 >>= fun x => .ok [] >>= fun xs => .ok (x :: xs)) >>= fnD 1 f_check_machine) >>= fun _ => .ok (.nx ρ)) (fun ρ => ((((gv ρ 0 >>= fun x => .ok [] >>= fun xs => .ok (x :: xs)) >>= fnD 1 f_parts_of) >>= fun x => .ok [] >>= fun xs => .ok (x :: xs)) >>= fnD 1 f_total) >>= fun d => .ok (.rt d))
def f_hits : List D → R D := fun ds => noX (m_hits (arg0 1 ds)) >>= ret false
def m_by_pattern : Env' → R Out := seqD (fun ρ => ((gv ρ 0 >>= fun x => .ok [] >>= fun xs => .ok (x :: xs)) >>= fnD 1 f_check_machine) >>= fun _ => .ok (.nx ρ)) (fun ρ => ((gv ρ 0 >>= fun x => .ok [] >>= fun xs => .ok (x :: xs)) >>= fnD 1 f_parts_of) >>= fun d => .ok (.rt d))
def f_by_pattern : List D → R D := fun ds => noX (m_by_pattern (arg0 1 ds)) >>= ret true
def m_span_chance : Env' → R Out := fun ρ => ((((.ok (.int 1) >>= fun x => (gv ρ 0 >>= fun x => .ok [] >>= fun xs => .ok (x :: xs)) >>= fun xs => .ok (x :: xs)) >>= fnD 2 f_fraction) >>= fun x => (((.ok (.int 0) >>= fun x => ((gv ρ 2 >>= fun x => gv ρ 1 >>= fun y => subI x y) >>= fun x => .ok [] >>= fun xs => .ok (x :: xs)) >>= fun xs => .ok (x :: xs)) >>= max2D) >>= fun x => .ok [] >>= fun xs => .ok (x :: xs)) >>= fun xs => .ok (x :: xs)) >>= fnD 2 f_power) >>= fun d => .ok (.rt d)
def f_span_chance : List D → R D := fun ds => noX (m_span_chance (arg0 3 ds)) >>= ret false
def m_by_hold : Env' → R Out := seqD (fun ρ => ((gv ρ 0 >>= fun x => .ok [] >>= fun xs => .ok (x :: xs)) >>= fnD 1 f_check_lights) >>= fun _ => .ok (.nx ρ)) (seqD (fun ρ => ((gv ρ 1 >>= fun x => .ok [] >>= fun xs => .ok (x :: xs)) >>= fnD 1 f_check_hold) >>= fun _ => .ok (.nx ρ)) (seqD (fun ρ => ((gv ρ 2 >>= fun x => (.ok (.int 0) >>= fun x => (.ok kv_MOST_ROW >>= fun x => .ok [] >>= fun xs => .ok (x :: xs)) >>= fun xs => .ok (x :: xs)) >>= fun xs => .ok (x :: xs)) >>= fnD 3 f_check_range) >>= fun _ => .ok (.nx ρ)) (fun ρ => ((((gv ρ 0 >>= fun x => (gv ρ 1 >>= fun x => .ok [] >>= fun xs => .ok (x :: xs)) >>= fun xs => .ok (x :: xs)) >>= fnD 2 f_light_chance) >>= fun x => (gv ρ 2 >>= fun x => .ok [] >>= fun xs => .ok (x :: xs)) >>= fun xs => .ok (x :: xs)) >>= fnD 2 f_power) >>= fun d => .ok (.rt d))))
def f_by_hold : List D → R D := fun ds => noX (m_by_hold (arg0 3 ds)) >>= ret false
def m_share : Env' → R Out := seqD (fun ρ => ((gv ρ 0 >>= fun x => .ok [] >>= fun xs => .ok (x :: xs)) >>= fnD 1 f_check_machine) >>= fun _ => .ok (.nx ρ)) (seqD (fun ρ => ((chD (fun i j => decide (i ≤ j)) (fun i j => decide (i ≤ j)) (fun ρ => .ok (.int 1)) (fun ρ => gv ρ 1) (fun ρ => .ok kv_MOST_COINS) ρ >>= asB) >>= fun c => .ok (!c)) >>= fun k => if k then (fun _ => stk) ρ else (fun ρ => .ok (.nx ρ)) ρ) (fun ρ => ((((gv ρ 0 >>= fun x => ((.ok (.dict [])) >>= fun x => .ok [] >>= fun xs => .ok (x :: xs)) >>= fun xs => .ok (x :: xs)) >>= fnD 2 f_mean_of) >>= fun x => (((gv ρ 1 >>= fun x => (.ok (.int 1) >>= fun x => .ok [] >>= fun xs => .ok (x :: xs)) >>= fun xs => .ok (x :: xs)) >>= fnD 2 f_fraction) >>= fun x => .ok [] >>= fun xs => .ok (x :: xs)) >>= fun xs => .ok (x :: xs)) >>= fnD 2 f_over) >>= fun d => .ok (.rt d)))
def f_share : List D → R D := fun ds => noX (m_share (arg0 2 ds)) >>= ret false
def m_mean_held_c0 : Env' → R D := dcD [3] (fun ρ => (gv ρ 2 >>= itL)) (tgN 3) (fun ρ => .ok true) (fun ρ => gv ρ 3) (fun ρ => (gv ρ 1 >>= fun x => gv ρ 3 >>= fun y => ixD x y))
def m_mean_held : Env' → R Out := seqD (fun ρ => ((gv ρ 0 >>= fun x => (gv ρ 1 >>= fun x => (gv ρ 2 >>= fun x => .ok [] >>= fun xs => .ok (x :: xs)) >>= fun xs => .ok (x :: xs)) >>= fun xs => .ok (x :: xs)) >>= fnD 3 f_check_held) >>= fun _ => .ok (.nx ρ)) (fun ρ => ((gv ρ 0 >>= fun x => (m_mean_held_c0 ρ >>= fun x => .ok [] >>= fun xs => .ok (x :: xs)) >>= fun xs => .ok (x :: xs)) >>= fnD 2 f_mean_of) >>= fun d => .ok (.rt d))
def f_mean_held : List D → R D := fun ds => noX (m_mean_held (arg0 4 ds)) >>= ret false
def m_best_held_c0 : Env' → R D := dcD [5] (fun ρ => (gv ρ 3 >>= itL)) (tgN 5) (fun ρ => .ok true) (fun ρ => gv ρ 5) (fun ρ => (gv ρ 1 >>= fun x => gv ρ 5 >>= fun y => ixD x y))
def m_best_held_b0 : Env' → R Out := seqD (fun ρ => ((gv ρ 0 >>= fun x => (m_best_held_c0 ρ >>= fun x => .ok [] >>= fun xs => .ok (x :: xs)) >>= fun xs => .ok (x :: xs)) >>= fnD 2 f_mean_of) >>= fun d => setD 4 d ρ) (fun ρ => (((gv ρ 2 >>= fun x => .ok .none >>= fun y => isN x y) >>= asB) >>= fun c => if c then .ok true else ((((gv ρ 2 >>= fun x => .ok (.int 0) >>= fun y => ixD x y) >>= fun x => (gv ρ 4 >>= fun x => .ok [] >>= fun xs => .ok (x :: xs)) >>= fun xs => .ok (x :: xs)) >>= fnD 2 f_is_less) >>= asB)) >>= fun k => if k then (fun ρ => ((gv ρ 4 >>= fun x => (gv ρ 3 >>= fun x => .ok [] >>= fun xs => .ok (x :: xs)) >>= fun xs => .ok (x :: xs)) >>= fun xs => lenOk xs.length >>= fun _ => .ok (.tuple xs)) >>= fun d => setD 2 d ρ) ρ else (fun ρ => .ok (.nx ρ)) ρ)
def m_best_held : Env' → R Out := seqD (fun ρ => ((gv ρ 0 >>= fun x => (gv ρ 1 >>= fun x => .ok [] >>= fun xs => .ok (x :: xs)) >>= fun xs => .ok (x :: xs)) >>= fnD 2 f_check_stops) >>= fun _ => .ok (.nx ρ)) (seqD (fun ρ => .ok .none >>= fun d => setD 2 d ρ) (seqD (fun ρ => (((((gv ρ 1 >>= fun x => .ok [] >>= fun xs => .ok (x :: xs)) >>= lenD) >>= fun x => .ok [] >>= fun xs => .ok (x :: xs)) >>= fnD 1 f_sets_of) >>= itL) >>= fun ds => forD (tgN 3) m_best_held_b0 ds ρ) (fun ρ => gv ρ 2 >>= fun d => .ok (.rt d))))
def f_best_held : List D → R D := fun ds => noX (m_best_held (arg0 6 ds)) >>= ret false
def m_streak_b0 : Env' → R Out := fun ρ => ((gv ρ 8 >>= fun x => (gv ρ 9 >>= fun x => .ok [] >>= fun xs => .ok (x :: xs)) >>= fun xs => .ok (x :: xs)) >>= fnD 2 f_plus) >>= fun d => setD 8 d ρ
def m_streak_c0 : Env' → R D := compD [9] (fun ρ => ((gv ρ 5 >>= fun x => .ok none >>= fun l => (.ok (.int (-1)) >>= fun d => asI d >>= fun i => .ok (some i)) >>= fun h => slD x l h) >>= itL)) (tgN 9) (fun ρ => .ok true) (fun ρ => ((gv ρ 9 >>= fun x => (gv ρ 3 >>= fun x => .ok [] >>= fun xs => .ok (x :: xs)) >>= fun xs => .ok (x :: xs)) >>= fnD 2 f_times))
def m_streak_b1 : Env' → R Out := seqD (fun ρ => ((gv ρ 6 >>= fun x => ((((gv ρ 5 >>= fun x => .ok (.int (-1)) >>= fun y => ixD x y) >>= fun x => (gv ρ 3 >>= fun x => .ok [] >>= fun xs => .ok (x :: xs)) >>= fun xs => .ok (x :: xs)) >>= fnD 2 f_times) >>= fun x => .ok [] >>= fun xs => .ok (x :: xs)) >>= fun xs => .ok (x :: xs)) >>= fnD 2 f_plus) >>= fun d => setD 6 d ρ) (seqD (fun ρ => .ok kv_NOUGHT_held >>= fun d => setD 8 d ρ) (seqD (fun ρ => (gv ρ 5 >>= itL) >>= fun ds => forD (tgN 9) m_streak_b0 ds ρ) (fun ρ => ((((gv ρ 8 >>= fun x => (gv ρ 4 >>= fun x => .ok [] >>= fun xs => .ok (x :: xs)) >>= fun xs => .ok (x :: xs)) >>= fnD 2 f_times) >>= fun x => (m_streak_c0 ρ >>= fun x => seqOf x >>= fun zs => .ok [] >>= fun xs => .ok (zs ++ xs)) >>= fun xs => .ok (x :: xs)) >>= fun xs => lenOk xs.length >>= fun _ => .ok (.list xs)) >>= fun d => setD 5 d ρ)))
def m_streak : Env' → R Out := seqD (fun ρ => ((gv ρ 0 >>= fun x => .ok [] >>= fun xs => .ok (x :: xs)) >>= fnD 1 f_check_machine) >>= fun _ => .ok (.nx ρ)) (seqD (fun ρ => ((chD (fun i j => decide (i ≤ j)) (fun i j => decide (i ≤ j)) (fun ρ => .ok (.int 0)) (fun ρ => gv ρ 1) (fun ρ => .ok kv_MOST_SPINS) ρ >>= asB) >>= fun c => .ok (!c)) >>= fun k => if k then (fun _ => stk) ρ else (fun ρ => .ok (.nx ρ)) ρ) (seqD (fun ρ => ((chD (fun i j => decide (i ≤ j)) (fun i j => decide (i ≤ j)) (fun ρ => .ok (.int 1)) (fun ρ => gv ρ 2) (fun ρ => .ok kv_MOST_LENGTH) ρ >>= asB) >>= fun c => .ok (!c)) >>= fun k => if k then (fun _ => stk) ρ else (fun ρ => .ok (.nx ρ)) ρ) (seqD (fun ρ => ((gv ρ 0 >>= fun x => .ok [] >>= fun xs => .ok (x :: xs)) >>= fnD 1 f_hits) >>= fun d => setD 3 d ρ) (seqD (fun ρ => ((.ok kv_ONE_held >>= fun x => (gv ρ 3 >>= fun x => .ok [] >>= fun xs => .ok (x :: xs)) >>= fun xs => .ok (x :: xs)) >>= fnD 2 f_minus) >>= fun d => setD 4 d ρ) (seqD (fun ρ => ((.ok kv_ONE_held >>= fun x => ((((.ok kv_NOUGHT_held >>= fun x => .ok [] >>= fun xs => .ok (x :: xs)) >>= fun xs => lenOk xs.length >>= fun _ => .ok (.list xs)) >>= fun x => (gv ρ 2 >>= fun x => .ok (.int 1) >>= fun y => subI x y) >>= fun y => mulE x y) >>= fun x => seqOf x >>= fun zs => .ok [] >>= fun xs => .ok (zs ++ xs)) >>= fun xs => .ok (x :: xs)) >>= fun xs => lenOk xs.length >>= fun _ => .ok (.list xs)) >>= fun d => setD 5 d ρ) (seqD (fun ρ => .ok kv_NOUGHT_held >>= fun d => setD 6 d ρ) (seqD (fun ρ => ((gv ρ 1 >>= fun x => .ok [] >>= fun xs => .ok (x :: xs)) >>= rg1) >>= fun ds => forD (tgN 7) m_streak_b1 ds ρ) (fun ρ => gv ρ 6 >>= fun d => .ok (.rt d)))))))))
def f_streak : List D → R D := fun ds => noX (m_streak (arg0 10 ds)) >>= ret false
def m_mean_spins : Env' → R Out := seqD (fun ρ => ((gv ρ 0 >>= fun x => .ok [] >>= fun xs => .ok (x :: xs)) >>= fnD 1 f_hits) >>= fun d => setD 1 d ρ) (fun ρ => (((gv ρ 1 >>= fun x => .ok kv_NOUGHT_held >>= fun y => neD x y) >>= asB) >>= fun k => if k then ((.ok kv_ONE_held >>= fun x => (gv ρ 1 >>= fun x => .ok [] >>= fun xs => .ok (x :: xs)) >>= fun xs => .ok (x :: xs)) >>= fnD 2 f_over) else .ok .none) >>= fun d => .ok (.rt d))
def f_mean_spins : List D → R D := fun ds => noX (m_mean_spins (arg0 2 ds)) >>= ret false
def m_by_span : Env' → R Out := seqD (fun ρ => ((gv ρ 0 >>= fun x => .ok [] >>= fun xs => .ok (x :: xs)) >>= fnD 1 f_check_lights) >>= fun _ => .ok (.nx ρ)) (seqD (fun ρ => ((gv ρ 1 >>= fun x => (.ok (.int 0) >>= fun x => (.ok kv_MOST_ROW >>= fun x => .ok [] >>= fun xs => .ok (x :: xs)) >>= fun xs => .ok (x :: xs)) >>= fun xs => .ok (x :: xs)) >>= fnD 3 f_check_range) >>= fun _ => .ok (.nx ρ)) (seqD (fun ρ => ((gv ρ 2 >>= fun x => (.ok (.int 0) >>= fun x => (.ok kv_MOST_ROW >>= fun x => .ok [] >>= fun xs => .ok (x :: xs)) >>= fun xs => .ok (x :: xs)) >>= fun xs => .ok (x :: xs)) >>= fnD 3 f_check_range) >>= fun _ => .ok (.nx ρ)) (fun ρ => ((gv ρ 0 >>= fun x => (gv ρ 1 >>= fun x => (gv ρ 2 >>= fun x => .ok [] >>= fun xs => .ok (x :: xs)) >>= fun xs => .ok (x :: xs)) >>= fun xs => .ok (x :: xs)) >>= fnD 3 f_span_chance) >>= fun d => .ok (.rt d))))
def f_by_span : List D → R D := fun ds => noX (m_by_span (arg0 3 ds)) >>= ret false
def m_span_mean_c0 : Env' → R D := compD [3] (fun ρ => ((.ok (.int 1) >>= fun x => ((gv ρ 2 >>= fun x => .ok (.int 1) >>= fun y => addD x y) >>= fun x => .ok [] >>= fun xs => .ok (x :: xs)) >>= fun xs => .ok (x :: xs)) >>= rg2)) (tgN 3) (fun ρ => .ok true) (fun ρ => ((gv ρ 0 >>= fun x => (gv ρ 1 >>= fun x => (gv ρ 3 >>= fun x => .ok [] >>= fun xs => .ok (x :: xs)) >>= fun xs => .ok (x :: xs)) >>= fun xs => .ok (x :: xs)) >>= fnD 3 f_span_chance))
def m_span_mean : Env' → R Out := fun ρ => ((m_span_mean_c0 ρ >>= fun x => .ok [] >>= fun xs => .ok (x :: xs)) >>= fnD 1 f_mean_rounds) >>= fun d => .ok (.rt d)
def f_span_mean : List D → R D := fun ds => noX (m_span_mean (arg0 4 ds)) >>= ret false
def m_mean_by_span : Env' → R Out := seqD (fun ρ => ((gv ρ 0 >>= fun x => .ok [] >>= fun xs => .ok (x :: xs)) >>= fnD 1 f_check_lights) >>= fun _ => .ok (.nx ρ)) (seqD (fun ρ => ((gv ρ 1 >>= fun x => (.ok (.int 0) >>= fun x => (.ok kv_MOST_ROW >>= fun x => .ok [] >>= fun xs => .ok (x :: xs)) >>= fun xs => .ok (x :: xs)) >>= fun xs => .ok (x :: xs)) >>= fnD 3 f_check_range) >>= fun _ => .ok (.nx ρ)) (seqD (fun ρ => ((gv ρ 2 >>= fun x => (.ok (.int 0) >>= fun x => (.ok kv_MOST_ROUNDS >>= fun x => .ok [] >>= fun xs => .ok (x :: xs)) >>= fun xs => .ok (x :: xs)) >>= fun xs => .ok (x :: xs)) >>= fnD 3 f_check_range) >>= fun _ => .ok (.nx ρ)) (fun ρ => ((gv ρ 0 >>= fun x => (gv ρ 1 >>= fun x => (gv ρ 2 >>= fun x => .ok [] >>= fun xs => .ok (x :: xs)) >>= fun xs => .ok (x :: xs)) >>= fun xs => .ok (x :: xs)) >>= fnD 3 f_span_mean) >>= fun d => .ok (.rt d))))
def f_mean_by_span : List D → R D := fun ds => noX (m_mean_by_span (arg0 3 ds)) >>= ret false
def m_law_b0 : Env' → R Out := seqD (fun ρ => (gv ρ 12 >>= fun x => .ok (.int 1) >>= fun y => addD x y) >>= fun d => setD 12 d ρ) (seqD (fun ρ => ((gv ρ 11 >>= fun x => (((gv ρ 7 >>= fun x => (gv ρ 12 >>= fun x => (gv ρ 12 >>= fun x => .ok [] >>= fun xs => .ok (x :: xs)) >>= fun xs => .ok (x :: xs)) >>= fun xs => .ok (x :: xs)) >>= fnD 3 f_streak) >>= fun x => .ok [] >>= fun xs => .ok (x :: xs)) >>= fun xs => .ok (x :: xs)) >>= fnD 2 f__law_times) >>= fun d => setD 11 d ρ) (fun ρ => ((gv ρ 10 >>= fun x => (gv ρ 11 >>= fun x => .ok [] >>= fun xs => .ok (x :: xs)) >>= fun xs => .ok (x :: xs)) >>= fnD 2 f__law_plus) >>= fun d => setD 10 d ρ))
def m_law_b1 : Env' → R Out := seqD (fun ρ => (gv ρ 4 >>= fun x => ((((gv ρ 5 >>= fun x => gv ρ 14 >>= fun y => ixD x y) >>= fun x => gv ρ 6 >>= fun y => eqD x y) >>= fun x => .ok [] >>= fun xs => .ok (x :: xs)) >>= intD) >>= fun y => mulD x y) >>= fun d => setD 15 d ρ) (seqD (fun ρ => (((((gv ρ 7 >>= fun x => (((gv ρ 14 >>= fun x => .ok [] >>= fun xs => .ok (x :: xs)) >>= fun xs => lenOk xs.length >>= fun _ => .ok (.list xs)) >>= fun x => .ok [] >>= fun xs => .ok (x :: xs)) >>= fun xs => .ok (x :: xs)) >>= fnD 2 f_paid) >>= fun x => gv ρ 15 >>= fun y => neD x y) >>= asB) >>= fun c => if c then .ok true else (((((gv ρ 7 >>= fun x => (((gv ρ 14 >>= fun x => .ok [] >>= fun xs => .ok (x :: xs)) >>= fun xs => lenOk xs.length >>= fun _ => .ok (.list xs)) >>= fun x => (((.ok (.int 0) >>= fun x => .ok [] >>= fun xs => .ok (x :: xs)) >>= fun xs => lenOk xs.length >>= fun _ => .ok (.list xs)) >>= fun x => .ok [] >>= fun xs => .ok (x :: xs)) >>= fun xs => .ok (x :: xs)) >>= fun xs => .ok (x :: xs)) >>= fnD 3 f_mean_held) >>= fun x => ((gv ρ 15 >>= fun x => (.ok (.int 1) >>= fun x => .ok [] >>= fun xs => .ok (x :: xs)) >>= fun xs => .ok (x :: xs)) >>= fun xs => lenOk xs.length >>= fun _ => .ok (.tuple xs)) >>= fun y => neD x y) >>= asB) >>= fun c => if c then .ok true else ((((gv ρ 7 >>= fun x => (((gv ρ 14 >>= fun x => .ok [] >>= fun xs => .ok (x :: xs)) >>= fun xs => lenOk xs.length >>= fun _ => .ok (.list xs)) >>= fun x => ((.ok [] >>= fun xs => lenOk xs.length >>= fun _ => .ok (.list xs)) >>= fun x => .ok [] >>= fun xs => .ok (x :: xs)) >>= fun xs => .ok (x :: xs)) >>= fun xs => .ok (x :: xs)) >>= fnD 3 f_mean_held) >>= fun x => ((.ok (.int 1) >>= fun x => (.ok (.int 1) >>= fun x => .ok [] >>= fun xs => .ok (x :: xs)) >>= fun xs => .ok (x :: xs)) >>= fun xs => lenOk xs.length >>= fun _ => .ok (.tuple xs)) >>= fun y => neD x y) >>= asB))) >>= fun k => if k then (fun ρ => .ok (.bool false) >>= fun d => .ok (.rt d)) ρ else (fun ρ => .ok (.nx ρ)) ρ) (fun ρ => ((((gv ρ 7 >>= fun x => (((gv ρ 14 >>= fun x => .ok [] >>= fun xs => .ok (x :: xs)) >>= fun xs => lenOk xs.length >>= fun _ => .ok (.list xs)) >>= fun x => .ok [] >>= fun xs => .ok (x :: xs)) >>= fun xs => .ok (x :: xs)) >>= fnD 2 f_best_held) >>= fun x => (((((((.ok (.int 1) >>= fun x => (.ok (.int 1) >>= fun x => .ok [] >>= fun xs => .ok (x :: xs)) >>= fun xs => .ok (x :: xs)) >>= fun xs => lenOk xs.length >>= fun _ => .ok (.tuple xs)) >>= fun x => ((.ok [] >>= fun xs => lenOk xs.length >>= fun _ => .ok (.list xs)) >>= fun x => .ok [] >>= fun xs => .ok (x :: xs)) >>= fun xs => .ok (x :: xs)) >>= fun xs => lenOk xs.length >>= fun _ => .ok (.tuple xs)) >>= fun x => (((((gv ρ 4 >>= fun x => (.ok (.int 1) >>= fun x => .ok [] >>= fun xs => .ok (x :: xs)) >>= fun xs => .ok (x :: xs)) >>= fun xs => lenOk xs.length >>= fun _ => .ok (.tuple xs)) >>= fun x => (((.ok (.int 0) >>= fun x => .ok [] >>= fun xs => .ok (x :: xs)) >>= fun xs => lenOk xs.length >>= fun _ => .ok (.list xs)) >>= fun x => .ok [] >>= fun xs => .ok (x :: xs)) >>= fun xs => .ok (x :: xs)) >>= fun xs => lenOk xs.length >>= fun _ => .ok (.tuple xs)) >>= fun x => .ok [] >>= fun xs => .ok (x :: xs)) >>= fun xs => .ok (x :: xs)) >>= fun xs => lenOk xs.length >>= fun _ => .ok (.list xs)) >>= fun x => (((gv ρ 15 >>= fun x => .ok (.int 0) >>= fun y => gtD x y) >>= fun x => .ok [] >>= fun xs => .ok (x :: xs)) >>= intD) >>= fun y => ixD x y) >>= fun y => neD x y) >>= asB) >>= fun k => if k then (fun ρ => .ok (.bool false) >>= fun d => .ok (.rt d)) ρ else (fun ρ => .ok (.nx ρ)) ρ))
def m_law_b2 : Env' → R Out := seqD (fun ρ => (.ok (.int 10) >>= fun x => (.ok (.int 10) >>= fun x => gv ρ 2 >>= fun y => mulD x y) >>= fun y => addD x y) >>= fun d => setD 3 d ρ) (seqD (fun ρ => (.ok (.int 2) >>= fun x => ((gv ρ 1 >>= fun x => (gv ρ 3 >>= fun x => (.ok (.int 5) >>= fun x => .ok [] >>= fun xs => .ok (x :: xs)) >>= fun xs => .ok (x :: xs)) >>= fun xs => .ok (x :: xs)) >>= fnD 3 f__law_mix) >>= fun y => addD x y) >>= fun d => setD 4 d ρ) (seqD (fun ρ => (.ok (.str (tx [65, 66, 67, 68, 69, 70])) >>= fun x => .ok none >>= fun l => (gv ρ 4 >>= fun d => asI d >>= fun i => .ok (some i)) >>= fun h => slD x l h) >>= fun d => setD 5 d ρ) (seqD (fun ρ => (gv ρ 5 >>= fun x => ((gv ρ 1 >>= fun x => ((gv ρ 3 >>= fun x => .ok (.int 1) >>= fun y => addD x y) >>= fun x => (gv ρ 4 >>= fun x => .ok [] >>= fun xs => .ok (x :: xs)) >>= fun xs => .ok (x :: xs)) >>= fun xs => .ok (x :: xs)) >>= fnD 3 f__law_mix) >>= fun y => ixD x y) >>= fun d => setD 6 d ρ) (seqD (fun ρ => ((((gv ρ 5 >>= fun x => .ok [] >>= fun xs => .ok (x :: xs)) >>= fun xs => lenOk xs.length >>= fun _ => .ok (.list xs)) >>= fun x => (((((gv ρ 6 >>= fun x => (gv ρ 4 >>= fun x => .ok [] >>= fun xs => .ok (x :: xs)) >>= fun xs => .ok (x :: xs)) >>= fun xs => lenOk xs.length >>= fun _ => .ok (.tuple xs)) >>= fun x => .ok [] >>= fun xs => .ok (x :: xs)) >>= fun xs => lenOk xs.length >>= fun _ => .ok (.list xs)) >>= fun x => .ok [] >>= fun xs => .ok (x :: xs)) >>= fun xs => .ok (x :: xs)) >>= fun xs => lenOk xs.length >>= fun _ => .ok (.tuple xs)) >>= fun d => setD 7 d ρ) (seqD (fun ρ => (((((gv ρ 7 >>= fun x => .ok [] >>= fun xs => .ok (x :: xs)) >>= fnD 1 f_hits) >>= fun x => ((.ok (.int 1) >>= fun x => (gv ρ 4 >>= fun x => .ok [] >>= fun xs => .ok (x :: xs)) >>= fun xs => .ok (x :: xs)) >>= fun xs => lenOk xs.length >>= fun _ => .ok (.tuple xs)) >>= fun y => neD x y) >>= asB) >>= fun c => if c then .ok true else (((((gv ρ 7 >>= fun x => .ok [] >>= fun xs => .ok (x :: xs)) >>= fnD 1 f_by_pattern) >>= fun x => ((((.ok (.int 1) >>= fun x => (gv ρ 4 >>= fun x => .ok [] >>= fun xs => .ok (x :: xs)) >>= fun xs => .ok (x :: xs)) >>= fun xs => lenOk xs.length >>= fun _ => .ok (.tuple xs)) >>= fun x => .ok [] >>= fun xs => .ok (x :: xs)) >>= fun xs => lenOk xs.length >>= fun _ => .ok (.list xs)) >>= fun y => neD x y) >>= asB) >>= fun c => if c then .ok true else (((((gv ρ 7 >>= fun x => .ok [] >>= fun xs => .ok (x :: xs)) >>= fnD 1 f_mean_spins) >>= fun x => ((gv ρ 4 >>= fun x => (.ok (.int 1) >>= fun x => .ok [] >>= fun xs => .ok (x :: xs)) >>= fun xs => .ok (x :: xs)) >>= fun xs => lenOk xs.length >>= fun _ => .ok (.tuple xs)) >>= fun y => neD x y) >>= asB) >>= fun c => if c then .ok true else ((((gv ρ 7 >>= fun x => (.ok (.int 1) >>= fun x => .ok [] >>= fun xs => .ok (x :: xs)) >>= fun xs => .ok (x :: xs)) >>= fnD 2 f_share) >>= fun x => ((.ok (.int 1) >>= fun x => (.ok (.int 1) >>= fun x => .ok [] >>= fun xs => .ok (x :: xs)) >>= fun xs => .ok (x :: xs)) >>= fun xs => lenOk xs.length >>= fun _ => .ok (.tuple xs)) >>= fun y => neD x y) >>= asB)))) >>= fun k => if k then (fun ρ => .ok (.bool false) >>= fun d => .ok (.rt d)) ρ else (fun ρ => .ok (.nx ρ)) ρ) (seqD (fun ρ => (.ok (.int 1) >>= fun x => ((gv ρ 1 >>= fun x => ((gv ρ 3 >>= fun x => .ok (.int 2) >>= fun y => addD x y) >>= fun x => (.ok (.int 10) >>= fun x => .ok [] >>= fun xs => .ok (x :: xs)) >>= fun xs => .ok (x :: xs)) >>= fun xs => .ok (x :: xs)) >>= fnD 3 f__law_mix) >>= fun y => addD x y) >>= fun d => setD 8 d ρ) (seqD (fun ρ => (((((gv ρ 7 >>= fun x => (gv ρ 8 >>= fun x => (gv ρ 8 >>= fun x => .ok [] >>= fun xs => .ok (x :: xs)) >>= fun xs => .ok (x :: xs)) >>= fun xs => .ok (x :: xs)) >>= fnD 3 f_streak) >>= fun x => ((gv ρ 4 >>= fun x => (.ok (.int 0) >>= fun x => (gv ρ 8 >>= fun x => .ok [] >>= fun xs => .ok (x :: xs)) >>= fun xs => .ok (x :: xs)) >>= fun xs => .ok (x :: xs)) >>= fnD 3 f_by_span) >>= fun y => neD x y) >>= asB) >>= fun c => if c then .ok true else ((((gv ρ 4 >>= fun x => (((.ok (.int 0) >>= fun x => (.ok (.int 1) >>= fun x => .ok [] >>= fun xs => .ok (x :: xs)) >>= fun xs => .ok (x :: xs)) >>= fun xs => lenOk xs.length >>= fun _ => .ok (.tuple xs)) >>= fun x => (gv ρ 8 >>= fun x => .ok [] >>= fun xs => .ok (x :: xs)) >>= fun xs => .ok (x :: xs)) >>= fun xs => .ok (x :: xs)) >>= fnD 3 f_by_hold) >>= fun x => ((gv ρ 4 >>= fun x => (.ok (.int 0) >>= fun x => (gv ρ 8 >>= fun x => .ok [] >>= fun xs => .ok (x :: xs)) >>= fun xs => .ok (x :: xs)) >>= fun xs => .ok (x :: xs)) >>= fnD 3 f_by_span) >>= fun y => neD x y) >>= asB)) >>= fun k => if k then (fun ρ => .ok (.bool false) >>= fun d => .ok (.rt d)) ρ else (fun ρ => .ok (.nx ρ)) ρ) (seqD (fun ρ => ((((gv ρ 4 >>= fun x => (((.ok (.int 1) >>= fun x => (gv ρ 4 >>= fun x => .ok [] >>= fun xs => .ok (x :: xs)) >>= fun xs => .ok (x :: xs)) >>= fun xs => lenOk xs.length >>= fun _ => .ok (.tuple xs)) >>= fun x => (.ok (.int 1) >>= fun x => .ok [] >>= fun xs => .ok (x :: xs)) >>= fun xs => .ok (x :: xs)) >>= fun xs => .ok (x :: xs)) >>= fnD 3 f_by_hold) >>= fun x => ((gv ρ 7 >>= fun x => (.ok (.int 2) >>= fun x => (.ok (.int 1) >>= fun x => .ok [] >>= fun xs => .ok (x :: xs)) >>= fun xs => .ok (x :: xs)) >>= fun xs => .ok (x :: xs)) >>= fnD 3 f_streak) >>= fun y => neD x y) >>= asB) >>= fun k => if k then (fun ρ => .ok (.bool false) >>= fun d => .ok (.rt d)) ρ else (fun ρ => .ok (.nx ρ)) ρ) (seqD (fun ρ => ((gv ρ 1 >>= fun x => ((gv ρ 3 >>= fun x => .ok (.int 3) >>= fun y => addD x y) >>= fun x => (.ok (.int 7) >>= fun x => .ok [] >>= fun xs => .ok (x :: xs)) >>= fun xs => .ok (x :: xs)) >>= fun xs => .ok (x :: xs)) >>= fnD 3 f__law_mix) >>= fun d => setD 9 d ρ) (seqD (fun ρ => ((((.ok (.int 0) >>= fun x => (.ok (.int 1) >>= fun x => .ok [] >>= fun xs => .ok (x :: xs)) >>= fun xs => .ok (x :: xs)) >>= fun xs => lenOk xs.length >>= fun _ => .ok (.tuple xs)) >>= fun x => (((.ok (.int 1) >>= fun x => (.ok (.int 1) >>= fun x => .ok [] >>= fun xs => .ok (x :: xs)) >>= fun xs => .ok (x :: xs)) >>= fun xs => lenOk xs.length >>= fun _ => .ok (.tuple xs)) >>= fun x => (.ok (.int 0) >>= fun x => .ok [] >>= fun xs => .ok (x :: xs)) >>= fun xs => .ok (x :: xs)) >>= fun xs => .ok (x :: xs)) >>= fun xs => lenOk xs.length >>= fun _ => .ok (.tuple xs)) >>= fun d => (unT 3 (tsC (tgN 10) (tsC (tgN 11) (tsC (tgN 12) tsN)))) d ρ >>= fun ρ' => .ok (.nx ρ')) (seqD (fun ρ => ((gv ρ 9 >>= fun x => .ok [] >>= fun xs => .ok (x :: xs)) >>= rg1) >>= fun ds => forD (tgN 13) m_law_b0 ds ρ) (seqD (fun ρ => ((((gv ρ 4 >>= fun x => (.ok (.int 0) >>= fun x => (gv ρ 9 >>= fun x => .ok [] >>= fun xs => .ok (x :: xs)) >>= fun xs => .ok (x :: xs)) >>= fun xs => .ok (x :: xs)) >>= fnD 3 f_mean_by_span) >>= fun x => gv ρ 10 >>= fun y => neD x y) >>= asB) >>= fun k => if k then (fun ρ => .ok (.bool false) >>= fun d => .ok (.rt d)) ρ else (fun ρ => .ok (.nx ρ)) ρ) (fun ρ => ((gv ρ 4 >>= fun x => .ok [] >>= fun xs => .ok (x :: xs)) >>= rg1) >>= fun ds => forD (tgN 14) m_law_b1 ds ρ)))))))))))))
def m_law : Env' → R Out := seqD (fun ρ => ((gv ρ 0 >>= fun x => .ok [] >>= fun xs => .ok (x :: xs)) >>= fnD 1 f__law_draws) >>= fun d => setD 1 d ρ) (seqD (fun ρ => ((.ok (.int 4) >>= fun x => .ok [] >>= fun xs => .ok (x :: xs)) >>= rg1) >>= fun ds => forD (tgN 2) m_law_b2 ds ρ) (fun ρ => .ok (.bool true) >>= fun d => .ok (.rt d)))
def f_law : List D → R D := fun ds => noX (m_law (arg0 16 ds)) >>= ret false
end Gk92

set_option Elab.async false
set_option linter.all false
set_option maxRecDepth 100000
namespace Gk92
open PySem PySem.Spec PyProof.Rows L2 Vs Vt
open En (en)
def c_ANY : Tx := [42]
def c_LEAST_LIGHTS : Int := 2
def c_MOST_COINS : Int := 10000
def c_MOST_LENGTH : Int := 10
def c_MOST_LIGHTS : Int := 6
def c_MOST_PAYS : Int := 8
def c_MOST_PLACES : Int := 8
def c_MOST_ROUNDS : Int := 30
def c_MOST_ROW : Int := 40
def c_MOST_SPINS : Int := 30
def c_MOST_STRIPS : Int := 4
def c_NOUGHT_held : (Int × Int) := (0, 1)
def c_NOUGHT_memory : (Int × Int) := (0, 1)
def c_ONE_held : (Int × Int) := (1, 1)
def c_ONE_memory : (Int × Int) := (1, 1)
def c_SIGNS : Tx := [65, 66, 67, 68, 69, 70]
def p_is_fraction (told_ : (Int × Int)) : R Bool := .ok ((decide ((0 : Int) < told_.2)) && (decide (((Nat.gcd told_.1.natAbs told_.2.natAbs : Nat) : Int) = (1 : Int))))
set_option maxHeartbeats 0 in
theorem t_is_fraction (told_ : (Int × Int)) : Ev (f_is_fraction [en told_]) (p_is_fraction told_) :=
  v_def [some (en told_)] ((jm_last (jm_retS _ (e_and (t_val (e_gt (e_p2 (p := told_) rfl) rfl)) (e_eq (a := ((Nat.gcd told_.1.natAbs told_.2.natAbs : Nat) : Int)) (b := (1 : Int)) (e_gcd (a_co (e_p1 (p := told_) rfl) (a_co (e_p2 (p := told_) rfl) a_no))) rfl)) rfl)))
def p_fraction (number_ : Int) (by_ : Int) : R (Int × Int) := (if decide (by_ < (0 : Int)) then .ok ((-number_) : Int) >>= fun number__2 => .ok ((-by_) : Int) >>= fun by__3 => .ok (number__2, by__3) else .ok (number_, by_) : R (Int × Int)) >>= fun s_4 => .ok (((Nat.gcd s_4.1.natAbs s_4.2.natAbs : Nat) : Int) : Int) >>= fun common__6 => fdivWG s_4.1 common__6 >>= fun i_7 => fdivWG s_4.2 common__6 >>= fun i_8 => .ok (i_7, i_8)
set_option maxHeartbeats 0 in
theorem t_fraction (number_ : Int) (by_ : Int) : Ev (f_fraction [en number_, en by_]) (p_fraction number_ by_) :=
  v_def [some (en number_), some (en by_), none] ((jm_seq (fun (s_4 : (Int × Int)) (j_5 : Nat → Option D) => [some (en s_4.1), some (en s_4.2), none]) (jm_if (t_val (e_lt rfl rfl)) (fun k_1 => (jm_last (jm_bind fun number__2 hnumber__2 => (jm_bind fun by__3 hby__3 => (jm_par (x := number__2) (y := by__3) (a_co (at_ok hnumber__2 (e_neg rfl)) (a_co (at_ok hby__3 (e_neg rfl)) a_no)) [some (en number__2), some (en by__3), none] (jm_ok ⟨jn [some (en number__2), some (en by__3), none], rfl⟩)))))) (fun k_1 => (jm_ok ⟨jn [some (en number_), some (en by_), none], rfl⟩))) (fun s_4 j_5 => (jm_bind fun common__6 hcommon__6 => (jm_set (x := common__6) (at_ok hcommon__6 (e_gcd (a_co rfl (a_co rfl a_no)))) [some (en s_4.1), some (en s_4.2), some (en common__6)] (jm_last (jm_bind fun i_7 hi_7 => (jm_bind fun i_8 hi_8 => (jm_retS _ (e_t2 (a := i_7) (b := i_8) (a_co (atv hi_7 (v_fdivW rfl rfl)) (a_co (atv hi_8 (v_fdivW rfl rfl)) a_no))) rfl)))))))))
def p_is_less (one_ : (Int × Int)) (two_ : (Int × Int)) : R Bool := mulG one_.1 two_.2 >>= fun i_3 => mulG two_.1 one_.2 >>= fun i_4 => .ok (decide (i_3 < i_4))
set_option maxHeartbeats 0 in
theorem t_is_less (one_ : (Int × Int)) (two_ : (Int × Int)) : Ev (f_is_less [en one_, en two_]) (p_is_less one_ two_) :=
  v_def [some (en one_), some (en two_)] ((jm_last (jm_bind fun i_3 hi_3 => (jm_bind fun i_4 hi_4 => (jm_retS _ (e_lt (atv hi_3 (v_mul (e_p1 (p := one_) rfl) (e_p2 (p := two_) rfl))) (atv hi_4 (v_mul (e_p1 (p := two_) rfl) (e_p2 (p := one_) rfl)))) rfl)))))
def p_check_machine_b0 (k_ : Int) (strip_ : Tx) : R Unit := lenS strip_ >>= fun n_3 => (if (!(decide ((1 : Int) ≤ n_3) && decide (n_3 ≤ c_MOST_PLACES))) then .ok true else mapG (fun (a_4 : Tx) => .ok (inS a_4 c_SIGNS)) (sgs strip_) >>= fun l_5 => .ok (!(l_5.all id))) >>= fun b_6 => (if b_6 then stk else .ok ())
set_option maxHeartbeats 0 in
theorem t_check_machine_b0 (machine_ : ((List Tx) × (List (Tx × Int)))) (strips_ : (List Tx)) (pays_ : (List (Tx × Int))) (k_ : Int) (strip_ : Tx) (j : Nat → Option D) : Jm (ap m_check_machine_b0 [some (en machine_), some (en strips_), some (en pays_), some (en k_), some (en strip_), j 5, j 6, j 7, j 8]) (p_check_machine_b0 k_ strip_) (WL (σ := Unit) (fun (s : Unit) (j : Nat → Option D) => [some (en machine_), some (en strips_), some (en pays_), j 3, j 4, j 5, j 6, j 7, j 8])) :=
  (jm_last (jm_bind fun n_3 hn_3 => (jm_bind fun b_6 hb_6 => (jm_ifs (att hb_6 (et_or (t_not (t_val (e_ch rfl (atv hn_3 (v_lenS (a_co rfl a_no))) rfl))) (et_bind fun l_5 hl_5 => (et_ok (t_not (t_val (e_all (bs := l_5) (a_co (atl hl_5 (v_map (fun (a_4 : Tx) => [some (en machine_), some (en strips_), some (en pays_), some (en k_), some (en strip_), j 5, j 6, j 7, some (en a_4)]) (i_s rfl) (fun a_4 => (ev_ok (e_inS rfl rfl))))) a_no)))))))) (fun k_7 => jm_stk) (fun k_7 => (jm_first (jm_ok ⟨jn [some (en machine_), some (en strips_), some (en pays_), some (en k_), some (en strip_), j 5, j 6, j 7, j 8], rfl⟩)))))))
def p_check_machine_b1 (strips_ : (List Tx)) (k_ : Int) (pattern_ : Tx) (coins_ : Int) : R Unit := lenS pattern_ >>= fun n_12 => (if decide (n_12 = (strips_.length : Int)) then mapG (fun (a_13 : Tx) => addS c_SIGNS c_ANY >>= fun t_15 => .ok (inS a_13 t_15)) (sgs pattern_) >>= fun l_16 => .ok (l_16.all id) else .ok false) >>= fun b_17 => (if ((!b_17) || (!(decide ((1 : Int) ≤ coins_) && decide (coins_ ≤ c_MOST_COINS)))) then stk else .ok ())
set_option maxHeartbeats 0 in
theorem t_check_machine_b1 (machine_ : ((List Tx) × (List (Tx × Int)))) (strips_ : (List Tx)) (pays_ : (List (Tx × Int))) (k_ : Int) (pattern_ : Tx) (coins_ : Int) (j : Nat → Option D) : Jm (ap m_check_machine_b1 [some (en machine_), some (en strips_), some (en pays_), some (en k_), j 4, some (en pattern_), some (en coins_), j 7, j 8]) (p_check_machine_b1 strips_ k_ pattern_ coins_) (WL (σ := Unit) (fun (s : Unit) (j : Nat → Option D) => [some (en machine_), some (en strips_), some (en pays_), j 3, j 4, j 5, j 6, j 7, j 8])) :=
  (jm_bind fun n_12 hn_12 => (jm_bind fun b_17 hb_17 => (jm_set (x := b_17) (atv hb_17 (ev_and (t_val (e_eq (a := n_12) (b := (strips_.length : Int)) (atv hn_12 (v_lenS (a_co rfl a_no))) (e_lenL (xs := strips_) (a_co rfl a_no)))) (ev_bind fun l_16 hl_16 => (ev_ok (e_all (bs := l_16) (a_co (atl hl_16 (v_map (fun (a_13 : Tx) => [some (en machine_), some (en strips_), some (en pays_), some (en k_), j 4, some (en pattern_), some (en coins_), j 7, some (en a_13)]) (i_s rfl) (fun a_13 => (ev_bind fun t_15 ht_15 => (ev_ok (e_inS rfl (atv ht_15 (v_addS rfl rfl)))))))) a_no)))))) [some (en machine_), some (en strips_), some (en pays_), some (en k_), j 4, some (en pattern_), some (en coins_), some (en b_17), j 8] (jm_last (jm_ifs (t_or (t_not (t_val rfl)) (t_not (t_val (e_ch rfl rfl rfl)))) (fun k_18 => jm_stk) (fun k_18 => (jm_first (jm_ok ⟨jn [some (en machine_), some (en strips_), some (en pays_), some (en k_), j 4, some (en pattern_), some (en coins_), some (en b_17), j 8], rfl⟩))))))))
def p_check_machine (machine_ : ((List Tx) × (List (Tx × Int)))) : R Unit := .ok (machine_ : ((List Tx) × (List (Tx × Int)))) >>= fun u_1 => (if (!(decide ((1 : Int) ≤ (u_1.1.length : Int)) && decide ((u_1.1.length : Int) ≤ c_MOST_STRIPS))) then stk else forS (fun (x : (Int × Tx)) (s : Unit) => p_check_machine_b0 x.1 x.2) (enI 0 u_1.1) () >>= fun s_8 => (if decide (c_MOST_PAYS < (u_1.2.length : Int)) then stk else forS (fun (x : (Int × (Tx × Int))) (s : Unit) => p_check_machine_b1 u_1.1 x.1 x.2.1 x.2.2) (enI 0 u_1.2) () >>= fun s_19 => .ok ()))
set_option maxHeartbeats 0 in
theorem t_check_machine (machine_ : ((List Tx) × (List (Tx × Int)))) : Ev (f_check_machine [en machine_]) (p_check_machine machine_) :=
  v_def [some (en machine_), none, none, none, none, none, none, none, none] ((jm_bind fun u_1 hu_1 => (jm_tg (x := u_1) (at_ok hu_1 rfl) [some (en machine_), some (en u_1.1), some (en u_1.2), none, none, none, none, none, none] (jm_ifs (t_not (t_val (e_ch rfl (e_lenL (xs := u_1.1) (a_co rfl a_no)) rfl))) (fun k_2 => jm_stk) (fun k_2 => (jm_first (jm_seq (fun (s : Unit) (j : Nat → Option D) => [some (en machine_), some (en u_1.1), some (en u_1.2), j 3, j 4, j 5, j 6, j 7, j 8]) (jm_for (σ := Unit) (s0 := ()) (fun (s : Unit) (j : Nat → Option D) => [some (en machine_), some (en u_1.1), some (en u_1.2), j 3, j 4, j 5, j 6, j 7, j 8]) (i_e (xs := u_1.1) (a_co rfl a_no)) (fun (x : (Int × Tx)) (s : Unit) j => jm_go [some (en machine_), some (en u_1.1), some (en u_1.2), some (en x.1), some (en x.2), j 5, j 6, j 7, j 8] (t_check_machine_b0 machine_ u_1.1 u_1.2 x.1 x.2 j))) (fun s_8 j_9 => (jm_ifs (t_val (e_gt (e_lenL (xs := u_1.2) (a_co rfl a_no)) rfl)) (fun k_10 => jm_stk) (fun k_10 => (jm_first (jm_last (jm_seq (fun (s : Unit) (j : Nat → Option D) => [some (en machine_), some (en u_1.1), some (en u_1.2), j 3, j 4, j 5, j 6, j 7, j 8]) (jm_for (σ := Unit) (s0 := ()) (fun (s : Unit) (j : Nat → Option D) => [some (en machine_), some (en u_1.1), some (en u_1.2), j 3, j 4, j 5, j 6, j 7, j 8]) (i_e (xs := u_1.2) (a_co rfl a_no)) (fun (x : (Int × (Tx × Int))) (s : Unit) j => jm_go [some (en machine_), some (en u_1.1), some (en u_1.2), some (en x.1), j 4, some (en x.2.1), some (en x.2.2), j 7, j 8] (t_check_machine_b1 machine_ u_1.1 u_1.2 x.1 x.2.1 x.2.2 j))) (fun s_19 j_20 => (jm_ok rfl)))))))))))))))
def p_is_met (machine_ : ((List Tx) × (List (Tx × Int)))) (pattern_ : Tx) (stops_ : (List Int)) : R Bool := mapG (fun (a_1 : (T3 Tx Tx Int)) => atS a_1.b a_1.c >>= fun v_3 => .ok (hasT ([c_ANY, v_3] : List Tx) a_1.a)) (zip3T (sgs pattern_) machine_.1 stops_) >>= fun l_4 => .ok (l_4.all id)
set_option maxHeartbeats 0 in
theorem t_is_met (machine_ : ((List Tx) × (List (Tx × Int)))) (pattern_ : Tx) (stops_ : (List Int)) : Ev (f_is_met [en machine_, en pattern_, en stops_]) (p_is_met machine_ pattern_ stops_) :=
  v_def [some (en machine_), some (en pattern_), some (en stops_), none, none, none] ((jm_last (jm_bind fun l_4 hl_4 => (jm_retS _ (e_all (bs := l_4) (a_co (atl hl_4 (v_map (fun (a_1 : (T3 Tx Tx Int)) => [some (en machine_), some (en pattern_), some (en stops_), some (en a_1.a), some (en a_1.b), some (en a_1.c)]) (i_z3 (a_co rfl (a_co (e_p1 (p := machine_) rfl) (a_co rfl a_no))) (sz_s (x := pattern_)) (sz_l (xs := machine_.1)) (sz_l (xs := stops_))) (fun a_1 => (ev_bind fun v_3 hv_3 => (ev_ok (e_inT rfl (e_tu (xs := [c_ANY, v_3]) (a_co rfl (a_co (atv hv_3 (v_ixs rfl rfl)) a_no))))))))) a_no)) rfl))))
def p_stops_of_b0 (fixed_ : (Dc Int Int)) (found_ : (List (List Int))) (k_ : Int) (strip_ : Tx) : R (List (List Int)) := (if (dcF fixed_ k_).isSome then dcG fixed_ k_ >>= fun v_6 => .ok ([v_6] : (List Int)) else lenS strip_ >>= fun n_7 => lrR 0 n_7 >>= fun l_8 => .ok l_8) >>= fun v_9 => mapG2 (fun (a_10 : (List Int)) => (.ok v_9) >>= fun ys => mapR (fun (b_11 : Int) => lstG (a_10 ++ [b_11]) >>= fun l_12 => .ok l_12) ys) found_ >>= fun l_13 => .ok l_13
set_option maxHeartbeats 0 in
theorem t_stops_of_b0 (machine_ : ((List Tx) × (List (Tx × Int)))) (fixed_ : (Dc Int Int)) (found_ : (List (List Int))) (k_ : Int) (strip_ : Tx) (j : Nat → Option D) : Jm (ap m_stops_of_b0 [some (en machine_), some (en fixed_), some (en found_), some (en k_), some (en strip_), j 5, j 6, j 7]) (p_stops_of_b0 fixed_ found_ k_ strip_) (WL (σ := (List (List Int))) (fun (s : (List (List Int))) (j : Nat → Option D) => [some (en machine_), some (en fixed_), some (en s), j 3, j 4, j 5, j 6, j 7])) :=
  (jm_bind fun v_9 hv_9 => (jm_set (x := v_9) (atv hv_9 (ev_if (t_val (e_inD (a := k_) (d := fixed_) kyA rfl rfl)) (ev_bind fun v_6 hv_6 => (ev_ok (e_li (xs := [v_6]) (a_co (atv hv_6 (v_ixd (d := fixed_) (k := k_) kyA rfl rfl)) a_no)))) (ev_bind fun n_7 hn_7 => (ev_bind fun l_8 hl_8 => (ev_ok (atl hl_8 (v_lr1 (atv hn_7 (v_lenS (a_co rfl a_no)))))))))) [some (en machine_), some (en fixed_), some (en found_), some (en k_), some (en strip_), some (en v_9), j 6, j 7] (jm_last (jm_bind fun l_13 hl_13 => (jm_set (x := l_13) (atl hl_13 (v_map2 (fun (a_10 : (List Int)) => [some (en machine_), some (en fixed_), some (en found_), some (en k_), some (en strip_), some (en v_9), some (en a_10), none]) (fun (a_10 : (List Int)) (b_11 : Int) => [some (en machine_), some (en fixed_), some (en found_), some (en k_), some (en strip_), some (en v_9), some (en a_10), some (en b_11)]) (i_l (xs := found_) rfl) (fun a_10 => (i_ok (i_l (xs := v_9) rfl))) (fun a_10 b_11 => (ev_bind fun l_12 hl_12 => (ev_ok (atl hl_12 (v_li (xs := a_10 ++ [b_11]) (a_st rfl (a_co rfl a_no)) (by simp <;> first | rfl | exact ⟨rfl, rfl⟩)))))))) [some (en machine_), some (en fixed_), some (en l_13), some (en k_), some (en strip_), some (en v_9), j 6, j 7] (jm_ok ⟨jn [some (en machine_), some (en fixed_), some (en l_13), some (en k_), some (en strip_), some (en v_9), j 6, j 7], rfl⟩))))))
def p_stops_of (machine_ : ((List Tx) × (List (Tx × Int)))) (fixed_ : (Dc Int Int)) : R (List (List Int)) := .ok (([([] : (List Int))] : (List (List Int))) : (List (List Int))) >>= fun found__1 => forS (fun (x : (Int × Tx)) (s : (List (List Int))) => p_stops_of_b0 fixed_ s x.1 x.2) (enI 0 machine_.1) found__1 >>= fun s_14 => .ok s_14
set_option maxHeartbeats 0 in
theorem t_stops_of (machine_ : ((List Tx) × (List (Tx × Int)))) (fixed_ : (Dc Int Int)) : Ev (f_stops_of [en machine_, en fixed_]) (p_stops_of machine_ fixed_) :=
  v_def [some (en machine_), some (en fixed_), none, none, none, none, none, none] ((jm_bind fun found__1 hfound__1 => (jm_set (x := found__1) (at_ok hfound__1 (e_li (xs := [([] : (List Int))]) (a_co rfl a_no))) [some (en machine_), some (en fixed_), some (en found__1), none, none, none, none, none] (jm_seq (fun (s : (List (List Int))) (j : Nat → Option D) => [some (en machine_), some (en fixed_), some (en s), j 3, j 4, j 5, j 6, j 7]) (jm_for (σ := (List (List Int))) (s0 := found__1) (fun (s : (List (List Int))) (j : Nat → Option D) => [some (en machine_), some (en fixed_), some (en s), j 3, j 4, j 5, j 6, j 7]) (i_e (xs := machine_.1) (a_co (e_p1 (p := machine_) rfl) a_no)) (fun (x : (Int × Tx)) (s : (List (List Int))) j => jm_go [some (en machine_), some (en fixed_), some (en s), some (en x.1), some (en x.2), j 5, j 6, j 7] (t_stops_of_b0 machine_ fixed_ s x.1 x.2 j))) (fun s_14 j_15 => (jm_last (jm_retS _ rfl rfl)))))))
def p_sets_of_b0 (found_ : (List (List Int))) (one_ : Int) : R (List (List Int)) := mapG (fun (a_3 : (List Int)) => lstG (a_3 ++ [one_]) >>= fun l_4 => .ok l_4) found_ >>= fun l_5 => exG found_ l_5 >>= fun found__6 => .ok found__6
set_option maxHeartbeats 0 in
theorem t_sets_of_b0 (many_ : Int) (found_ : (List (List Int))) (one_ : Int) (j : Nat → Option D) : Jm (ap m_sets_of_b0 [some (en many_), some (en found_), some (en one_), j 3]) (p_sets_of_b0 found_ one_) (WL (σ := (List (List Int))) (fun (s : (List (List Int))) (j : Nat → Option D) => [some (en many_), some (en s), j 2, j 3])) :=
  (jm_last (jm_bind fun l_5 hl_5 => (jm_bind fun found__6 hfound__6 => (jm_ext (xs := found_) (ys := l_5) rfl (atl hl_5 (v_map (fun (a_3 : (List Int)) => [some (en many_), some (en found_), some (en one_), some (en a_3)]) (gl_en (xs := found_) rfl) (fun a_3 => (ev_bind fun l_4 hl_4 => (ev_ok (atl hl_4 (v_li (xs := a_3 ++ [one_]) (a_st rfl (a_co rfl a_no)) (by simp <;> first | rfl | exact ⟨rfl, rfl⟩)))))))) hfound__6 [some (en many_), some (en found__6), some (en one_), j 3] (jm_ok ⟨jn [some (en many_), some (en found__6), some (en one_), j 3], rfl⟩)))))
def p_sets_of (many_ : Int) : R (List (List Int)) := .ok (([([] : (List Int))] : (List (List Int))) : (List (List Int))) >>= fun found__1 => rgR1 many_ >>= fun l_2 => forS (fun (x : Int) (s : (List (List Int))) => p_sets_of_b0 s x) l_2 found__1 >>= fun s_7 => srtG s_7 >>= fun l_9 => .ok l_9
set_option maxHeartbeats 0 in
theorem t_sets_of (many_ : Int) : Ev (f_sets_of [en many_]) (p_sets_of many_) :=
  v_def [some (en many_), none, none, none] ((jm_bind fun found__1 hfound__1 => (jm_set (x := found__1) (at_ok hfound__1 (e_li (xs := [([] : (List Int))]) (a_co rfl a_no))) [some (en many_), some (en found__1), none, none] (jm_bind fun l_2 hl_2 => (jm_seq (fun (s : (List (List Int))) (j : Nat → Option D) => [some (en many_), some (en s), j 2, j 3]) (jm_for (σ := (List (List Int))) (s0 := found__1) (fun (s : (List (List Int))) (j : Nat → Option D) => [some (en many_), some (en s), j 2, j 3]) (ati hl_2 (i_r1 (a_co rfl a_no))) (fun (x : Int) (s : (List (List Int))) j => jm_go [some (en many_), some (en s), some (en x), j 3] (t_sets_of_b0 many_ s x j))) (fun s_7 j_8 => (jm_last (jm_bind fun l_9 hl_9 => (jm_retS _ (atl hl_9 (v_srt (a_co rfl a_no))) rfl)))))))))
def p_check_range (number_ : Int) (least_ : Int) (most_ : Int) : R Unit := (if (!(decide (least_ ≤ number_) && decide (number_ ≤ most_))) then stk else .ok ())
set_option maxHeartbeats 0 in
theorem t_check_range (number_ : Int) (least_ : Int) (most_ : Int) : Ev (f_check_range [en number_, en least_, en most_]) (p_check_range number_ least_ most_) :=
  v_def [some (en number_), some (en least_), some (en most_)] ((jm_last (jm_ifs (t_not (t_val (e_ch rfl rfl rfl))) (fun k_1 => jm_stk) (fun k_1 => (jm_first (jm_ok rfl))))))
def p__law_mix (draws_ : (List Int)) (k_ : Int) (many_ : Int) : R Int := .ok ((0 : Int) : Int) >>= fun value__1 => (if decide ((0 : Int) < (draws_.length : Int)) then modG k_ (draws_.length : Int) >>= fun i_3 => atR draws_ i_3 >>= fun v_4 => .ok v_4 else .ok value__1 : R Int) >>= fun s_5 => (if decide (k_ < (draws_.length : Int)) then modG s_5 many_ >>= fun i_8 => .ok i_8 else modG (((s_5 * (7919 : Int)) + (k_ * (104729 : Int))) / (3 : Int)) many_ >>= fun i_9 => .ok i_9)
set_option maxHeartbeats 0 in
theorem t__law_mix (draws_ : (List Int)) (k_ : Int) (many_ : Int) : Ev (f__law_mix [en draws_, en k_, en many_]) (p__law_mix draws_ k_ many_) :=
  v_def [some (en draws_), some (en k_), some (en many_), none] ((jm_bind fun value__1 hvalue__1 => (jm_set (x := value__1) (at_ok hvalue__1 rfl) [some (en draws_), some (en k_), some (en many_), some (en value__1)] (jm_seq (fun (s_5 : Int) (j_6 : Nat → Option D) => [some (en draws_), some (en k_), some (en many_), some (en s_5)]) (jm_if (t_val (e_gt (e_lenL (xs := draws_) (a_co rfl a_no)) rfl)) (fun k_2 => (jm_last (jm_bind fun i_3 hi_3 => (jm_bind fun v_4 hv_4 => (jm_set (x := v_4) (atv hv_4 (v_ixl (xs := draws_) rfl (atv hi_3 (v_mod (e_intI (a_co rfl a_no)) (e_lenL (xs := draws_) (a_co rfl a_no)))))) [some (en draws_), some (en k_), some (en many_), some (en v_4)] (jm_ok ⟨jn [some (en draws_), some (en k_), some (en many_), some (en v_4)], rfl⟩)))))) (fun k_2 => (jm_ok ⟨jn [some (en draws_), some (en k_), some (en many_), some (en value__1)], rfl⟩))) (fun s_5 j_6 => (jm_ifs (t_val (e_lt rfl (e_lenL (xs := draws_) (a_co rfl a_no)))) (fun k_7 => (jm_bind fun i_8 hi_8 => (jm_retS _ (atv hi_8 (v_mod (e_intI (a_co rfl a_no)) rfl)) rfl))) (fun k_7 => (jm_first (jm_last (jm_bind fun i_9 hi_9 => (jm_retS _ (atv hi_9 (v_mod (e_intI (a_co (e_fdiv (e_intI (a_co (e_add (e_mulr rfl rfl (by decide)) (e_mulr rfl rfl (by decide))) a_no)) rfl (by decide)) a_no)) rfl)) rfl)))))))))))
def p__law_low_b0 (one_ : Int) (two_ : Int) : R (Int × Int) := modG one_ two_ >>= fun i_3 => .ok (two_ : Int) >>= fun one__4 => .ok (i_3 : Int) >>= fun two__5 => .ok (one__4, two__5)
set_option maxHeartbeats 0 in
theorem t__law_low_b0 (number_ : Int) (by_ : Int) (one_ : Int) (two_ : Int) (j : Nat → Option D) : Jm (ap m__law_low_b0 [some (en number_), some (en by_), some (en one_), some (en two_)]) (p__law_low_b0 one_ two_) (WL (σ := (Int × Int)) (fun (s : (Int × Int)) (j : Nat → Option D) => [some (en number_), some (en by_), some (en s.1), some (en s.2)])) :=
  (jm_last (jm_bind fun i_3 hi_3 => (jm_bind fun one__4 hone__4 => (jm_bind fun two__5 htwo__5 => (jm_tg (x := ([one__4, two__5] : List Int)) (e_li (xs := [one__4, two__5]) (a_co (at_ok hone__4 rfl) (a_co (at_ok htwo__5 (atv hi_3 (v_mod (e_intI (a_co rfl a_no)) rfl))) a_no))) [some (en number_), some (en by_), some (en one__4), some (en two__5)] (jm_ok ⟨jn [some (en number_), some (en by_), some (en one__4), some (en two__5)], rfl⟩))))))
def p__law_low_b0_t (one_ : Int) (two_ : Int) : R Bool := .ok (!decide (two_ = (0 : Int)))
set_option maxHeartbeats 0 in
theorem t__law_low_b0_t (number_ : Int) (by_ : Int) (one_ : Int) (two_ : Int) (j : Nat → Option D) : Et (m__law_low_t0 [some (en number_), some (en by_), some (en one_), some (en two_)]) (p__law_low_b0_t one_ two_) :=
  (et_ok (t_val (e_ne (a := two_) (b := (0 : Int)) rfl rfl)))
def p__law_low (number_ : Int) (by_ : Int) : R (Int × Int) := .ok ((number_.natAbs : Int) : Int) >>= fun one__1 => .ok (by_ : Int) >>= fun two__2 => whS (fun (s : (Int × Int)) => p__law_low_b0_t s.1 s.2) (fun (s : (Int × Int)) => p__law_low_b0 s.1 s.2) FU (one__1, two__2) >>= fun s_6 => fdivWG number_ s_6.1 >>= fun i_8 => fdivWG by_ s_6.1 >>= fun i_9 => .ok (i_8, i_9)
set_option maxHeartbeats 0 in
theorem t__law_low (number_ : Int) (by_ : Int) : Ev (f__law_low [en number_, en by_]) (p__law_low number_ by_) :=
  v_def [some (en number_), some (en by_), none, none] ((jm_bind fun one__1 hone__1 => (jm_bind fun two__2 htwo__2 => (jm_par (x := one__1) (y := two__2) (a_co (at_ok hone__1 (e_abs (a_co rfl a_no))) (a_co (at_ok htwo__2 rfl) a_no)) [some (en number_), some (en by_), some (en one__1), some (en two__2)] (jm_seq (fun (s : (Int × Int)) (j : Nat → Option D) => [some (en number_), some (en by_), some (en s.1), some (en s.2)]) (jm_wh (σ := (Int × Int)) (s0 := (one__1, two__2)) (fun (s : (Int × Int)) (j : Nat → Option D) => [some (en number_), some (en by_), some (en s.1), some (en s.2)]) (fun (s : (Int × Int)) j => t__law_low_b0_t number_ by_ s.1 s.2 j) (fun (s : (Int × Int)) j => t__law_low_b0 number_ by_ s.1 s.2 j)) (fun s_6 j_7 => (jm_last (jm_bind fun i_8 hi_8 => (jm_bind fun i_9 hi_9 => (jm_retS _ (e_t2 (a := i_8) (b := i_9) (a_co (atv hi_8 (v_fdivW rfl rfl)) (a_co (atv hi_9 (v_fdivW rfl rfl)) a_no))) rfl))))))))))
def p_plus (one_ : (Int × Int)) (two_ : (Int × Int)) : R (Int × Int) := mulG one_.1 two_.2 >>= fun i_1 => mulG two_.1 one_.2 >>= fun i_2 => mulG one_.2 two_.2 >>= fun i_3 => p_fraction (i_1 + i_2) i_3 >>= fun r_4 => .ok r_4
set_option maxHeartbeats 0 in
theorem t_plus (one_ : (Int × Int)) (two_ : (Int × Int)) : Ev (f_plus [en one_, en two_]) (p_plus one_ two_) :=
  v_def [some (en one_), some (en two_)] ((jm_last (jm_bind fun i_1 hi_1 => (jm_bind fun i_2 hi_2 => (jm_bind fun i_3 hi_3 => (jm_bind fun r_4 hr_4 => (jm_retS _ (atv hr_4 (v_call (a_co (e_add (atv hi_1 (v_mul (e_p1 (p := one_) rfl) (e_p2 (p := two_) rfl))) (atv hi_2 (v_mul (e_p1 (p := two_) rfl) (e_p2 (p := one_) rfl)))) (a_co (atv hi_3 (v_mul (e_p2 (p := one_) rfl) (e_p2 (p := two_) rfl))) a_no)) (t_fraction (i_1 + i_2) i_3))) rfl)))))))
def p_minus (one_ : (Int × Int)) (two_ : (Int × Int)) : R (Int × Int) := mulG one_.1 two_.2 >>= fun i_1 => mulG two_.1 one_.2 >>= fun i_2 => mulG one_.2 two_.2 >>= fun i_3 => p_fraction (i_1 - i_2) i_3 >>= fun r_4 => .ok r_4
set_option maxHeartbeats 0 in
theorem t_minus (one_ : (Int × Int)) (two_ : (Int × Int)) : Ev (f_minus [en one_, en two_]) (p_minus one_ two_) :=
  v_def [some (en one_), some (en two_)] ((jm_last (jm_bind fun i_1 hi_1 => (jm_bind fun i_2 hi_2 => (jm_bind fun i_3 hi_3 => (jm_bind fun r_4 hr_4 => (jm_retS _ (atv hr_4 (v_call (a_co (e_sub (atv hi_1 (v_mul (e_p1 (p := one_) rfl) (e_p2 (p := two_) rfl))) (atv hi_2 (v_mul (e_p1 (p := two_) rfl) (e_p2 (p := one_) rfl)))) (a_co (atv hi_3 (v_mul (e_p2 (p := one_) rfl) (e_p2 (p := two_) rfl))) a_no)) (t_fraction (i_1 - i_2) i_3))) rfl)))))))
def p_times (one_ : (Int × Int)) (two_ : (Int × Int)) : R (Int × Int) := mulG one_.1 two_.1 >>= fun i_1 => mulG one_.2 two_.2 >>= fun i_2 => p_fraction i_1 i_2 >>= fun r_3 => .ok r_3
set_option maxHeartbeats 0 in
theorem t_times (one_ : (Int × Int)) (two_ : (Int × Int)) : Ev (f_times [en one_, en two_]) (p_times one_ two_) :=
  v_def [some (en one_), some (en two_)] ((jm_last (jm_bind fun i_1 hi_1 => (jm_bind fun i_2 hi_2 => (jm_bind fun r_3 hr_3 => (jm_retS _ (atv hr_3 (v_call (a_co (atv hi_1 (v_mul (e_p1 (p := one_) rfl) (e_p1 (p := two_) rfl))) (a_co (atv hi_2 (v_mul (e_p2 (p := one_) rfl) (e_p2 (p := two_) rfl))) a_no)) (t_fraction i_1 i_2))) rfl))))))
def p_over (one_ : (Int × Int)) (two_ : (Int × Int)) : R (Int × Int) := mulG one_.1 two_.2 >>= fun i_1 => mulG one_.2 two_.1 >>= fun i_2 => p_fraction i_1 i_2 >>= fun r_3 => .ok r_3
set_option maxHeartbeats 0 in
theorem t_over (one_ : (Int × Int)) (two_ : (Int × Int)) : Ev (f_over [en one_, en two_]) (p_over one_ two_) :=
  v_def [some (en one_), some (en two_)] ((jm_last (jm_bind fun i_1 hi_1 => (jm_bind fun i_2 hi_2 => (jm_bind fun r_3 hr_3 => (jm_retS _ (atv hr_3 (v_call (a_co (atv hi_1 (v_mul (e_p1 (p := one_) rfl) (e_p2 (p := two_) rfl))) (a_co (atv hi_2 (v_mul (e_p2 (p := one_) rfl) (e_p1 (p := two_) rfl))) a_no)) (t_fraction i_1 i_2))) rfl))))))
def p_check_stops (machine_ : ((List Tx) × (List (Tx × Int)))) (stops_ : (List Int)) : R Unit := p_check_machine machine_ >>= fun r_1 => .ok (machine_.1 : (List Tx)) >>= fun strips__2 => (if (!decide ((stops_.length : Int) = (strips__2.length : Int))) then .ok true else mapG (fun (a_3 : (Int × Tx)) => (if decide ((0 : Int) ≤ a_3.1) then (lenS a_3.2 >>= fun n_4 => .ok n_4) >>= fun z_5 => .ok (decide (a_3.1 < z_5)) else .ok false) >>= fun b_6 => .ok b_6) (List.zip stops_ strips__2) >>= fun l_7 => .ok (!(l_7.all id))) >>= fun b_8 => (if b_8 then stk else .ok ())
set_option maxHeartbeats 0 in
theorem t_check_stops (machine_ : ((List Tx) × (List (Tx × Int)))) (stops_ : (List Int)) : Ev (f_check_stops [en machine_, en stops_]) (p_check_stops machine_ stops_) :=
  v_def [some (en machine_), some (en stops_), none, none, none] ((jm_bind fun r_1 hr_1 => (jm_ex (x := r_1) (atv hr_1 (v_call (a_co rfl a_no) (t_check_machine machine_))) (jm_bind fun strips__2 hstrips__2 => (jm_set (x := strips__2) (at_ok hstrips__2 (e_p1 (p := machine_) rfl)) [some (en machine_), some (en stops_), some (en strips__2), none, none] (jm_last (jm_bind fun b_8 hb_8 => (jm_ifs (att hb_8 (et_or (t_val (e_ne (a := (stops_.length : Int)) (b := (strips__2.length : Int)) (e_lenL (xs := stops_) (a_co rfl a_no)) (e_lenL (xs := strips__2) (a_co rfl a_no)))) (et_bind fun l_7 hl_7 => (et_ok (t_not (t_val (e_all (bs := l_7) (a_co (atl hl_7 (v_map (fun (a_3 : (Int × Tx)) => [some (en machine_), some (en stops_), some (en strips__2), some (en a_3.1), some (en a_3.2)]) (i_z2 (a_co rfl (a_co rfl a_no)) (sz_l (xs := stops_)) (sz_l (xs := strips__2))) (fun a_3 => (ev_bind fun b_6 hb_6 => (ev_ok (atv hb_6 (ev_ch (p := (fun i j => decide (i ≤ j))) (q := (fun i j => decide (i < j))) rfl rfl rfl (ev_bind fun n_4 hn_4 => (ev_ok (atv hn_4 (v_lenS (a_co rfl a_no)))))))))))) a_no)))))))) (fun k_9 => jm_stk) (fun k_9 => (jm_first (jm_ok rfl)))))))))))
def p_first_met_b0 (machine_ : ((List Tx) × (List (Tx × Int)))) (stops_ : (List Int)) (k_ : Int) (pattern_ : Tx) (__ : Int) : R (Unit ⊕ (Option Int)) := p_is_met machine_ pattern_ stops_ >>= fun r_1 => (if r_1 then .ok (.inr (some k_)) else .ok (.inl ()))
set_option maxHeartbeats 0 in
theorem t_first_met_b0 (machine_ : ((List Tx) × (List (Tx × Int)))) (stops_ : (List Int)) (k_ : Int) (pattern_ : Tx) (__ : Int) (j : Nat → Option D) : Jm (ap m_first_met_b0 [some (en machine_), some (en stops_), some (en k_), some (en pattern_), some (en __)]) (p_first_met_b0 machine_ stops_ k_ pattern_ __) (WR (β := (Option Int)) (σ := Unit) (fun (s : Unit) (j : Nat → Option D) => [some (en machine_), some (en stops_), j 2, j 3, j 4])) :=
  (jm_last (jm_bind fun r_1 hr_1 => (jm_ifs (t_val (atv hr_1 (v_call (a_co rfl (a_co rfl (a_co rfl a_no))) (t_is_met machine_ pattern_ stops_)))) (fun k_2 => (jm_retS _ rfl rfl)) (fun k_2 => (jm_first (jm_ok ⟨jn [some (en machine_), some (en stops_), some (en k_), some (en pattern_), some (en __)], rfl⟩))))))
def p_first_met (machine_ : ((List Tx) × (List (Tx × Int)))) (stops_ : (List Int)) : R (Option Int) := onR (forR (fun (x : (Int × (Tx × Int))) (s : Unit) => p_first_met_b0 machine_ stops_ x.1 x.2.1 x.2.2) (enI 0 machine_.2) ()) (fun s_3 => .ok (none : (Option Int))) (fun b_5 => .ok b_5)
set_option maxHeartbeats 0 in
theorem t_first_met (machine_ : ((List Tx) × (List (Tx × Int)))) (stops_ : (List Int)) : Ev (f_first_met [en machine_, en stops_]) (p_first_met machine_ stops_) :=
  v_def [some (en machine_), some (en stops_), none, none, none] ((jm_seqR (k := (fun b => b)) (fun (s : Unit) (j : Nat → Option D) => [some (en machine_), some (en stops_), j 2, j 3, j 4]) (jm_forR (σ := Unit) (s0 := ()) (fun (s : Unit) (j : Nat → Option D) => [some (en machine_), some (en stops_), j 2, j 3, j 4]) (i_e (xs := machine_.2) (a_co (e_p2 (p := machine_) rfl) a_no)) (fun (x : (Int × (Tx × Int))) (s : Unit) j => jm_go [some (en machine_), some (en stops_), some (en x.1), some (en x.2.1), some (en x.2.2)] (t_first_met_b0 machine_ stops_ x.1 x.2.1 x.2.2 j))) (fun s_3 j_4 => (jm_last (jm_retS _ rfl rfl))) (fun _ => rfl)))
def p_check_lights (lights_ : Int) : R Unit := p_check_range lights_ c_LEAST_LIGHTS c_MOST_LIGHTS >>= fun r_1 => .ok ()
set_option maxHeartbeats 0 in
theorem t_check_lights (lights_ : Int) : Ev (f_check_lights [en lights_]) (p_check_lights lights_) :=
  v_def [some (en lights_)] ((jm_last (jm_bind fun r_1 hr_1 => (jm_ex (x := r_1) (atv hr_1 (v_call (a_co rfl (a_co rfl (a_co rfl a_no))) (t_check_range lights_ c_LEAST_LIGHTS c_MOST_LIGHTS))) (jm_ok rfl)))))
def p_check_hold (hold_ : (Int × Int)) : R Unit := p_is_fraction hold_ >>= fun r_1 => (if ((!r_1) || (!(decide ((0 : Int) ≤ hold_.1) && decide (hold_.1 ≤ hold_.2)))) then stk else .ok ())
set_option maxHeartbeats 0 in
theorem t_check_hold (hold_ : (Int × Int)) : Ev (f_check_hold [en hold_]) (p_check_hold hold_) :=
  v_def [some (en hold_)] ((jm_last (jm_bind fun r_1 hr_1 => (jm_ifs (t_or (t_not (t_val (atv hr_1 (v_call (a_co rfl a_no) (t_is_fraction hold_))))) (t_not (t_val (e_ch rfl (e_p1 (p := hold_) rfl) (e_p2 (p := hold_) rfl))))) (fun k_2 => jm_stk) (fun k_2 => (jm_first (jm_ok rfl)))))))
def p__law_plus (one_ : (Int × Int)) (two_ : (Int × Int)) : R (Int × Int) := mulG one_.1 two_.2 >>= fun i_1 => mulG two_.1 one_.2 >>= fun i_2 => mulG one_.2 two_.2 >>= fun i_3 => p__law_low (i_1 + i_2) i_3 >>= fun r_4 => .ok r_4
set_option maxHeartbeats 0 in
theorem t__law_plus (one_ : (Int × Int)) (two_ : (Int × Int)) : Ev (f__law_plus [en one_, en two_]) (p__law_plus one_ two_) :=
  v_def [some (en one_), some (en two_)] ((jm_last (jm_bind fun i_1 hi_1 => (jm_bind fun i_2 hi_2 => (jm_bind fun i_3 hi_3 => (jm_bind fun r_4 hr_4 => (jm_retS _ (atv hr_4 (v_call (a_co (e_add (atv hi_1 (v_mul (e_p1 (p := one_) rfl) (e_p2 (p := two_) rfl))) (atv hi_2 (v_mul (e_p1 (p := two_) rfl) (e_p2 (p := one_) rfl)))) (a_co (atv hi_3 (v_mul (e_p2 (p := one_) rfl) (e_p2 (p := two_) rfl))) a_no)) (t__law_low (i_1 + i_2) i_3))) rfl)))))))
def p__law_times (one_ : (Int × Int)) (two_ : (Int × Int)) : R (Int × Int) := mulG one_.1 two_.1 >>= fun i_1 => mulG one_.2 two_.2 >>= fun i_2 => p__law_low i_1 i_2 >>= fun r_3 => .ok r_3
set_option maxHeartbeats 0 in
theorem t__law_times (one_ : (Int × Int)) (two_ : (Int × Int)) : Ev (f__law_times [en one_, en two_]) (p__law_times one_ two_) :=
  v_def [some (en one_), some (en two_)] ((jm_last (jm_bind fun i_1 hi_1 => (jm_bind fun i_2 hi_2 => (jm_bind fun r_3 hr_3 => (jm_retS _ (atv hr_3 (v_call (a_co (atv hi_1 (v_mul (e_p1 (p := one_) rfl) (e_p1 (p := two_) rfl))) (a_co (atv hi_2 (v_mul (e_p2 (p := one_) rfl) (e_p2 (p := two_) rfl))) a_no)) (t__law_low i_1 i_2))) rfl))))))
def p_total_b0 (found_ : (Int × Int)) (one_ : (Int × Int)) : R (Int × Int) := p_plus found_ one_ >>= fun r_2 => .ok r_2
set_option maxHeartbeats 0 in
theorem t_total_b0 (told_ : (List (Int × Int))) (found_ : (Int × Int)) (one_ : (Int × Int)) (j : Nat → Option D) : Jm (ap m_total_b0 [some (en told_), some (en found_), some (en one_)]) (p_total_b0 found_ one_) (WL (σ := (Int × Int)) (fun (s : (Int × Int)) (j : Nat → Option D) => [some (en told_), some (en s), j 2])) :=
  (jm_last (jm_bind fun r_2 hr_2 => (jm_set (x := r_2) (atv hr_2 (v_call (a_co rfl (a_co rfl a_no)) (t_plus found_ one_))) [some (en told_), some (en r_2), some (en one_)] (jm_ok ⟨jn [some (en told_), some (en r_2), some (en one_)], rfl⟩))))
def p_total (told_ : (List (Int × Int))) : R (Int × Int) := .ok (((0 : Int), (1 : Int)) : (Int × Int)) >>= fun found__1 => forS (fun (x : (Int × Int)) (s : (Int × Int)) => p_total_b0 s x) told_ found__1 >>= fun s_3 => .ok s_3
set_option maxHeartbeats 0 in
theorem t_total (told_ : (List (Int × Int))) : Ev (f_total [en told_]) (p_total told_) :=
  v_def [some (en told_), none, none] ((jm_bind fun found__1 hfound__1 => (jm_set (x := found__1) (at_ok hfound__1 (e_t2 (a := (0 : Int)) (b := (1 : Int)) (a_co rfl (a_co rfl a_no)))) [some (en told_), some (en found__1), none] (jm_seq (fun (s : (Int × Int)) (j : Nat → Option D) => [some (en told_), some (en s), j 2]) (jm_for (σ := (Int × Int)) (s0 := found__1) (fun (s : (Int × Int)) (j : Nat → Option D) => [some (en told_), some (en s), j 2]) (i_l (xs := told_) rfl) (fun (x : (Int × Int)) (s : (Int × Int)) j => jm_go [some (en told_), some (en s), some (en x)] (t_total_b0 told_ s x j))) (fun s_3 j_4 => (jm_last (jm_retS _ rfl rfl)))))))
def p_paid_of (machine_ : ((List Tx) × (List (Tx × Int)))) (stops_ : (List Int)) : R Int := p_first_met machine_ stops_ >>= fun r_1 => (if r_1.isNone then .ok (0 : Int) else opt r_1 >>= fun o_2 => atR machine_.2 o_2 >>= fun v_3 => .ok v_3.2) >>= fun v_4 => .ok v_4
set_option maxHeartbeats 0 in
theorem t_paid_of (machine_ : ((List Tx) × (List (Tx × Int)))) (stops_ : (List Int)) : Ev (f_paid_of [en machine_, en stops_]) (p_paid_of machine_ stops_) :=
  v_def [some (en machine_), some (en stops_), none] ((jm_bind fun r_1 hr_1 => (jm_set (x := r_1) (atv hr_1 (v_call (a_co rfl (a_co rfl a_no)) (t_first_met machine_ stops_))) [some (en machine_), some (en stops_), some (en r_1)] (jm_last (jm_bind fun v_4 hv_4 => (jm_retS _ (atv hv_4 (ev_if (t_val (e_is (a := r_1) rfl)) (ev_ok rfl) (ev_bind fun o_2 ho_2 => (ev_bind fun v_3 hv_3 => (ev_ok (e_p2 (p := v_3) (atv hv_3 (v_ixl (xs := machine_.2) (e_p2 (p := machine_) rfl) (atv ho_2 (v_un (o := r_1) rfl)))))))))) rfl))))))
def p_parts_of (machine_ : ((List Tx) × (List (Tx × Int)))) : R (List (Int × Int)) := p_stops_of machine_ (Dc.mk [] : (Dc Int Int)) >>= fun r_1 => mapG (fun (a_2 : (List Int)) => p_first_met machine_ a_2 >>= fun r_3 => .ok r_3) r_1 >>= fun l_4 => rgR1 (machine_.2.length : Int) >>= fun l_5 => mapG (fun (a_6 : Int) => p_fraction ((l_4.countP fun z => decide (z = (some a_6)) : Nat) : Int) (l_4.length : Int) >>= fun r_7 => .ok r_7) l_5 >>= fun l_8 => .ok l_8
set_option maxHeartbeats 0 in
theorem t_parts_of (machine_ : ((List Tx) × (List (Tx × Int)))) : Ev (f_parts_of [en machine_]) (p_parts_of machine_) :=
  v_def [some (en machine_), none, none, none] ((jm_bind fun r_1 hr_1 => (jm_bind fun l_4 hl_4 => (jm_set (x := l_4) (atl hl_4 (v_map (fun (a_2 : (List Int)) => [some (en machine_), none, some (en a_2), none]) (i_l (xs := r_1) (atv hr_1 (v_call (a_co rfl (a_co rfl a_no)) (t_stops_of machine_ (Dc.mk [] : (Dc Int Int)))))) (fun a_2 => (ev_bind fun r_3 hr_3 => (ev_ok (atv hr_3 (v_call (a_co rfl (a_co rfl a_no)) (t_first_met machine_ a_2)))))))) [some (en machine_), some (en l_4), none, none] (jm_last (jm_bind fun l_5 hl_5 => (jm_bind fun l_8 hl_8 => (jm_retS _ (atl hl_8 (v_map (fun (a_6 : Int) => [some (en machine_), some (en l_4), none, some (en a_6)]) (ati hl_5 (i_r1 (a_co (e_lenL (xs := machine_.2) (a_co (e_p2 (p := machine_) rfl) a_no)) a_no))) (fun a_6 => (ev_bind fun r_7 hr_7 => (ev_ok (atv hr_7 (v_call (a_co (e_cntL (l := l_4) (a := (some a_6)) rfl rfl) (a_co (e_lenL (xs := l_4) (a_co rfl a_no)) a_no)) (t_fraction ((l_4.countP fun z => decide (z = (some a_6)) : Nat) : Int) (l_4.length : Int))))))))) rfl))))))))
def p_check_held (machine_ : ((List Tx) × (List (Tx × Int)))) (stops_ : (List Int)) (held_ : (List Int)) : R Unit := p_check_stops machine_ stops_ >>= fun r_1 => ssG held_ >>= fun l_3 => (if (!decide (held_ = l_3)) then .ok true else mapG (fun (a_4 : Int) => .ok (decide ((0 : Int) ≤ a_4) && decide (a_4 < (machine_.1.length : Int)))) held_ >>= fun l_5 => .ok (!(l_5.all id))) >>= fun b_6 => (if b_6 then stk else .ok ())
set_option maxHeartbeats 0 in
theorem t_check_held (machine_ : ((List Tx) × (List (Tx × Int)))) (stops_ : (List Int)) (held_ : (List Int)) : Ev (f_check_held [en machine_, en stops_, en held_]) (p_check_held machine_ stops_ held_) :=
  v_def [some (en machine_), some (en stops_), some (en held_), none] ((jm_bind fun r_1 hr_1 => (jm_ex (x := r_1) (atv hr_1 (v_call (a_co rfl (a_co rfl a_no)) (t_check_stops machine_ stops_))) (jm_last (jm_bind fun l_3 hl_3 => (jm_bind fun b_6 hb_6 => (jm_ifs (att hb_6 (et_or (t_val (e_ne (a := held_) (b := l_3) (e_list (xs := held_) (a_co rfl a_no)) (atl hl_3 (v_sset (ns := held_) rfl)))) (et_bind fun l_5 hl_5 => (et_ok (t_not (t_val (e_all (bs := l_5) (a_co (atl hl_5 (v_map (fun (a_4 : Int) => [some (en machine_), some (en stops_), some (en held_), some (en a_4)]) (i_l (xs := held_) rfl) (fun a_4 => (ev_ok (e_ch rfl rfl (e_lenL (xs := machine_.1) (a_co (e_p1 (p := machine_) rfl) a_no))))))) a_no)))))))) (fun k_7 => jm_stk) (fun k_7 => (jm_first (jm_ok rfl))))))))))
def p_power_b0 (part_ : (Int × Int)) (found_ : (Int × Int)) (__ : Int) : R (Int × Int) := p_times found_ part_ >>= fun r_3 => .ok r_3
set_option maxHeartbeats 0 in
theorem t_power_b0 (part_ : (Int × Int)) (many_ : Int) (found_ : (Int × Int)) (__ : Int) (j : Nat → Option D) : Jm (ap m_power_b0 [some (en part_), some (en many_), some (en found_), some (en __)]) (p_power_b0 part_ found_ __) (WL (σ := (Int × Int)) (fun (s : (Int × Int)) (j : Nat → Option D) => [some (en part_), some (en many_), some (en s), j 3])) :=
  (jm_last (jm_bind fun r_3 hr_3 => (jm_set (x := r_3) (atv hr_3 (v_call (a_co rfl (a_co rfl a_no)) (t_times found_ part_))) [some (en part_), some (en many_), some (en r_3), some (en __)] (jm_ok ⟨jn [some (en part_), some (en many_), some (en r_3), some (en __)], rfl⟩))))
def p_power (part_ : (Int × Int)) (many_ : Int) : R (Int × Int) := .ok (c_ONE_memory : (Int × Int)) >>= fun found__1 => rgR1 many_ >>= fun l_2 => forS (fun (x : Int) (s : (Int × Int)) => p_power_b0 part_ s x) l_2 found__1 >>= fun s_4 => .ok s_4
set_option maxHeartbeats 0 in
theorem t_power (part_ : (Int × Int)) (many_ : Int) : Ev (f_power [en part_, en many_]) (p_power part_ many_) :=
  v_def [some (en part_), some (en many_), none, none] ((jm_bind fun found__1 hfound__1 => (jm_set (x := found__1) (at_ok hfound__1 rfl) [some (en part_), some (en many_), some (en found__1), none] (jm_bind fun l_2 hl_2 => (jm_seq (fun (s : (Int × Int)) (j : Nat → Option D) => [some (en part_), some (en many_), some (en s), j 3]) (jm_for (σ := (Int × Int)) (s0 := found__1) (fun (s : (Int × Int)) (j : Nat → Option D) => [some (en part_), some (en many_), some (en s), j 3]) (ati hl_2 (i_r1 (a_co rfl a_no))) (fun (x : Int) (s : (Int × Int)) j => jm_go [some (en part_), some (en many_), some (en s), some (en x)] (t_power_b0 part_ many_ s x j))) (fun s_4 j_5 => (jm_last (jm_retS _ rfl rfl))))))))
def p_light_chance (lights_ : Int) (hold_ : (Int × Int)) : R (Int × Int) := p_minus c_ONE_memory hold_ >>= fun r_1 => p_fraction (1 : Int) lights_ >>= fun r_2 => p_times r_1 r_2 >>= fun r_3 => p_plus hold_ r_3 >>= fun r_4 => .ok r_4
set_option maxHeartbeats 0 in
theorem t_light_chance (lights_ : Int) (hold_ : (Int × Int)) : Ev (f_light_chance [en lights_, en hold_]) (p_light_chance lights_ hold_) :=
  v_def [some (en lights_), some (en hold_)] ((jm_last (jm_bind fun r_1 hr_1 => (jm_bind fun r_2 hr_2 => (jm_bind fun r_3 hr_3 => (jm_bind fun r_4 hr_4 => (jm_retS _ (atv hr_4 (v_call (a_co rfl (a_co (atv hr_3 (v_call (a_co (atv hr_1 (v_call (a_co rfl (a_co rfl a_no)) (t_minus c_ONE_memory hold_))) (a_co (atv hr_2 (v_call (a_co rfl (a_co rfl a_no)) (t_fraction (1 : Int) lights_))) a_no)) (t_times r_1 r_2))) a_no)) (t_plus hold_ r_3))) rfl)))))))
def p_mean_rounds_b0 (here_ : (Int × Int)) (found_ : (Int × Int)) (chance_ : (Int × Int)) : R ((Int × Int) × (Int × Int)) := p_times here_ chance_ >>= fun r_3 => p_plus found_ r_3 >>= fun r_4 => .ok (r_3, r_4)
set_option maxHeartbeats 0 in
theorem t_mean_rounds_b0 (chances_ : (List (Int × Int))) (here_ : (Int × Int)) (found_ : (Int × Int)) (chance_ : (Int × Int)) (j : Nat → Option D) : Jm (ap m_mean_rounds_b0 [some (en chances_), some (en found_), some (en here_), some (en chance_)]) (p_mean_rounds_b0 here_ found_ chance_) (WL (σ := ((Int × Int) × (Int × Int))) (fun (s : ((Int × Int) × (Int × Int))) (j : Nat → Option D) => [some (en chances_), some (en s.2), some (en s.1), j 3])) :=
  (jm_bind fun r_3 hr_3 => (jm_set (x := r_3) (atv hr_3 (v_call (a_co rfl (a_co rfl a_no)) (t_times here_ chance_))) [some (en chances_), some (en found_), some (en r_3), some (en chance_)] (jm_last (jm_bind fun r_4 hr_4 => (jm_set (x := r_4) (atv hr_4 (v_call (a_co rfl (a_co rfl a_no)) (t_plus found_ r_3))) [some (en chances_), some (en r_4), some (en r_3), some (en chance_)] (jm_ok ⟨jn [some (en chances_), some (en r_4), some (en r_3), some (en chance_)], rfl⟩))))))
def p_mean_rounds (chances_ : (List (Int × Int))) : R (Int × Int) := .ok (c_NOUGHT_memory : (Int × Int)) >>= fun found__1 => .ok (c_ONE_memory : (Int × Int)) >>= fun here__2 => forS (fun (x : (Int × Int)) (s : ((Int × Int) × (Int × Int))) => p_mean_rounds_b0 s.1 s.2 x) chances_ (here__2, found__1) >>= fun s_5 => .ok s_5.2
set_option maxHeartbeats 0 in
theorem t_mean_rounds (chances_ : (List (Int × Int))) : Ev (f_mean_rounds [en chances_]) (p_mean_rounds chances_) :=
  v_def [some (en chances_), none, none, none] ((jm_bind fun found__1 hfound__1 => (jm_set (x := found__1) (at_ok hfound__1 rfl) [some (en chances_), some (en found__1), none, none] (jm_bind fun here__2 hhere__2 => (jm_set (x := here__2) (at_ok hhere__2 rfl) [some (en chances_), some (en found__1), some (en here__2), none] (jm_seq (fun (s : ((Int × Int) × (Int × Int))) (j : Nat → Option D) => [some (en chances_), some (en s.2), some (en s.1), j 3]) (jm_for (σ := ((Int × Int) × (Int × Int))) (s0 := (here__2, found__1)) (fun (s : ((Int × Int) × (Int × Int))) (j : Nat → Option D) => [some (en chances_), some (en s.2), some (en s.1), j 3]) (i_l (xs := chances_) rfl) (fun (x : (Int × Int)) (s : ((Int × Int) × (Int × Int))) j => jm_go [some (en chances_), some (en s.2), some (en s.1), some (en x)] (t_mean_rounds_b0 chances_ s.1 s.2 x j))) (fun s_5 j_6 => (jm_last (jm_retS _ rfl rfl)))))))))
def p_paid (machine_ : ((List Tx) × (List (Tx × Int)))) (stops_ : (List Int)) : R Int := p_check_stops machine_ stops_ >>= fun r_1 => p_paid_of machine_ stops_ >>= fun r_2 => .ok r_2
set_option maxHeartbeats 0 in
theorem t_paid (machine_ : ((List Tx) × (List (Tx × Int)))) (stops_ : (List Int)) : Ev (f_paid [en machine_, en stops_]) (p_paid machine_ stops_) :=
  v_def [some (en machine_), some (en stops_)] ((jm_bind fun r_1 hr_1 => (jm_ex (x := r_1) (atv hr_1 (v_call (a_co rfl (a_co rfl a_no)) (t_check_stops machine_ stops_))) (jm_last (jm_bind fun r_2 hr_2 => (jm_retS _ (atv hr_2 (v_call (a_co rfl (a_co rfl a_no)) (t_paid_of machine_ stops_))) rfl))))))
def p_mean_of (machine_ : ((List Tx) × (List (Tx × Int)))) (fixed_ : (Dc Int Int)) : R (Int × Int) := p_stops_of machine_ fixed_ >>= fun r_1 => mapG (fun (a_2 : (List Int)) => p_paid_of machine_ a_2 >>= fun r_3 => .ok r_3) r_1 >>= fun l_4 => p_fraction l_4.sum (r_1.length : Int) >>= fun r_5 => .ok r_5
set_option maxHeartbeats 0 in
theorem t_mean_of (machine_ : ((List Tx) × (List (Tx × Int)))) (fixed_ : (Dc Int Int)) : Ev (f_mean_of [en machine_, en fixed_]) (p_mean_of machine_ fixed_) :=
  v_def [some (en machine_), some (en fixed_), none, none] ((jm_bind fun r_1 hr_1 => (jm_set (x := r_1) (atv hr_1 (v_call (a_co rfl (a_co rfl a_no)) (t_stops_of machine_ fixed_))) [some (en machine_), some (en fixed_), some (en r_1), none] (jm_last (jm_bind fun l_4 hl_4 => (jm_bind fun r_5 hr_5 => (jm_retS _ (atv hr_5 (v_call (a_co (e_sum (ns := l_4) (a_co (atl hl_4 (v_map (fun (a_2 : (List Int)) => [some (en machine_), some (en fixed_), some (en r_1), some (en a_2)]) (i_l (xs := r_1) rfl) (fun a_2 => (ev_bind fun r_3 hr_3 => (ev_ok (atv hr_3 (v_call (a_co rfl (a_co rfl a_no)) (t_paid_of machine_ a_2)))))))) a_no)) (a_co (e_lenL (xs := r_1) (a_co rfl a_no)) a_no)) (t_fraction l_4.sum (r_1.length : Int)))) rfl)))))))
def p_hits (machine_ : ((List Tx) × (List (Tx × Int)))) : R (Int × Int) := p_check_machine machine_ >>= fun r_1 => p_parts_of machine_ >>= fun r_2 => p_total r_2 >>= fun r_3 => .ok r_3
set_option maxHeartbeats 0 in
theorem t_hits (machine_ : ((List Tx) × (List (Tx × Int)))) : Ev (f_hits [en machine_]) (p_hits machine_) :=
  v_def [some (en machine_)] ((jm_bind fun r_1 hr_1 => (jm_ex (x := r_1) (atv hr_1 (v_call (a_co rfl a_no) (t_check_machine machine_))) (jm_last (jm_bind fun r_2 hr_2 => (jm_bind fun r_3 hr_3 => (jm_retS _ (atv hr_3 (v_call (a_co (atv hr_2 (v_call (a_co rfl a_no) (t_parts_of machine_))) a_no) (t_total r_2))) rfl)))))))
def p_by_pattern (machine_ : ((List Tx) × (List (Tx × Int)))) : R (List (Int × Int)) := p_check_machine machine_ >>= fun r_1 => p_parts_of machine_ >>= fun r_2 => .ok r_2
set_option maxHeartbeats 0 in
theorem t_by_pattern (machine_ : ((List Tx) × (List (Tx × Int)))) : Ev (f_by_pattern [en machine_]) (p_by_pattern machine_) :=
  v_def [some (en machine_)] ((jm_bind fun r_1 hr_1 => (jm_ex (x := r_1) (atv hr_1 (v_call (a_co rfl a_no) (t_check_machine machine_))) (jm_last (jm_bind fun r_2 hr_2 => (jm_retS _ (atv hr_2 (v_call (a_co rfl a_no) (t_parts_of machine_))) rfl))))))
def p_span_chance (lights_ : Int) (span_ : Int) (length_ : Int) : R (Int × Int) := p_fraction (1 : Int) lights_ >>= fun r_1 => p_power r_1 (max (0 : Int) (length_ - span_)) >>= fun r_2 => .ok r_2
set_option maxHeartbeats 0 in
theorem t_span_chance (lights_ : Int) (span_ : Int) (length_ : Int) : Ev (f_span_chance [en lights_, en span_, en length_]) (p_span_chance lights_ span_ length_) :=
  v_def [some (en lights_), some (en span_), some (en length_)] ((jm_last (jm_bind fun r_1 hr_1 => (jm_bind fun r_2 hr_2 => (jm_retS _ (atv hr_2 (v_call (a_co (atv hr_1 (v_call (a_co rfl (a_co rfl a_no)) (t_fraction (1 : Int) lights_))) (a_co (e_max2 (a_co rfl (a_co (e_sub rfl rfl) a_no))) a_no)) (t_power r_1 (max (0 : Int) (length_ - span_))))) rfl)))))
def p_by_hold (lights_ : Int) (hold_ : (Int × Int)) (length_ : Int) : R (Int × Int) := p_check_lights lights_ >>= fun r_1 => p_check_hold hold_ >>= fun r_2 => p_check_range length_ (0 : Int) c_MOST_ROW >>= fun r_3 => p_light_chance lights_ hold_ >>= fun r_4 => p_power r_4 length_ >>= fun r_5 => .ok r_5
set_option maxHeartbeats 0 in
theorem t_by_hold (lights_ : Int) (hold_ : (Int × Int)) (length_ : Int) : Ev (f_by_hold [en lights_, en hold_, en length_]) (p_by_hold lights_ hold_ length_) :=
  v_def [some (en lights_), some (en hold_), some (en length_)] ((jm_bind fun r_1 hr_1 => (jm_ex (x := r_1) (atv hr_1 (v_call (a_co rfl a_no) (t_check_lights lights_))) (jm_bind fun r_2 hr_2 => (jm_ex (x := r_2) (atv hr_2 (v_call (a_co rfl a_no) (t_check_hold hold_))) (jm_bind fun r_3 hr_3 => (jm_ex (x := r_3) (atv hr_3 (v_call (a_co rfl (a_co rfl (a_co rfl a_no))) (t_check_range length_ (0 : Int) c_MOST_ROW))) (jm_last (jm_bind fun r_4 hr_4 => (jm_bind fun r_5 hr_5 => (jm_retS _ (atv hr_5 (v_call (a_co (atv hr_4 (v_call (a_co rfl (a_co rfl a_no)) (t_light_chance lights_ hold_))) (a_co rfl a_no)) (t_power r_4 length_))) rfl)))))))))))
def p_share (machine_ : ((List Tx) × (List (Tx × Int)))) (price_ : Int) : R (Int × Int) := p_check_machine machine_ >>= fun r_1 => (if (!(decide ((1 : Int) ≤ price_) && decide (price_ ≤ c_MOST_COINS))) then stk else p_mean_of machine_ (Dc.mk [] : (Dc Int Int)) >>= fun r_3 => p_fraction price_ (1 : Int) >>= fun r_4 => p_over r_3 r_4 >>= fun r_5 => .ok r_5)
set_option maxHeartbeats 0 in
theorem t_share (machine_ : ((List Tx) × (List (Tx × Int)))) (price_ : Int) : Ev (f_share [en machine_, en price_]) (p_share machine_ price_) :=
  v_def [some (en machine_), some (en price_)] ((jm_bind fun r_1 hr_1 => (jm_ex (x := r_1) (atv hr_1 (v_call (a_co rfl a_no) (t_check_machine machine_))) (jm_ifs (t_not (t_val (e_ch rfl rfl rfl))) (fun k_2 => jm_stk) (fun k_2 => (jm_first (jm_last (jm_bind fun r_3 hr_3 => (jm_bind fun r_4 hr_4 => (jm_bind fun r_5 hr_5 => (jm_retS _ (atv hr_5 (v_call (a_co (atv hr_3 (v_call (a_co rfl (a_co rfl a_no)) (t_mean_of machine_ (Dc.mk [] : (Dc Int Int))))) (a_co (atv hr_4 (v_call (a_co rfl (a_co rfl a_no)) (t_fraction price_ (1 : Int)))) a_no)) (t_over r_3 r_4))) rfl)))))))))))
def p_mean_held (machine_ : ((List Tx) × (List (Tx × Int)))) (stops_ : (List Int)) (held_ : (List Int)) : R (Int × Int) := p_check_held machine_ stops_ held_ >>= fun r_1 => dcT (fun (a_2 : Int) => .ok a_2) (fun (a_2 : Int) => atR stops_ a_2 >>= fun v_3 => .ok v_3) held_ >>= fun d_4 => p_mean_of machine_ d_4 >>= fun r_5 => .ok r_5
set_option maxHeartbeats 0 in
theorem t_mean_held (machine_ : ((List Tx) × (List (Tx × Int)))) (stops_ : (List Int)) (held_ : (List Int)) : Ev (f_mean_held [en machine_, en stops_, en held_]) (p_mean_held machine_ stops_ held_) :=
  v_def [some (en machine_), some (en stops_), some (en held_), none] ((jm_bind fun r_1 hr_1 => (jm_ex (x := r_1) (atv hr_1 (v_call (a_co rfl (a_co rfl (a_co rfl a_no))) (t_check_held machine_ stops_ held_))) (jm_last (jm_bind fun d_4 hd_4 => (jm_bind fun r_5 hr_5 => (jm_retS _ (atv hr_5 (v_call (a_co rfl (a_co (atv hd_4 (v_dc kyA (fun (a_2 : Int) => [some (en machine_), some (en stops_), some (en held_), some (en a_2)]) (i_l (xs := held_) rfl) (fun a_2 => (ev_ok rfl)) (fun a_2 => (ev_bind fun v_3 hv_3 => (ev_ok (atv hv_3 (v_ixl (xs := stops_) rfl rfl))))))) a_no)) (t_mean_of machine_ d_4))) rfl)))))))
def p_best_held_b0 (machine_ : ((List Tx) × (List (Tx × Int)))) (stops_ : (List Int)) (best_ : (Option ((Int × Int) × (List Int)))) (held_ : (List Int)) : R (Option ((Int × Int) × (List Int))) := dcT (fun (a_4 : Int) => .ok a_4) (fun (a_4 : Int) => atR stops_ a_4 >>= fun v_5 => .ok v_5) held_ >>= fun d_6 => p_mean_of machine_ d_6 >>= fun r_7 => (if best_.isNone then .ok true else opt best_ >>= fun o_8 => p_is_less o_8.1 r_7 >>= fun r_9 => .ok r_9) >>= fun b_10 => (if b_10 then .ok ((some (r_7, held_)) : (Option ((Int × Int) × (List Int)))) >>= fun best__12 => .ok best__12 else .ok best_)
set_option maxHeartbeats 0 in
theorem t_best_held_b0 (machine_ : ((List Tx) × (List (Tx × Int)))) (stops_ : (List Int)) (best_ : (Option ((Int × Int) × (List Int)))) (held_ : (List Int)) (j : Nat → Option D) : Jm (ap m_best_held_b0 [some (en machine_), some (en stops_), some (en best_), some (en held_), j 4, j 5]) (p_best_held_b0 machine_ stops_ best_ held_) (WL (σ := (Option ((Int × Int) × (List Int)))) (fun (s : (Option ((Int × Int) × (List Int)))) (j : Nat → Option D) => [some (en machine_), some (en stops_), some (en s), j 3, j 4, j 5])) :=
  (jm_bind fun d_6 hd_6 => (jm_bind fun r_7 hr_7 => (jm_set (x := r_7) (atv hr_7 (v_call (a_co rfl (a_co (atv hd_6 (v_dc kyA (fun (a_4 : Int) => [some (en machine_), some (en stops_), some (en best_), some (en held_), j 4, some (en a_4)]) (i_l (xs := held_) rfl) (fun a_4 => (ev_ok rfl)) (fun a_4 => (ev_bind fun v_5 hv_5 => (ev_ok (atv hv_5 (v_ixl (xs := stops_) rfl rfl))))))) a_no)) (t_mean_of machine_ d_6))) [some (en machine_), some (en stops_), some (en best_), some (en held_), some (en r_7), j 5] (jm_last (jm_bind fun b_10 hb_10 => (jm_ifs (att hb_10 (et_or (t_val (e_is (a := best_) rfl)) (et_bind fun o_8 ho_8 => (et_bind fun r_9 hr_9 => (et_ok (t_val (atv hr_9 (v_call (a_co (e_p1 (p := o_8) (atv ho_8 (v_un (o := best_) rfl))) (a_co rfl a_no)) (t_is_less o_8.1 r_7))))))))) (fun k_11 => (jm_bind fun best__12 hbest__12 => (jm_set (x := best__12) (at_ok hbest__12 (so (a := (r_7, held_)) (e_t2 (a := r_7) (b := held_) (a_co rfl (a_co rfl a_no))))) [some (en machine_), some (en stops_), some (en best__12), some (en held_), some (en r_7), j 5] (jm_ok ⟨jn [some (en machine_), some (en stops_), some (en best__12), some (en held_), some (en r_7), j 5], rfl⟩)))) (fun k_11 => (jm_first (jm_ok ⟨jn [some (en machine_), some (en stops_), some (en best_), some (en held_), some (en r_7), j 5], rfl⟩)))))))))
def p_best_held (machine_ : ((List Tx) × (List (Tx × Int)))) (stops_ : (List Int)) : R (Option ((Int × Int) × (List Int))) := p_check_stops machine_ stops_ >>= fun r_1 => .ok ((none : (Option ((Int × Int) × (List Int)))) : (Option ((Int × Int) × (List Int)))) >>= fun best__2 => p_sets_of (stops_.length : Int) >>= fun r_3 => forS (fun (x : (List Int)) (s : (Option ((Int × Int) × (List Int)))) => p_best_held_b0 machine_ stops_ s x) r_3 best__2 >>= fun s_13 => .ok s_13
set_option maxHeartbeats 0 in
theorem t_best_held (machine_ : ((List Tx) × (List (Tx × Int)))) (stops_ : (List Int)) : Ev (f_best_held [en machine_, en stops_]) (p_best_held machine_ stops_) :=
  v_def [some (en machine_), some (en stops_), none, none, none, none] ((jm_bind fun r_1 hr_1 => (jm_ex (x := r_1) (atv hr_1 (v_call (a_co rfl (a_co rfl a_no)) (t_check_stops machine_ stops_))) (jm_bind fun best__2 hbest__2 => (jm_set (x := best__2) (at_ok hbest__2 rfl) [some (en machine_), some (en stops_), some (en best__2), none, none, none] (jm_bind fun r_3 hr_3 => (jm_seq (fun (s : (Option ((Int × Int) × (List Int)))) (j : Nat → Option D) => [some (en machine_), some (en stops_), some (en s), j 3, j 4, j 5]) (jm_for (σ := (Option ((Int × Int) × (List Int)))) (s0 := best__2) (fun (s : (Option ((Int × Int) × (List Int)))) (j : Nat → Option D) => [some (en machine_), some (en stops_), some (en s), j 3, j 4, j 5]) (i_l (xs := r_3) (atv hr_3 (v_call (a_co (e_lenL (xs := stops_) (a_co rfl a_no)) a_no) (t_sets_of (stops_.length : Int))))) (fun (x : (List Int)) (s : (Option ((Int × Int) × (List Int)))) j => jm_go [some (en machine_), some (en stops_), some (en s), some (en x), j 4, j 5] (t_best_held_b0 machine_ stops_ s x j))) (fun s_13 j_14 => (jm_last (jm_retS _ rfl rfl))))))))))
def p_streak_b1 (ended_ : (Int × Int)) (one_ : (Int × Int)) : R (Int × Int) := p_plus ended_ one_ >>= fun r_14 => .ok r_14
set_option maxHeartbeats 0 in
theorem t_streak_b1 (machine_ : ((List Tx) × (List (Tx × Int)))) (spins_ : Int) (length_ : Int) (yes_ : (Int × Int)) (no_ : (Int × Int)) (row_ : (List (Int × Int))) (done_ : (Int × Int)) (__ : Int) (ended_ : (Int × Int)) (one_ : (Int × Int)) (j : Nat → Option D) : Jm (ap m_streak_b0 [some (en machine_), some (en spins_), some (en length_), some (en yes_), some (en no_), some (en row_), some (en done_), some (en __), some (en ended_), some (en one_)]) (p_streak_b1 ended_ one_) (WL (σ := (Int × Int)) (fun (s : (Int × Int)) (j : Nat → Option D) => [some (en machine_), some (en spins_), some (en length_), some (en yes_), some (en no_), some (en row_), some (en done_), some (en __), some (en s), j 9])) :=
  (jm_last (jm_bind fun r_14 hr_14 => (jm_set (x := r_14) (atv hr_14 (v_call (a_co rfl (a_co rfl a_no)) (t_plus ended_ one_))) [some (en machine_), some (en spins_), some (en length_), some (en yes_), some (en no_), some (en row_), some (en done_), some (en __), some (en r_14), some (en one_)] (jm_ok ⟨jn [some (en machine_), some (en spins_), some (en length_), some (en yes_), some (en no_), some (en row_), some (en done_), some (en __), some (en r_14), some (en one_)], rfl⟩))))
def p_streak_b0 (yes_ : (Int × Int)) (no_ : (Int × Int)) (done_ : (Int × Int)) (row_ : (List (Int × Int))) (__ : Int) : R ((Int × Int) × (List (Int × Int))) := atR row_ (-1 : Int) >>= fun v_10 => p_times v_10 yes_ >>= fun r_11 => p_plus done_ r_11 >>= fun r_12 => .ok (c_NOUGHT_held : (Int × Int)) >>= fun ended__13 => forS (fun (x : (Int × Int)) (s : (Int × Int)) => p_streak_b1 s x) row_ ended__13 >>= fun s_15 => p_times s_15 no_ >>= fun r_17 => mapG (fun (a_18 : (Int × Int)) => p_times a_18 yes_ >>= fun r_19 => .ok r_19) (cutA row_ none (some (-1 : Int))) >>= fun l_20 => lstG (r_17 :: l_20) >>= fun l_21 => .ok (r_12, l_21)
set_option maxHeartbeats 0 in
theorem t_streak_b0 (machine_ : ((List Tx) × (List (Tx × Int)))) (spins_ : Int) (length_ : Int) (yes_ : (Int × Int)) (no_ : (Int × Int)) (done_ : (Int × Int)) (row_ : (List (Int × Int))) (__ : Int) (j : Nat → Option D) : Jm (ap m_streak_b1 [some (en machine_), some (en spins_), some (en length_), some (en yes_), some (en no_), some (en row_), some (en done_), some (en __), j 8, j 9]) (p_streak_b0 yes_ no_ done_ row_ __) (WL (σ := ((Int × Int) × (List (Int × Int)))) (fun (s : ((Int × Int) × (List (Int × Int)))) (j : Nat → Option D) => [some (en machine_), some (en spins_), some (en length_), some (en yes_), some (en no_), some (en s.2), some (en s.1), j 7, j 8, j 9])) :=
  (jm_bind fun v_10 hv_10 => (jm_bind fun r_11 hr_11 => (jm_bind fun r_12 hr_12 => (jm_set (x := r_12) (atv hr_12 (v_call (a_co rfl (a_co (atv hr_11 (v_call (a_co (atv hv_10 (v_ixl (xs := row_) rfl rfl)) (a_co rfl a_no)) (t_times v_10 yes_))) a_no)) (t_plus done_ r_11))) [some (en machine_), some (en spins_), some (en length_), some (en yes_), some (en no_), some (en row_), some (en r_12), some (en __), j 8, j 9] (jm_bind fun ended__13 hended__13 => (jm_set (x := ended__13) (at_ok hended__13 rfl) [some (en machine_), some (en spins_), some (en length_), some (en yes_), some (en no_), some (en row_), some (en r_12), some (en __), some (en ended__13), j 9] (jm_seq (fun (s : (Int × Int)) (j : Nat → Option D) => [some (en machine_), some (en spins_), some (en length_), some (en yes_), some (en no_), some (en row_), some (en r_12), some (en __), some (en s), j 9]) (jm_for (σ := (Int × Int)) (s0 := ended__13) (fun (s : (Int × Int)) (j : Nat → Option D) => [some (en machine_), some (en spins_), some (en length_), some (en yes_), some (en no_), some (en row_), some (en r_12), some (en __), some (en s), j 9]) (i_l (xs := row_) rfl) (fun (x : (Int × Int)) (s : (Int × Int)) j => jm_go [some (en machine_), some (en spins_), some (en length_), some (en yes_), some (en no_), some (en row_), some (en r_12), some (en __), some (en s), some (en x)] (t_streak_b1 machine_ spins_ length_ yes_ no_ row_ r_12 __ s x j))) (fun s_15 j_16 => (jm_last (jm_bind fun r_17 hr_17 => (jm_bind fun l_20 hl_20 => (jm_bind fun l_21 hl_21 => (jm_set (x := l_21) (atl hl_21 (v_li (xs := r_17 :: l_20) (a_co (atv hr_17 (v_call (a_co rfl (a_co rfl a_no)) (t_times s_15 no_))) (a_st (atl hl_20 (v_map (fun (a_18 : (Int × Int)) => [some (en machine_), some (en spins_), some (en length_), some (en yes_), some (en no_), some (en row_), some (en r_12), some (en __), some (en s_15), some (en a_18)]) (i_l (xs := (cutA row_ none (some (-1 : Int)))) (e_sl (xs := row_) rfl p_none (p_some rfl))) (fun a_18 => (ev_bind fun r_19 hr_19 => (ev_ok (atv hr_19 (v_call (a_co rfl (a_co rfl a_no)) (t_times a_18 yes_)))))))) a_no)) (by simp <;> first | rfl | exact ⟨rfl, rfl⟩))) [some (en machine_), some (en spins_), some (en length_), some (en yes_), some (en no_), some (en l_21), some (en r_12), some (en __), some (en s_15), j_16 9] (jm_ok ⟨jn [some (en machine_), some (en spins_), some (en length_), some (en yes_), some (en no_), some (en l_21), some (en r_12), some (en __), some (en s_15), j_16 9], rfl⟩))))))))))))))
def p_streak (machine_ : ((List Tx) × (List (Tx × Int)))) (spins_ : Int) (length_ : Int) : R (Int × Int) := p_check_machine machine_ >>= fun r_1 => (if (!(decide ((0 : Int) ≤ spins_) && decide (spins_ ≤ c_MOST_SPINS))) then stk else (if (!(decide ((1 : Int) ≤ length_) && decide (length_ ≤ c_MOST_LENGTH))) then stk else p_hits machine_ >>= fun r_4 => p_minus c_ONE_held r_4 >>= fun r_5 => repG ([c_NOUGHT_held] : (List (Int × Int))) (length_ - (1 : Int)) >>= fun l_6 => lstG (c_ONE_held :: l_6) >>= fun l_7 => .ok (c_NOUGHT_held : (Int × Int)) >>= fun done__8 => rgR1 spins_ >>= fun l_9 => forS (fun (x : Int) (s : ((Int × Int) × (List (Int × Int)))) => p_streak_b0 r_4 r_5 s.1 s.2 x) l_9 (done__8, l_7) >>= fun s_22 => .ok s_22.1))
set_option maxHeartbeats 0 in
theorem t_streak (machine_ : ((List Tx) × (List (Tx × Int)))) (spins_ : Int) (length_ : Int) : Ev (f_streak [en machine_, en spins_, en length_]) (p_streak machine_ spins_ length_) :=
  v_def [some (en machine_), some (en spins_), some (en length_), none, none, none, none, none, none, none] ((jm_bind fun r_1 hr_1 => (jm_ex (x := r_1) (atv hr_1 (v_call (a_co rfl a_no) (t_check_machine machine_))) (jm_ifs (t_not (t_val (e_ch rfl rfl rfl))) (fun k_2 => jm_stk) (fun k_2 => (jm_first (jm_ifs (t_not (t_val (e_ch rfl rfl rfl))) (fun k_3 => jm_stk) (fun k_3 => (jm_first (jm_bind fun r_4 hr_4 => (jm_set (x := r_4) (atv hr_4 (v_call (a_co rfl a_no) (t_hits machine_))) [some (en machine_), some (en spins_), some (en length_), some (en r_4), none, none, none, none, none, none] (jm_bind fun r_5 hr_5 => (jm_set (x := r_5) (atv hr_5 (v_call (a_co rfl (a_co rfl a_no)) (t_minus c_ONE_held r_4))) [some (en machine_), some (en spins_), some (en length_), some (en r_4), some (en r_5), none, none, none, none, none] (jm_bind fun l_6 hl_6 => (jm_bind fun l_7 hl_7 => (jm_set (x := l_7) (atl hl_7 (v_li (xs := c_ONE_held :: l_6) (a_co rfl (a_st (atl hl_6 (v_rep (xs := ([c_NOUGHT_held] : (List (Int × Int)))) (e_li (xs := [c_NOUGHT_held]) (a_co rfl a_no)) (e_sub rfl rfl))) a_no)) (by simp <;> first | rfl | exact ⟨rfl, rfl⟩))) [some (en machine_), some (en spins_), some (en length_), some (en r_4), some (en r_5), some (en l_7), none, none, none, none] (jm_bind fun done__8 hdone__8 => (jm_set (x := done__8) (at_ok hdone__8 rfl) [some (en machine_), some (en spins_), some (en length_), some (en r_4), some (en r_5), some (en l_7), some (en done__8), none, none, none] (jm_bind fun l_9 hl_9 => (jm_seq (fun (s : ((Int × Int) × (List (Int × Int)))) (j : Nat → Option D) => [some (en machine_), some (en spins_), some (en length_), some (en r_4), some (en r_5), some (en s.2), some (en s.1), j 7, j 8, j 9]) (jm_for (σ := ((Int × Int) × (List (Int × Int)))) (s0 := (done__8, l_7)) (fun (s : ((Int × Int) × (List (Int × Int)))) (j : Nat → Option D) => [some (en machine_), some (en spins_), some (en length_), some (en r_4), some (en r_5), some (en s.2), some (en s.1), j 7, j 8, j 9]) (ati hl_9 (i_r1 (a_co rfl a_no))) (fun (x : Int) (s : ((Int × Int) × (List (Int × Int)))) j => jm_go [some (en machine_), some (en spins_), some (en length_), some (en r_4), some (en r_5), some (en s.2), some (en s.1), some (en x), j 8, j 9] (t_streak_b0 machine_ spins_ length_ r_4 r_5 s.1 s.2 x j))) (fun s_22 j_23 => (jm_last (jm_retS _ rfl rfl)))))))))))))))))))))))
def p_mean_spins (machine_ : ((List Tx) × (List (Tx × Int)))) : R (Option (Int × Int)) := p_hits machine_ >>= fun r_1 => (if (!decide (r_1 = c_NOUGHT_held)) then p_over c_ONE_held r_1 >>= fun r_2 => .ok (some r_2) else .ok (none : (Option (Int × Int)))) >>= fun v_3 => .ok v_3
set_option maxHeartbeats 0 in
theorem t_mean_spins (machine_ : ((List Tx) × (List (Tx × Int)))) : Ev (f_mean_spins [en machine_]) (p_mean_spins machine_) :=
  v_def [some (en machine_), none] ((jm_bind fun r_1 hr_1 => (jm_set (x := r_1) (atv hr_1 (v_call (a_co rfl a_no) (t_hits machine_))) [some (en machine_), some (en r_1)] (jm_last (jm_bind fun v_3 hv_3 => (jm_retS _ (atv hv_3 (ev_if (t_val (e_ne (a := r_1) (b := c_NOUGHT_held) rfl rfl)) (ev_bind fun r_2 hr_2 => (ev_ok (so (a := r_2) (atv hr_2 (v_call (a_co rfl (a_co rfl a_no)) (t_over c_ONE_held r_1)))))) (ev_ok rfl))) rfl))))))
def p_by_span (lights_ : Int) (span_ : Int) (length_ : Int) : R (Int × Int) := p_check_lights lights_ >>= fun r_1 => p_check_range span_ (0 : Int) c_MOST_ROW >>= fun r_2 => p_check_range length_ (0 : Int) c_MOST_ROW >>= fun r_3 => p_span_chance lights_ span_ length_ >>= fun r_4 => .ok r_4
set_option maxHeartbeats 0 in
theorem t_by_span (lights_ : Int) (span_ : Int) (length_ : Int) : Ev (f_by_span [en lights_, en span_, en length_]) (p_by_span lights_ span_ length_) :=
  v_def [some (en lights_), some (en span_), some (en length_)] ((jm_bind fun r_1 hr_1 => (jm_ex (x := r_1) (atv hr_1 (v_call (a_co rfl a_no) (t_check_lights lights_))) (jm_bind fun r_2 hr_2 => (jm_ex (x := r_2) (atv hr_2 (v_call (a_co rfl (a_co rfl (a_co rfl a_no))) (t_check_range span_ (0 : Int) c_MOST_ROW))) (jm_bind fun r_3 hr_3 => (jm_ex (x := r_3) (atv hr_3 (v_call (a_co rfl (a_co rfl (a_co rfl a_no))) (t_check_range length_ (0 : Int) c_MOST_ROW))) (jm_last (jm_bind fun r_4 hr_4 => (jm_retS _ (atv hr_4 (v_call (a_co rfl (a_co rfl (a_co rfl a_no))) (t_span_chance lights_ span_ length_))) rfl))))))))))
def p_span_mean (lights_ : Int) (span_ : Int) (rounds_ : Int) : R (Int × Int) := rgR2 (1 : Int) (rounds_ + (1 : Int)) >>= fun l_1 => mapG (fun (a_2 : Int) => p_span_chance lights_ span_ a_2 >>= fun r_3 => .ok r_3) l_1 >>= fun l_4 => p_mean_rounds l_4 >>= fun r_5 => .ok r_5
set_option maxHeartbeats 0 in
theorem t_span_mean (lights_ : Int) (span_ : Int) (rounds_ : Int) : Ev (f_span_mean [en lights_, en span_, en rounds_]) (p_span_mean lights_ span_ rounds_) :=
  v_def [some (en lights_), some (en span_), some (en rounds_), none] ((jm_last (jm_bind fun l_1 hl_1 => (jm_bind fun l_4 hl_4 => (jm_bind fun r_5 hr_5 => (jm_retS _ (atv hr_5 (v_call (a_co (atl hl_4 (v_map (fun (a_2 : Int) => [some (en lights_), some (en span_), some (en rounds_), some (en a_2)]) (ati hl_1 (i_r2 (a_co rfl (a_co (e_add rfl rfl) a_no)))) (fun a_2 => (ev_bind fun r_3 hr_3 => (ev_ok (atv hr_3 (v_call (a_co rfl (a_co rfl (a_co rfl a_no))) (t_span_chance lights_ span_ a_2)))))))) a_no) (t_mean_rounds l_4))) rfl))))))
def p_mean_by_span (lights_ : Int) (span_ : Int) (rounds_ : Int) : R (Int × Int) := p_check_lights lights_ >>= fun r_1 => p_check_range span_ (0 : Int) c_MOST_ROW >>= fun r_2 => p_check_range rounds_ (0 : Int) c_MOST_ROUNDS >>= fun r_3 => p_span_mean lights_ span_ rounds_ >>= fun r_4 => .ok r_4
set_option maxHeartbeats 0 in
theorem t_mean_by_span (lights_ : Int) (span_ : Int) (rounds_ : Int) : Ev (f_mean_by_span [en lights_, en span_, en rounds_]) (p_mean_by_span lights_ span_ rounds_) :=
  v_def [some (en lights_), some (en span_), some (en rounds_)] ((jm_bind fun r_1 hr_1 => (jm_ex (x := r_1) (atv hr_1 (v_call (a_co rfl a_no) (t_check_lights lights_))) (jm_bind fun r_2 hr_2 => (jm_ex (x := r_2) (atv hr_2 (v_call (a_co rfl (a_co rfl (a_co rfl a_no))) (t_check_range span_ (0 : Int) c_MOST_ROW))) (jm_bind fun r_3 hr_3 => (jm_ex (x := r_3) (atv hr_3 (v_call (a_co rfl (a_co rfl (a_co rfl a_no))) (t_check_range rounds_ (0 : Int) c_MOST_ROUNDS))) (jm_last (jm_bind fun r_4 hr_4 => (jm_retS _ (atv hr_4 (v_call (a_co rfl (a_co rfl (a_co rfl a_no))) (t_span_mean lights_ span_ rounds_))) rfl))))))))))
def p_law_b1 (machine_ : ((List Tx) × (List (Tx × Int)))) (size_ : Int) (here_ : (Int × Int)) (mean_ : (Int × Int)) (turn_of_ : Int) : R (Int × (Int × Int) × (Int × Int)) := .ok ((size_ + (1 : Int)) : Int) >>= fun size__41 => p_streak machine_ size__41 size__41 >>= fun r_42 => p__law_times here_ r_42 >>= fun r_43 => p__law_plus mean_ r_43 >>= fun r_44 => .ok (size__41, r_43, r_44)
set_option maxHeartbeats 0 in
theorem t_law_b1 {ns : List Int} (draws_ : (List Int)) (turn_ : Int) (at_ : Int) (lights_ : Int) (signs_ : Tx) (sign_ : Tx) (machine_ : ((List Tx) × (List (Tx × Int)))) (spins_ : Int) (rounds_ : Int) (size_ : Int) (here_ : (Int × Int)) (mean_ : (Int × Int)) (turn_of_ : Int) (j : Nat → Option D) : Jm (ap m_law_b0 [some (scr ns), some (en draws_), some (en turn_), some (en at_), some (en lights_), some (en signs_), some (en sign_), some (en machine_), some (en spins_), some (en rounds_), some (en mean_), some (en here_), some (en size_), some (en turn_of_), j 14, j 15]) (p_law_b1 machine_ size_ here_ mean_ turn_of_) (WL (σ := (Int × (Int × Int) × (Int × Int))) (fun (s : (Int × (Int × Int) × (Int × Int))) (j : Nat → Option D) => [some (scr ns), some (en draws_), some (en turn_), some (en at_), some (en lights_), some (en signs_), some (en sign_), some (en machine_), some (en spins_), some (en rounds_), some (en s.2.2), some (en s.2.1), some (en s.1), j 13, j 14, j 15])) :=
  (jm_bind fun size__41 hsize__41 => (jm_set (x := size__41) (at_ok hsize__41 (e_add rfl rfl)) [some (scr ns), some (en draws_), some (en turn_), some (en at_), some (en lights_), some (en signs_), some (en sign_), some (en machine_), some (en spins_), some (en rounds_), some (en mean_), some (en here_), some (en size__41), some (en turn_of_), j 14, j 15] (jm_bind fun r_42 hr_42 => (jm_bind fun r_43 hr_43 => (jm_set (x := r_43) (atv hr_43 (v_call (a_co rfl (a_co (atv hr_42 (v_call (a_co rfl (a_co rfl (a_co rfl a_no))) (t_streak machine_ size__41 size__41))) a_no)) (t__law_times here_ r_42))) [some (scr ns), some (en draws_), some (en turn_), some (en at_), some (en lights_), some (en signs_), some (en sign_), some (en machine_), some (en spins_), some (en rounds_), some (en mean_), some (en r_43), some (en size__41), some (en turn_of_), j 14, j 15] (jm_last (jm_bind fun r_44 hr_44 => (jm_set (x := r_44) (atv hr_44 (v_call (a_co rfl (a_co rfl a_no)) (t__law_plus mean_ r_43))) [some (scr ns), some (en draws_), some (en turn_), some (en at_), some (en lights_), some (en signs_), some (en sign_), some (en machine_), some (en spins_), some (en rounds_), some (en r_44), some (en r_43), some (en size__41), some (en turn_of_), j 14, j 15] (jm_ok ⟨jn [some (scr ns), some (en draws_), some (en turn_), some (en at_), some (en lights_), some (en signs_), some (en sign_), some (en machine_), some (en spins_), some (en rounds_), some (en r_44), some (en r_43), some (en size__41), some (en turn_of_), j 14, j 15], rfl⟩)))))))))
def p_law_b2 (lights_ : Int) (signs_ : Tx) (sign_ : Tx) (machine_ : ((List Tx) × (List (Tx × Int)))) (stop_ : Int) : R (Unit ⊕ Bool) := atS signs_ stop_ >>= fun v_52 => mulG lights_ (if decide (v_52 = sign_) then (1 : Int) else 0) >>= fun i_53 => p_paid machine_ ([stop_] : (List Int)) >>= fun r_55 => (if (!decide (r_55 = i_53)) then .ok true else p_mean_held machine_ ([stop_] : (List Int)) ([(0 : Int)] : (List Int)) >>= fun r_57 => (if (!decide (r_57 = (i_53, (1 : Int)))) then .ok true else p_mean_held machine_ ([stop_] : (List Int)) ([] : (List Int)) >>= fun r_59 => .ok (!decide (r_59 = ((1 : Int), (1 : Int))))) >>= fun b_60 => .ok b_60) >>= fun b_61 => (if b_61 then .ok (.inr false) else p_best_held machine_ ([stop_] : (List Int)) >>= fun r_65 => atR ([(((1 : Int), (1 : Int)), ([] : (List Int))), ((lights_, (1 : Int)), ([(0 : Int)] : (List Int)))] : (List ((Int × Int) × (List Int)))) (if decide ((0 : Int) < i_53) then (1 : Int) else 0) >>= fun v_66 => (if (!decide (r_65 = (some v_66))) then .ok (.inr false) else .ok (.inl ())))
set_option maxHeartbeats 0 in
theorem t_law_b2 {ns : List Int} (draws_ : (List Int)) (turn_ : Int) (at_ : Int) (lights_ : Int) (signs_ : Tx) (sign_ : Tx) (machine_ : ((List Tx) × (List (Tx × Int)))) (spins_ : Int) (rounds_ : Int) (mean_ : (Int × Int)) (here_ : (Int × Int)) (size_ : Int) (stop_ : Int) (j : Nat → Option D) : Jm (ap m_law_b1 [some (scr ns), some (en draws_), some (en turn_), some (en at_), some (en lights_), some (en signs_), some (en sign_), some (en machine_), some (en spins_), some (en rounds_), some (en mean_), some (en here_), some (en size_), j 13, some (en stop_), j 15]) (p_law_b2 lights_ signs_ sign_ machine_ stop_) (WR (β := Bool) (σ := Unit) (fun (s : Unit) (j : Nat → Option D) => [some (scr ns), some (en draws_), some (en turn_), some (en at_), some (en lights_), some (en signs_), some (en sign_), some (en machine_), some (en spins_), some (en rounds_), some (en mean_), some (en here_), some (en size_), j 13, j 14, j 15])) :=
  (jm_bind fun v_52 hv_52 => (jm_bind fun i_53 hi_53 => (jm_set (x := i_53) (atv hi_53 (v_mul rfl (e_intB (a_co (e_eq (a := v_52) (b := sign_) (atv hv_52 (v_ixs rfl rfl)) rfl) a_no)))) [some (scr ns), some (en draws_), some (en turn_), some (en at_), some (en lights_), some (en signs_), some (en sign_), some (en machine_), some (en spins_), some (en rounds_), some (en mean_), some (en here_), some (en size_), j 13, some (en stop_), some (en i_53)] (jm_bind fun r_55 hr_55 => (jm_bind fun b_61 hb_61 => (jm_ifs (att hb_61 (et_or (t_val (e_ne (a := r_55) (b := i_53) (atv hr_55 (v_call (a_co rfl (a_co (e_li (xs := [stop_]) (a_co rfl a_no)) a_no)) (t_paid machine_ ([stop_] : (List Int))))) rfl)) (et_bind fun r_57 hr_57 => (et_bind fun b_60 hb_60 => (et_ok (att hb_60 (et_or (t_val (e_ne (a := r_57) (b := (i_53, (1 : Int))) (atv hr_57 (v_call (a_co rfl (a_co (e_li (xs := [stop_]) (a_co rfl a_no)) (a_co (e_li (xs := [(0 : Int)]) (a_co rfl a_no)) a_no))) (t_mean_held machine_ ([stop_] : (List Int)) ([(0 : Int)] : (List Int))))) (e_t2 (a := i_53) (b := (1 : Int)) (a_co rfl (a_co rfl a_no))))) (et_bind fun r_59 hr_59 => (et_ok (t_val (e_ne (a := r_59) (b := ((1 : Int), (1 : Int))) (atv hr_59 (v_call (a_co rfl (a_co (e_li (xs := [stop_]) (a_co rfl a_no)) (a_co rfl a_no))) (t_mean_held machine_ ([stop_] : (List Int)) ([] : (List Int))))) (e_t2 (a := (1 : Int)) (b := (1 : Int)) (a_co rfl (a_co rfl a_no)))))))))))))) (fun k_62 => (jm_retS _ rfl rfl)) (fun k_62 => (jm_first (jm_last (jm_bind fun r_65 hr_65 => (jm_bind fun v_66 hv_66 => (jm_ifs (t_val (e_ne (a := r_65) (b := (some v_66)) (atv hr_65 (v_call (a_co rfl (a_co (e_li (xs := [stop_]) (a_co rfl a_no)) a_no)) (t_best_held machine_ ([stop_] : (List Int))))) (so (a := v_66) (atv hv_66 (v_ixl (xs := ([(((1 : Int), (1 : Int)), ([] : (List Int))), ((lights_, (1 : Int)), ([(0 : Int)] : (List Int)))] : (List ((Int × Int) × (List Int))))) (e_li (xs := [(((1 : Int), (1 : Int)), ([] : (List Int))), ((lights_, (1 : Int)), ([(0 : Int)] : (List Int)))]) (a_co (e_t2 (a := ((1 : Int), (1 : Int))) (b := ([] : (List Int))) (a_co (e_t2 (a := (1 : Int)) (b := (1 : Int)) (a_co rfl (a_co rfl a_no))) (a_co rfl a_no))) (a_co (e_t2 (a := (lights_, (1 : Int))) (b := ([(0 : Int)] : (List Int))) (a_co (e_t2 (a := lights_) (b := (1 : Int)) (a_co rfl (a_co rfl a_no))) (a_co (e_li (xs := [(0 : Int)]) (a_co rfl a_no)) a_no))) a_no))) (e_intB (a_co (e_gt rfl rfl) a_no))))))) (fun k_67 => (jm_retS _ rfl rfl)) (fun k_67 => (jm_first (jm_ok ⟨jn [some (scr ns), some (en draws_), some (en turn_), some (en at_), some (en lights_), some (en signs_), some (en sign_), some (en machine_), some (en spins_), some (en rounds_), some (en mean_), some (en here_), some (en size_), j 13, some (en stop_), some (en i_53)], rfl⟩)))))))))))))))
def p_law_b0 (draws_ : (List Int)) (turn_ : Int) : R (Unit ⊕ Bool) := .ok (((10 : Int) + ((10 : Int) * turn_)) : Int) >>= fun at__2 => p__law_mix draws_ at__2 (5 : Int) >>= fun r_3 => .ok (((2 : Int) + r_3) : Int) >>= fun lights__4 => cutG ([65, 66, 67, 68, 69, 70] : Tx) none (some lights__4) >>= fun t_5 => p__law_mix draws_ (at__2 + (1 : Int)) lights__4 >>= fun r_6 => atS t_5 r_6 >>= fun v_7 => .ok ((([t_5] : (List Tx)), ([(v_7, lights__4)] : (List (Tx × Int)))) : ((List Tx) × (List (Tx × Int)))) >>= fun machine__8 => p_hits machine__8 >>= fun r_10 => (if (!decide (r_10 = ((1 : Int), lights__4))) then .ok true else p_by_pattern machine__8 >>= fun r_12 => (if (!decide (r_12 = ([((1 : Int), lights__4)] : (List (Int × Int))))) then .ok true else p_mean_spins machine__8 >>= fun r_14 => (if (!decide (r_14 = (some (lights__4, (1 : Int))))) then .ok true else p_share machine__8 (1 : Int) >>= fun r_16 => .ok (!decide (r_16 = ((1 : Int), (1 : Int))))) >>= fun b_17 => .ok b_17) >>= fun b_18 => .ok b_18) >>= fun b_19 => (if b_19 then .ok (.inr false) else p__law_mix draws_ (at__2 + (2 : Int)) (10 : Int) >>= fun r_21 => .ok (((1 : Int) + r_21) : Int) >>= fun spins__22 => p_streak machine__8 spins__22 spins__22 >>= fun r_25 => p_by_span lights__4 (0 : Int) spins__22 >>= fun r_26 => (if (!decide (r_25 = r_26)) then .ok true else p_by_hold lights__4 ((0 : Int), (1 : Int)) spins__22 >>= fun r_29 => p_by_span lights__4 (0 : Int) spins__22 >>= fun r_30 => .ok (!decide (r_29 = r_30))) >>= fun b_31 => (if b_31 then .ok (.inr false) else p_by_hold lights__4 ((1 : Int), lights__4) (1 : Int) >>= fun r_35 => p_streak machine__8 (2 : Int) (1 : Int) >>= fun r_36 => (if (!decide (r_35 = r_36)) then .ok (.inr false) else p__law_mix draws_ (at__2 + (3 : Int)) (7 : Int) >>= fun r_38 => .ok ((T3.mk ((0 : Int), (1 : Int)) ((1 : Int), (1 : Int)) (0 : Int)) : (T3 (Int × Int) (Int × Int) Int)) >>= fun u_39 => rgR1 r_38 >>= fun l_40 => forS (fun (x : Int) (s : (Int × (Int × Int) × (Int × Int))) => p_law_b1 machine__8 s.1 s.2.1 s.2.2 x) l_40 (u_39.c, u_39.b, u_39.a) >>= fun s_45 => p_mean_by_span lights__4 (0 : Int) r_38 >>= fun r_48 => (if (!decide (r_48 = s_45.2.2)) then .ok (.inr false) else rgR1 lights__4 >>= fun l_50 => onR (forR (fun (x : Int) (s : Unit) => p_law_b2 lights__4 t_5 v_7 machine__8 x) l_50 ()) (fun s_68 => .ok (.inl ())) (fun b_70 => .ok (Sum.inr b_70))))))
set_option maxHeartbeats 0 in
theorem t_law_b0 {ns : List Int} (draws_ : (List Int)) (turn_ : Int) (j : Nat → Option D) : Jm (ap m_law_b2 [some (scr ns), some (en draws_), some (en turn_), j 3, j 4, j 5, j 6, j 7, j 8, j 9, j 10, j 11, j 12, j 13, j 14, j 15]) (p_law_b0 draws_ turn_) (WR (β := Bool) (σ := Unit) (fun (s : Unit) (j : Nat → Option D) => [some (scr ns), some (en draws_), j 2, j 3, j 4, j 5, j 6, j 7, j 8, j 9, j 10, j 11, j 12, j 13, j 14, j 15])) :=
  (jm_bind fun at__2 hat__2 => (jm_set (x := at__2) (at_ok hat__2 (e_add rfl (e_mull rfl rfl (by decide)))) [some (scr ns), some (en draws_), some (en turn_), some (en at__2), j 4, j 5, j 6, j 7, j 8, j 9, j 10, j 11, j 12, j 13, j 14, j 15] (jm_bind fun r_3 hr_3 => (jm_bind fun lights__4 hlights__4 => (jm_set (x := lights__4) (at_ok hlights__4 (e_add rfl (atv hr_3 (v_call (a_co rfl (a_co rfl (a_co rfl a_no))) (t__law_mix draws_ at__2 (5 : Int)))))) [some (scr ns), some (en draws_), some (en turn_), some (en at__2), some (en lights__4), j 5, j 6, j 7, j 8, j 9, j 10, j 11, j 12, j 13, j 14, j 15] (jm_bind fun t_5 ht_5 => (jm_set (x := t_5) (atv ht_5 (v_sls rfl p_none (p_some rfl))) [some (scr ns), some (en draws_), some (en turn_), some (en at__2), some (en lights__4), some (en t_5), j 6, j 7, j 8, j 9, j 10, j 11, j 12, j 13, j 14, j 15] (jm_bind fun r_6 hr_6 => (jm_bind fun v_7 hv_7 => (jm_set (x := v_7) (atv hv_7 (v_ixs rfl (atv hr_6 (v_call (a_co rfl (a_co (e_add rfl rfl) (a_co rfl a_no))) (t__law_mix draws_ (at__2 + (1 : Int)) lights__4))))) [some (scr ns), some (en draws_), some (en turn_), some (en at__2), some (en lights__4), some (en t_5), some (en v_7), j 7, j 8, j 9, j 10, j 11, j 12, j 13, j 14, j 15] (jm_bind fun machine__8 hmachine__8 => (jm_set (x := machine__8) (at_ok hmachine__8 (e_t2 (a := ([t_5] : (List Tx))) (b := ([(v_7, lights__4)] : (List (Tx × Int)))) (a_co (e_li (xs := [t_5]) (a_co rfl a_no)) (a_co (e_li (xs := [(v_7, lights__4)]) (a_co (e_t2 (a := v_7) (b := lights__4) (a_co rfl (a_co rfl a_no))) a_no)) a_no)))) [some (scr ns), some (en draws_), some (en turn_), some (en at__2), some (en lights__4), some (en t_5), some (en v_7), some (en machine__8), j 8, j 9, j 10, j 11, j 12, j 13, j 14, j 15] (jm_bind fun r_10 hr_10 => (jm_bind fun b_19 hb_19 => (jm_ifs (att hb_19 (et_or (t_val (e_ne (a := r_10) (b := ((1 : Int), lights__4)) (atv hr_10 (v_call (a_co rfl a_no) (t_hits machine__8))) (e_t2 (a := (1 : Int)) (b := lights__4) (a_co rfl (a_co rfl a_no))))) (et_bind fun r_12 hr_12 => (et_bind fun b_18 hb_18 => (et_ok (att hb_18 (et_or (t_val (e_ne (a := r_12) (b := ([((1 : Int), lights__4)] : (List (Int × Int)))) (atv hr_12 (v_call (a_co rfl a_no) (t_by_pattern machine__8))) (e_li (xs := [((1 : Int), lights__4)]) (a_co (e_t2 (a := (1 : Int)) (b := lights__4) (a_co rfl (a_co rfl a_no))) a_no)))) (et_bind fun r_14 hr_14 => (et_bind fun b_17 hb_17 => (et_ok (att hb_17 (et_or (t_val (e_ne (a := r_14) (b := (some (lights__4, (1 : Int)))) (atv hr_14 (v_call (a_co rfl a_no) (t_mean_spins machine__8))) (so (a := (lights__4, (1 : Int))) (e_t2 (a := lights__4) (b := (1 : Int)) (a_co rfl (a_co rfl a_no)))))) (et_bind fun r_16 hr_16 => (et_ok (t_val (e_ne (a := r_16) (b := ((1 : Int), (1 : Int))) (atv hr_16 (v_call (a_co rfl (a_co rfl a_no)) (t_share machine__8 (1 : Int)))) (e_t2 (a := (1 : Int)) (b := (1 : Int)) (a_co rfl (a_co rfl a_no))))))))))))))))))) (fun k_20 => (jm_retS _ rfl rfl)) (fun k_20 => (jm_first (jm_bind fun r_21 hr_21 => (jm_bind fun spins__22 hspins__22 => (jm_set (x := spins__22) (at_ok hspins__22 (e_add rfl (atv hr_21 (v_call (a_co rfl (a_co (e_add rfl rfl) (a_co rfl a_no))) (t__law_mix draws_ (at__2 + (2 : Int)) (10 : Int)))))) [some (scr ns), some (en draws_), some (en turn_), some (en at__2), some (en lights__4), some (en t_5), some (en v_7), some (en machine__8), some (en spins__22), j 9, j 10, j 11, j 12, j 13, j 14, j 15] (jm_bind fun r_25 hr_25 => (jm_bind fun r_26 hr_26 => (jm_bind fun b_31 hb_31 => (jm_ifs (att hb_31 (et_or (t_val (e_ne (a := r_25) (b := r_26) (atv hr_25 (v_call (a_co rfl (a_co rfl (a_co rfl a_no))) (t_streak machine__8 spins__22 spins__22))) (atv hr_26 (v_call (a_co rfl (a_co rfl (a_co rfl a_no))) (t_by_span lights__4 (0 : Int) spins__22))))) (et_bind fun r_29 hr_29 => (et_bind fun r_30 hr_30 => (et_ok (t_val (e_ne (a := r_29) (b := r_30) (atv hr_29 (v_call (a_co rfl (a_co (e_t2 (a := (0 : Int)) (b := (1 : Int)) (a_co rfl (a_co rfl a_no))) (a_co rfl a_no))) (t_by_hold lights__4 ((0 : Int), (1 : Int)) spins__22))) (atv hr_30 (v_call (a_co rfl (a_co rfl (a_co rfl a_no))) (t_by_span lights__4 (0 : Int) spins__22)))))))))) (fun k_32 => (jm_retS _ rfl rfl)) (fun k_32 => (jm_first (jm_bind fun r_35 hr_35 => (jm_bind fun r_36 hr_36 => (jm_ifs (t_val (e_ne (a := r_35) (b := r_36) (atv hr_35 (v_call (a_co rfl (a_co (e_t2 (a := (1 : Int)) (b := lights__4) (a_co rfl (a_co rfl a_no))) (a_co rfl a_no))) (t_by_hold lights__4 ((1 : Int), lights__4) (1 : Int)))) (atv hr_36 (v_call (a_co rfl (a_co rfl (a_co rfl a_no))) (t_streak machine__8 (2 : Int) (1 : Int)))))) (fun k_37 => (jm_retS _ rfl rfl)) (fun k_37 => (jm_first (jm_bind fun r_38 hr_38 => (jm_set (x := r_38) (atv hr_38 (v_call (a_co rfl (a_co (e_add rfl rfl) (a_co rfl a_no))) (t__law_mix draws_ (at__2 + (3 : Int)) (7 : Int)))) [some (scr ns), some (en draws_), some (en turn_), some (en at__2), some (en lights__4), some (en t_5), some (en v_7), some (en machine__8), some (en spins__22), some (en r_38), j 10, j 11, j 12, j 13, j 14, j 15] (jm_bind fun u_39 hu_39 => (jm_tg (x := u_39) (at_ok hu_39 (e_t3 (a := ((0 : Int), (1 : Int))) (b := ((1 : Int), (1 : Int))) (c := (0 : Int)) (a_co (e_t2 (a := (0 : Int)) (b := (1 : Int)) (a_co rfl (a_co rfl a_no))) (a_co (e_t2 (a := (1 : Int)) (b := (1 : Int)) (a_co rfl (a_co rfl a_no))) (a_co rfl a_no))))) [some (scr ns), some (en draws_), some (en turn_), some (en at__2), some (en lights__4), some (en t_5), some (en v_7), some (en machine__8), some (en spins__22), some (en r_38), some (en u_39.a), some (en u_39.b), some (en u_39.c), j 13, j 14, j 15] (jm_bind fun l_40 hl_40 => (jm_seq (fun (s : (Int × (Int × Int) × (Int × Int))) (j : Nat → Option D) => [some (scr ns), some (en draws_), some (en turn_), some (en at__2), some (en lights__4), some (en t_5), some (en v_7), some (en machine__8), some (en spins__22), some (en r_38), some (en s.2.2), some (en s.2.1), some (en s.1), j 13, j 14, j 15]) (jm_for (σ := (Int × (Int × Int) × (Int × Int))) (s0 := (u_39.c, u_39.b, u_39.a)) (fun (s : (Int × (Int × Int) × (Int × Int))) (j : Nat → Option D) => [some (scr ns), some (en draws_), some (en turn_), some (en at__2), some (en lights__4), some (en t_5), some (en v_7), some (en machine__8), some (en spins__22), some (en r_38), some (en s.2.2), some (en s.2.1), some (en s.1), j 13, j 14, j 15]) (ati hl_40 (i_r1 (a_co rfl a_no))) (fun (x : Int) (s : (Int × (Int × Int) × (Int × Int))) j => jm_go [some (scr ns), some (en draws_), some (en turn_), some (en at__2), some (en lights__4), some (en t_5), some (en v_7), some (en machine__8), some (en spins__22), some (en r_38), some (en s.2.2), some (en s.2.1), some (en s.1), some (en x), j 14, j 15] (t_law_b1 draws_ turn_ at__2 lights__4 t_5 v_7 machine__8 spins__22 r_38 s.1 s.2.1 s.2.2 x j))) (fun s_45 j_46 => (jm_bind fun r_48 hr_48 => (jm_ifs (t_val (e_ne (a := r_48) (b := s_45.2.2) (atv hr_48 (v_call (a_co rfl (a_co rfl (a_co rfl a_no))) (t_mean_by_span lights__4 (0 : Int) r_38))) rfl)) (fun k_49 => (jm_retS _ rfl rfl)) (fun k_49 => (jm_first (jm_last (jm_bind fun l_50 hl_50 => (jm_seqR (k := (fun b => (Sum.inr b : Unit ⊕ Bool))) (fun (s : Unit) (j : Nat → Option D) => [some (scr ns), some (en draws_), some (en turn_), some (en at__2), some (en lights__4), some (en t_5), some (en v_7), some (en machine__8), some (en spins__22), some (en r_38), some (en s_45.2.2), some (en s_45.2.1), some (en s_45.1), j 13, j 14, j 15]) (jm_forR (σ := Unit) (s0 := ()) (fun (s : Unit) (j : Nat → Option D) => [some (scr ns), some (en draws_), some (en turn_), some (en at__2), some (en lights__4), some (en t_5), some (en v_7), some (en machine__8), some (en spins__22), some (en r_38), some (en s_45.2.2), some (en s_45.2.1), some (en s_45.1), j 13, j 14, j 15]) (ati hl_50 (i_r1 (a_co rfl a_no))) (fun (x : Int) (s : Unit) j => jm_go [some (scr ns), some (en draws_), some (en turn_), some (en at__2), some (en lights__4), some (en t_5), some (en v_7), some (en machine__8), some (en spins__22), some (en r_38), some (en s_45.2.2), some (en s_45.2.1), some (en s_45.1), j 13, some (en x), j 15] (t_law_b2 draws_ turn_ at__2 lights__4 t_5 v_7 machine__8 spins__22 r_38 s_45.2.2 s_45.2.1 s_45.1 x j))) (fun s_68 j_69 => (jm_ok ⟨jn [some (scr ns), some (en draws_), some (en turn_), some (en at__2), some (en lights__4), some (en t_5), some (en v_7), some (en machine__8), some (en spins__22), some (en r_38), some (en s_45.2.2), some (en s_45.2.1), some (en s_45.1), j_69 13, j_69 14, j_69 15], rfl⟩)) (fun _ => rfl))))))))))))))))))))))))))))))))))))))))))))))
def p_law (zs : List Int) : R Bool := rgR1 (4 : Int) >>= fun l_1 => onR (forR (fun (x : Int) (s : Unit) => p_law_b0 zs x) l_1 ()) (fun s_71 => .ok true) (fun b_73 => .ok b_73)
set_option maxHeartbeats 0 in
theorem t_law {ns zs : List Int} (hd : f__law_draws [scr ns] = .ok (en zs)) : Ev (f_law [scr ns]) (p_law zs) :=
  v_def [some (scr ns), none, none, none, none, none, none, none, none, none, none, none, none, none, none, none] ((jm_set (x := zs) (by show (.ok _ >>= fnD 1 f__law_draws) = _; exact hd) [some (scr ns), some (en zs), none, none, none, none, none, none, none, none, none, none, none, none, none, none] (jm_bind fun l_1 hl_1 => (jm_seqR (k := (fun b => b)) (fun (s : Unit) (j : Nat → Option D) => [some (scr ns), some (en zs), j 2, j 3, j 4, j 5, j 6, j 7, j 8, j 9, j 10, j 11, j 12, j 13, j 14, j 15]) (jm_forR (σ := Unit) (s0 := ()) (fun (s : Unit) (j : Nat → Option D) => [some (scr ns), some (en zs), j 2, j 3, j 4, j 5, j 6, j 7, j 8, j 9, j 10, j 11, j 12, j 13, j 14, j 15]) (ati hl_1 (i_r1 (a_co rfl a_no))) (fun (x : Int) (s : Unit) j => jm_go [some (scr ns), some (en zs), some (en x), j 3, j 4, j 5, j 6, j 7, j 8, j 9, j 10, j 11, j 12, j 13, j 14, j 15] (t_law_b0 zs x j))) (fun s_71 j_72 => (jm_last (jm_retS _ rfl rfl))) (fun _ => rfl)))))
end Gk92

set_option Elab.async false
set_option linter.all false
set_option maxRecDepth 100000
namespace Gk92
open PySem PySem.Spec PyProof.Rows L2 Vs
abbrev cl0 : Nat → Addr := fun _ => 0
def topS (i : Nat) : Stmt := PySem.Challenge.pw_arcadeheld_k92_whole_reels_as_guesses.main.body.getD i (.Pass ⟨0, 0, 0, 0⟩)
abbrev st_is_fraction : Stmt := topS 12
abbrev N_is_fraction : List Str := ["told"]
theorem sc_is_fraction : FnScope N_is_fraction ["told"] (defScope st_is_fraction) := ⟨rfl, rfl, rfl, by decide +kernel, rfl, by decide +kernel, by decide +kernel⟩
abbrev st_fraction : Stmt := topS 13
abbrev N_fraction : List Str := ["number", "by", "common"]
theorem sc_fraction : FnScope N_fraction ["number", "by"] (defScope st_fraction) := ⟨rfl, rfl, rfl, by decide +kernel, rfl, by decide +kernel, by decide +kernel⟩
abbrev st_is_less : Stmt := topS 18
abbrev N_is_less : List Str := ["one", "two"]
theorem sc_is_less : FnScope N_is_less ["one", "two"] (defScope st_is_less) := ⟨rfl, rfl, rfl, by decide +kernel, rfl, by decide +kernel, by decide +kernel⟩
abbrev st_check_machine : Stmt := topS 27
abbrev N_check_machine : List Str := ["machine", "strips", "pays", "k", "strip", "pattern", "coins", "good", "sign"]
theorem sc_check_machine : FnScope N_check_machine ["machine"] (defScope st_check_machine) := ⟨rfl, rfl, rfl, by decide +kernel, rfl, by decide +kernel, by decide +kernel⟩
abbrev st_is_met : Stmt := topS 29
abbrev N_is_met : List Str := ["machine", "pattern", "stops", "mark", "strip", "stop"]
theorem sc_is_met : FnScope N_is_met ["machine", "pattern", "stops"] (defScope st_is_met) := ⟨rfl, rfl, rfl, by decide +kernel, rfl, by decide +kernel, by decide +kernel⟩
abbrev st_stops_of : Stmt := topS 33
abbrev N_stops_of : List Str := ["machine", "fixed", "found", "k", "strip", "places", "told", "stop"]
theorem sc_stops_of : FnScope N_stops_of ["machine", "fixed"] (defScope st_stops_of) := ⟨rfl, rfl, rfl, by decide +kernel, rfl, by decide +kernel, by decide +kernel⟩
abbrev st_sets_of : Stmt := topS 46
abbrev N_sets_of : List Str := ["many", "found", "one", "some"]
theorem sc_sets_of : FnScope N_sets_of ["many"] (defScope st_sets_of) := ⟨rfl, rfl, rfl, by decide +kernel, rfl, by decide +kernel, by decide +kernel⟩
abbrev st_check_range : Stmt := topS 54
abbrev N_check_range : List Str := ["number", "least", "most"]
theorem sc_check_range : FnScope N_check_range ["number", "least", "most"] (defScope st_check_range) := ⟨rfl, rfl, rfl, by decide +kernel, rfl, by decide +kernel, by decide +kernel⟩
abbrev st__law_draws : Stmt := topS 70
abbrev N__law_draws : List Str := ["script", "draws", "k", "rest", "turn", "mixed"]
theorem sc__law_draws : FnScope N__law_draws ["script"] (defScope st__law_draws) := ⟨rfl, rfl, rfl, by decide +kernel, rfl, by decide +kernel, by decide +kernel⟩
abbrev st__law_mix : Stmt := topS 71
abbrev N__law_mix : List Str := ["draws", "k", "many", "value"]
theorem sc__law_mix : FnScope N__law_mix ["draws", "k", "many"] (defScope st__law_mix) := ⟨rfl, rfl, rfl, by decide +kernel, rfl, by decide +kernel, by decide +kernel⟩
abbrev st__law_low : Stmt := topS 72
abbrev N__law_low : List Str := ["number", "by", "one", "two"]
theorem sc__law_low : FnScope N__law_low ["number", "by"] (defScope st__law_low) := ⟨rfl, rfl, rfl, by decide +kernel, rfl, by decide +kernel, by decide +kernel⟩
abbrev st_plus : Stmt := topS 14
abbrev N_plus : List Str := ["one", "two"]
theorem sc_plus : FnScope N_plus ["one", "two"] (defScope st_plus) := ⟨rfl, rfl, rfl, by decide +kernel, rfl, by decide +kernel, by decide +kernel⟩
abbrev st_minus : Stmt := topS 15
abbrev N_minus : List Str := ["one", "two"]
theorem sc_minus : FnScope N_minus ["one", "two"] (defScope st_minus) := ⟨rfl, rfl, rfl, by decide +kernel, rfl, by decide +kernel, by decide +kernel⟩
abbrev st_times : Stmt := topS 16
abbrev N_times : List Str := ["one", "two"]
theorem sc_times : FnScope N_times ["one", "two"] (defScope st_times) := ⟨rfl, rfl, rfl, by decide +kernel, rfl, by decide +kernel, by decide +kernel⟩
abbrev st_over : Stmt := topS 17
abbrev N_over : List Str := ["one", "two"]
theorem sc_over : FnScope N_over ["one", "two"] (defScope st_over) := ⟨rfl, rfl, rfl, by decide +kernel, rfl, by decide +kernel, by decide +kernel⟩
abbrev st_check_stops : Stmt := topS 28
abbrev N_check_stops : List Str := ["machine", "stops", "strips", "stop", "strip"]
theorem sc_check_stops : FnScope N_check_stops ["machine", "stops"] (defScope st_check_stops) := ⟨rfl, rfl, rfl, by decide +kernel, rfl, by decide +kernel, by decide +kernel⟩
abbrev st_first_met : Stmt := topS 30
abbrev N_first_met : List Str := ["machine", "stops", "k", "pattern", "_"]
theorem sc_first_met : FnScope N_first_met ["machine", "stops"] (defScope st_first_met) := ⟨rfl, rfl, rfl, by decide +kernel, rfl, by decide +kernel, by decide +kernel⟩
abbrev st_check_lights : Stmt := topS 55
abbrev N_check_lights : List Str := ["lights"]
theorem sc_check_lights : FnScope N_check_lights ["lights"] (defScope st_check_lights) := ⟨rfl, rfl, rfl, by decide +kernel, rfl, by decide +kernel, by decide +kernel⟩
abbrev st_check_hold : Stmt := topS 60
abbrev N_check_hold : List Str := ["hold"]
theorem sc_check_hold : FnScope N_check_hold ["hold"] (defScope st_check_hold) := ⟨rfl, rfl, rfl, by decide +kernel, rfl, by decide +kernel, by decide +kernel⟩
abbrev st__law_plus : Stmt := topS 73
abbrev N__law_plus : List Str := ["one", "two"]
theorem sc__law_plus : FnScope N__law_plus ["one", "two"] (defScope st__law_plus) := ⟨rfl, rfl, rfl, by decide +kernel, rfl, by decide +kernel, by decide +kernel⟩
abbrev st__law_times : Stmt := topS 74
abbrev N__law_times : List Str := ["one", "two"]
theorem sc__law_times : FnScope N__law_times ["one", "two"] (defScope st__law_times) := ⟨rfl, rfl, rfl, by decide +kernel, rfl, by decide +kernel, by decide +kernel⟩
abbrev st_total : Stmt := topS 19
abbrev N_total : List Str := ["told", "found", "one"]
theorem sc_total : FnScope N_total ["told"] (defScope st_total) := ⟨rfl, rfl, rfl, by decide +kernel, rfl, by decide +kernel, by decide +kernel⟩
abbrev st_paid_of : Stmt := topS 31
abbrev N_paid_of : List Str := ["machine", "stops", "at"]
theorem sc_paid_of : FnScope N_paid_of ["machine", "stops"] (defScope st_paid_of) := ⟨rfl, rfl, rfl, by decide +kernel, rfl, by decide +kernel, by decide +kernel⟩
abbrev st_parts_of : Stmt := topS 36
abbrev N_parts_of : List Str := ["machine", "rows", "stops", "k"]
theorem sc_parts_of : FnScope N_parts_of ["machine"] (defScope st_parts_of) := ⟨rfl, rfl, rfl, by decide +kernel, rfl, by decide +kernel, by decide +kernel⟩
abbrev st_check_held : Stmt := topS 44
abbrev N_check_held : List Str := ["machine", "stops", "held", "k"]
theorem sc_check_held : FnScope N_check_held ["machine", "stops", "held"] (defScope st_check_held) := ⟨rfl, rfl, rfl, by decide +kernel, rfl, by decide +kernel, by decide +kernel⟩
abbrev st_power : Stmt := topS 61
abbrev N_power : List Str := ["part", "many", "found", "_"]
theorem sc_power : FnScope N_power ["part", "many"] (defScope st_power) := ⟨rfl, rfl, rfl, by decide +kernel, rfl, by decide +kernel, by decide +kernel⟩
abbrev st_light_chance : Stmt := topS 63
abbrev N_light_chance : List Str := ["lights", "hold"]
theorem sc_light_chance : FnScope N_light_chance ["lights", "hold"] (defScope st_light_chance) := ⟨rfl, rfl, rfl, by decide +kernel, rfl, by decide +kernel, by decide +kernel⟩
abbrev st_mean_rounds : Stmt := topS 66
abbrev N_mean_rounds : List Str := ["chances", "found", "here", "chance"]
theorem sc_mean_rounds : FnScope N_mean_rounds ["chances"] (defScope st_mean_rounds) := ⟨rfl, rfl, rfl, by decide +kernel, rfl, by decide +kernel, by decide +kernel⟩
abbrev st_paid : Stmt := topS 32
abbrev N_paid : List Str := ["machine", "stops"]
theorem sc_paid : FnScope N_paid ["machine", "stops"] (defScope st_paid) := ⟨rfl, rfl, rfl, by decide +kernel, rfl, by decide +kernel, by decide +kernel⟩
abbrev st_mean_of : Stmt := topS 34
abbrev N_mean_of : List Str := ["machine", "fixed", "rows", "stops"]
theorem sc_mean_of : FnScope N_mean_of ["machine", "fixed"] (defScope st_mean_of) := ⟨rfl, rfl, rfl, by decide +kernel, rfl, by decide +kernel, by decide +kernel⟩
abbrev st_hits : Stmt := topS 37
abbrev N_hits : List Str := ["machine"]
theorem sc_hits : FnScope N_hits ["machine"] (defScope st_hits) := ⟨rfl, rfl, rfl, by decide +kernel, rfl, by decide +kernel, by decide +kernel⟩
abbrev st_by_pattern : Stmt := topS 38
abbrev N_by_pattern : List Str := ["machine"]
theorem sc_by_pattern : FnScope N_by_pattern ["machine"] (defScope st_by_pattern) := ⟨rfl, rfl, rfl, by decide +kernel, rfl, by decide +kernel, by decide +kernel⟩
abbrev st_span_chance : Stmt := topS 62
abbrev N_span_chance : List Str := ["lights", "span", "length"]
theorem sc_span_chance : FnScope N_span_chance ["lights", "span", "length"] (defScope st_span_chance) := ⟨rfl, rfl, rfl, by decide +kernel, rfl, by decide +kernel, by decide +kernel⟩
abbrev st_by_hold : Stmt := topS 65
abbrev N_by_hold : List Str := ["lights", "hold", "length"]
theorem sc_by_hold : FnScope N_by_hold ["lights", "hold", "length"] (defScope st_by_hold) := ⟨rfl, rfl, rfl, by decide +kernel, rfl, by decide +kernel, by decide +kernel⟩
abbrev st_share : Stmt := topS 35
abbrev N_share : List Str := ["machine", "price"]
theorem sc_share : FnScope N_share ["machine", "price"] (defScope st_share) := ⟨rfl, rfl, rfl, by decide +kernel, rfl, by decide +kernel, by decide +kernel⟩
abbrev st_mean_held : Stmt := topS 45
abbrev N_mean_held : List Str := ["machine", "stops", "held", "k"]
theorem sc_mean_held : FnScope N_mean_held ["machine", "stops", "held"] (defScope st_mean_held) := ⟨rfl, rfl, rfl, by decide +kernel, rfl, by decide +kernel, by decide +kernel⟩
abbrev st_best_held : Stmt := topS 47
abbrev N_best_held : List Str := ["machine", "stops", "best", "held", "here", "k"]
theorem sc_best_held : FnScope N_best_held ["machine", "stops"] (defScope st_best_held) := ⟨rfl, rfl, rfl, by decide +kernel, rfl, by decide +kernel, by decide +kernel⟩
abbrev st_streak : Stmt := topS 48
abbrev N_streak : List Str := ["machine", "spins", "length", "yes", "no", "row", "done", "_", "ended", "one"]
theorem sc_streak : FnScope N_streak ["machine", "spins", "length"] (defScope st_streak) := ⟨rfl, rfl, rfl, by decide +kernel, rfl, by decide +kernel, by decide +kernel⟩
abbrev st_mean_spins : Stmt := topS 49
abbrev N_mean_spins : List Str := ["machine", "part"]
theorem sc_mean_spins : FnScope N_mean_spins ["machine"] (defScope st_mean_spins) := ⟨rfl, rfl, rfl, by decide +kernel, rfl, by decide +kernel, by decide +kernel⟩
abbrev st_by_span : Stmt := topS 64
abbrev N_by_span : List Str := ["lights", "span", "length"]
theorem sc_by_span : FnScope N_by_span ["lights", "span", "length"] (defScope st_by_span) := ⟨rfl, rfl, rfl, by decide +kernel, rfl, by decide +kernel, by decide +kernel⟩
abbrev st_span_mean : Stmt := topS 67
abbrev N_span_mean : List Str := ["lights", "span", "rounds", "length"]
theorem sc_span_mean : FnScope N_span_mean ["lights", "span", "rounds"] (defScope st_span_mean) := ⟨rfl, rfl, rfl, by decide +kernel, rfl, by decide +kernel, by decide +kernel⟩
abbrev st_mean_by_span : Stmt := topS 68
abbrev N_mean_by_span : List Str := ["lights", "span", "rounds"]
theorem sc_mean_by_span : FnScope N_mean_by_span ["lights", "span", "rounds"] (defScope st_mean_by_span) := ⟨rfl, rfl, rfl, by decide +kernel, rfl, by decide +kernel, by decide +kernel⟩
abbrev st_law : Stmt := topS 75
abbrev N_law : List Str := ["script", "draws", "turn", "at", "lights", "signs", "sign", "machine", "spins", "rounds", "mean", "here", "size", "turn_of", "stop", "pays"]
theorem sc_law : FnScope N_law ["script"] (defScope st_law) := ⟨rfl, rfl, rfl, by decide +kernel, rfl, by decide +kernel, by decide +kernel⟩
structure Fx (w : World) (K : PySem.W.Frag) (mg : Str → Option Value) : Prop where
  b_abs : mg "abs" = none
  b_all : mg "all" = none
  b_enumerate : mg "enumerate" = none
  b_int : mg "int" = none
  b_len : mg "len" = none
  b_list : mg "list" = none
  b_max : mg "max" = none
  b_min : mg "min" = none
  b_range : mg "range" = none
  b_set : mg "set" = none
  b_sorted : mg "sorted" = none
  b_sum : mg "sum" = none
  b_zip : mg "zip" = none
  b_gcd : mg "gcd" = some (.builtin "math.gcd")
  k_ANY : Kon w K mg "ANY" kv_ANY
  k_LEAST_LIGHTS : Kon w K mg "LEAST_LIGHTS" kv_LEAST_LIGHTS
  k_MOST_COINS : Kon w K mg "MOST_COINS" kv_MOST_COINS
  k_MOST_LENGTH : Kon w K mg "MOST_LENGTH" kv_MOST_LENGTH
  k_MOST_LIGHTS : Kon w K mg "MOST_LIGHTS" kv_MOST_LIGHTS
  k_MOST_PAYS : Kon w K mg "MOST_PAYS" kv_MOST_PAYS
  k_MOST_PLACES : Kon w K mg "MOST_PLACES" kv_MOST_PLACES
  k_MOST_ROUNDS : Kon w K mg "MOST_ROUNDS" kv_MOST_ROUNDS
  k_MOST_ROW : Kon w K mg "MOST_ROW" kv_MOST_ROW
  k_MOST_SPINS : Kon w K mg "MOST_SPINS" kv_MOST_SPINS
  k_MOST_STRIPS : Kon w K mg "MOST_STRIPS" kv_MOST_STRIPS
  k_NOUGHT_held : Kon w K mg "NOUGHT_held" kv_NOUGHT_held
  k_NOUGHT_memory : Kon w K mg "NOUGHT_memory" kv_NOUGHT_memory
  k_ONE_held : Kon w K mg "ONE_held" kv_ONE_held
  k_ONE_memory : Kon w K mg "ONE_memory" kv_ONE_memory
  k_SIGNS : Kon w K mg "SIGNS" kv_SIGNS
  g_is_fraction : Gfn K mg "is_fraction" "is_fraction" st_is_fraction ["told"]
  g_fraction : Gfn K mg "fraction" "fraction" st_fraction ["number", "by"]
  g_is_less : Gfn K mg "is_less" "is_less" st_is_less ["one", "two"]
  g_check_machine : Gfn K mg "check_machine" "check_machine" st_check_machine ["machine"]
  g_is_met : Gfn K mg "is_met" "is_met" st_is_met ["machine", "pattern", "stops"]
  g_stops_of : Gfn K mg "stops_of" "stops_of" st_stops_of ["machine", "fixed"]
  g_sets_of : Gfn K mg "sets_of" "sets_of" st_sets_of ["many"]
  g_check_range : Gfn K mg "check_range" "check_range" st_check_range ["number", "least", "most"]
  g__law_draws : Gfn K mg "_law_draws" "_law_draws" st__law_draws ["script"]
  g__law_mix : Gfn K mg "_law_mix" "_law_mix" st__law_mix ["draws", "k", "many"]
  g__law_low : Gfn K mg "_law_low" "_law_low" st__law_low ["number", "by"]
  g_plus : Gfn K mg "plus" "plus" st_plus ["one", "two"]
  g_minus : Gfn K mg "minus" "minus" st_minus ["one", "two"]
  g_times : Gfn K mg "times" "times" st_times ["one", "two"]
  g_over : Gfn K mg "over" "over" st_over ["one", "two"]
  g_check_stops : Gfn K mg "check_stops" "check_stops" st_check_stops ["machine", "stops"]
  g_first_met : Gfn K mg "first_met" "first_met" st_first_met ["machine", "stops"]
  g_check_lights : Gfn K mg "check_lights" "check_lights" st_check_lights ["lights"]
  g_check_hold : Gfn K mg "check_hold" "check_hold" st_check_hold ["hold"]
  g__law_plus : Gfn K mg "_law_plus" "_law_plus" st__law_plus ["one", "two"]
  g__law_times : Gfn K mg "_law_times" "_law_times" st__law_times ["one", "two"]
  g_total : Gfn K mg "total" "total" st_total ["told"]
  g_paid_of : Gfn K mg "paid_of" "paid_of" st_paid_of ["machine", "stops"]
  g_parts_of : Gfn K mg "parts_of" "parts_of" st_parts_of ["machine"]
  g_check_held : Gfn K mg "check_held" "check_held" st_check_held ["machine", "stops", "held"]
  g_power : Gfn K mg "power" "power" st_power ["part", "many"]
  g_light_chance : Gfn K mg "light_chance" "light_chance" st_light_chance ["lights", "hold"]
  g_mean_rounds : Gfn K mg "mean_rounds" "mean_rounds" st_mean_rounds ["chances"]
  g_paid : Gfn K mg "paid" "paid" st_paid ["machine", "stops"]
  g_mean_of : Gfn K mg "mean_of" "mean_of" st_mean_of ["machine", "fixed"]
  g_hits : Gfn K mg "hits" "hits" st_hits ["machine"]
  g_by_pattern : Gfn K mg "by_pattern" "by_pattern" st_by_pattern ["machine"]
  g_span_chance : Gfn K mg "span_chance" "span_chance" st_span_chance ["lights", "span", "length"]
  g_by_hold : Gfn K mg "by_hold" "by_hold" st_by_hold ["lights", "hold", "length"]
  g_share : Gfn K mg "share" "share" st_share ["machine", "price"]
  g_mean_held : Gfn K mg "mean_held" "mean_held" st_mean_held ["machine", "stops", "held"]
  g_best_held : Gfn K mg "best_held" "best_held" st_best_held ["machine", "stops"]
  g_streak : Gfn K mg "streak" "streak" st_streak ["machine", "spins", "length"]
  g_mean_spins : Gfn K mg "mean_spins" "mean_spins" st_mean_spins ["machine"]
  g_by_span : Gfn K mg "by_span" "by_span" st_by_span ["lights", "span", "length"]
  g_span_mean : Gfn K mg "span_mean" "span_mean" st_span_mean ["lights", "span", "rounds"]
  g_mean_by_span : Gfn K mg "mean_by_span" "mean_by_span" st_mean_by_span ["lights", "span", "rounds"]
  g_law : Gfn K mg "law" "law" st_law ["script"]
section
variable {P : Program} {w : World} {K : PySem.W.Frag} {mg : Str → Option Value} {base : Heap}
set_option maxHeartbeats 0 in
theorem b_is_fraction (T : Fx w K mg) {a : Addr} {cdv : Value} {A : Around} {outer : List Env} {s : Shared} {H : Hp} {E : XK} (hr : Room 0 (A.deeper (envOfC "is_fraction" (defScope st_is_fraction) s.heap.objs.size a cdv))) : PSs (cxOf CX0 P w K mg base N_is_fraction "is_fraction" (defScope st_is_fraction) a cdv A outer s H E).nox (defBody st_is_fraction) (sV w K noE [] [] false m_is_fraction) :=
  (s_one (s_ret (v_and (v_cmp d_gt (v_ix d_ix (v_nm 0) v_int) v_int) (v_one (v_cmp (d_eq (hu64 hr)) (v_gb c_gcd T.b_gcd (a_cons (v_ix d_ix (v_nm 0) v_int) (a_cons (v_ix d_ix (v_nm 0) v_int) a_nil))) v_int)))))
theorem c_is_fraction (T : Fx w K mg) : Cal P w K mg base CX0 cl0 1 "is_fraction" 1 false f_is_fraction := by
  obtain ⟨a, fd, F, m, b⟩ := T.g_is_fraction.ex
  exact cal_of F m sc_is_fraction b rfl fun _ _ _ _ _ _ hr => b_is_fraction T hr
set_option maxHeartbeats 0 in
theorem b_fraction (T : Fx w K mg) {a : Addr} {cdv : Value} {A : Around} {outer : List Env} {s : Shared} {H : Hp} {E : XK} (hr : Room 0 (A.deeper (envOfC "fraction" (defScope st_fraction) s.heap.objs.size a cdv))) : PSs (cxOf CX0 P w K mg base N_fraction "fraction" (defScope st_fraction) a cdv A outer s H E).nox (defBody st_fraction) (sV w K noE [] [] false m_fraction) :=
  (s_cons (O1 := []) (s_if (w_cmp d_lt (v_nm 1) v_int) (s_one (s_par (i := 0) (j := 1) rfl sc_fraction.nd (a_cons (v_neg (v_nm 0)) (a_cons (v_neg (v_nm 1)) a_nil)))) s_nil) (s_cons (O1 := []) (s_set (O' := []) 2 sc_fraction.nd (v_gb c_gcd T.b_gcd (a_cons (v_nm 0) (a_cons (v_nm 1) a_nil)))) (s_one (s_ret (v_tup (a_cons (v_op d_fdivW (v_nm 0) (v_nm 2)) (a_cons (v_op d_fdivW (v_nm 1) (v_nm 2)) a_nil)))))))
theorem c_fraction (T : Fx w K mg) : Cal P w K mg base CX0 cl0 1 "fraction" 2 false f_fraction := by
  obtain ⟨a, fd, F, m, b⟩ := T.g_fraction.ex
  exact cal_of F m sc_fraction b rfl fun _ _ _ _ _ _ hr => b_fraction T hr
set_option maxHeartbeats 0 in
theorem b_is_less (T : Fx w K mg) {a : Addr} {cdv : Value} {A : Around} {outer : List Env} {s : Shared} {H : Hp} {E : XK} (hr : Room 0 (A.deeper (envOfC "is_less" (defScope st_is_less) s.heap.objs.size a cdv))) : PSs (cxOf CX0 P w K mg base N_is_less "is_less" (defScope st_is_less) a cdv A outer s H E).nox (defBody st_is_less) (sV w K noE [] [] false m_is_less) :=
  (s_one (s_ret (v_cmp d_lt (v_op d_mul (v_ix d_ix (v_nm 0) v_int) (v_ix d_ix (v_nm 1) v_int)) (v_op d_mul (v_ix d_ix (v_nm 1) v_int) (v_ix d_ix (v_nm 0) v_int)))))
theorem c_is_less (T : Fx w K mg) : Cal P w K mg base CX0 cl0 1 "is_less" 2 false f_is_less := by
  obtain ⟨a, fd, F, m, b⟩ := T.g_is_less.ex
  exact cal_of F m sc_is_less b rfl fun _ _ _ _ _ _ hr => b_is_less T hr
set_option maxHeartbeats 0 in
theorem b_check_machine (T : Fx w K mg) {a : Addr} {cdv : Value} {A : Around} {outer : List Env} {s : Shared} {H : Hp} {E : XK} (hr : Room 0 (A.deeper (envOfC "check_machine" (defScope st_check_machine) s.heap.objs.size a cdv))) : PSs (cxOf CX0 P w K mg base N_check_machine "check_machine" (defScope st_check_machine) a cdv A outer s H E).nox (defBody st_check_machine) (sV w K noE [] [] false m_check_machine) :=
  (s_cons (O1 := []) (s_tg (v_nm 0) (g_tup rfl (gs_cons (g_nm 1 sc_check_machine.nd) (gs_cons (g_nm 2 sc_check_machine.nd) gs_nil)))) (s_cons (O1 := []) (s_if (w_not (w_ch op_le op_le v_int (v_cb c_len T.b_len (a_cons (v_nm 1) a_nil)) (v_kon T.k_MOST_STRIPS))) (s_one s_nev) s_nil) (s_cons (O1 := []) (s_for PassesOwn.never rfl (i_en T.b_enumerate (a_cons (v_nm 1) a_nil)) (g_tup rfl (gs_cons (g_nm 3 sc_check_machine.nd) (gs_cons (g_nm 4 sc_check_machine.nd) gs_nil))) (s_one (s_if (w_or (w_not (w_ch op_le op_le v_int (v_cb c_len T.b_len (a_cons (v_nm 4) a_nil)) (v_kon T.k_MOST_PLACES))) (w_or1 (w_not (w_val (v_cb (c_all rfl) T.b_all (a_cons (v_own (o_lc [("sign", 8)] rfl sc_check_machine.nd (i_str (v_nm 4)) (blkOk_by (N := N_check_machine) (sc := (defScope st_check_machine)) (by decide +kernel)) (fun _ _ _ _ _ => (g_nm 8 sc_check_machine.nd)) (fun _ _ _ _ _ => t_no) (fun _ _ _ _ _ => (v_cmp (d_in (hu65 hr)) (v_nm 8) (v_kon T.k_SIGNS))))) a_nil)))))).pt (s_one s_nev) s_nil))) (s_cons (O1 := []) (s_if (w_cmp d_gt (v_cb c_len T.b_len (a_cons (v_nm 2) a_nil)) (v_kon T.k_MOST_PAYS)) (s_one s_nev) s_nil) (s_one (s_for PassesOwn.never rfl (i_en T.b_enumerate (a_cons (v_nm 2) a_nil)) (g_tup rfl (gs_cons (g_nm 3 sc_check_machine.nd) (gs_cons (g_tup rfl (gs_cons (g_nm 5 sc_check_machine.nd) (gs_cons (g_nm 6 sc_check_machine.nd) gs_nil))) gs_nil))) (s_cons (O1 := []) (s_set (O' := []) 7 sc_check_machine.nd (v_and (v_cmp (d_eq (hu64 hr)) (v_cb c_len T.b_len (a_cons (v_nm 5) a_nil)) (v_cb c_len T.b_len (a_cons (v_nm 1) a_nil))) (v_one (v_cb (c_all rfl) T.b_all (a_cons (v_own (o_lc [("sign", 8)] rfl sc_check_machine.nd (i_str (v_nm 5)) (blkOk_by (N := N_check_machine) (sc := (defScope st_check_machine)) (by decide +kernel)) (fun _ _ _ _ _ => (g_nm 8 sc_check_machine.nd)) (fun _ _ _ _ _ => t_no) (fun _ _ _ _ _ => (v_cmp (d_in (hu65 hr)) (v_nm 8) (v_op d_add (v_kon T.k_SIGNS) (v_kon T.k_ANY)))))) a_nil))))) (s_one (s_if (w_or (w_not (w_val (v_nm 7))) (w_or1 (w_not (w_ch op_le op_le v_int (v_nm 6) (v_kon T.k_MOST_COINS))))).pt (s_one s_nev) s_nil)))))))))
theorem c_check_machine (T : Fx w K mg) : Cal P w K mg base CX0 cl0 1 "check_machine" 1 false f_check_machine := by
  obtain ⟨a, fd, F, m, b⟩ := T.g_check_machine.ex
  exact cal_of F m sc_check_machine b rfl fun _ _ _ _ _ _ hr => b_check_machine T hr
set_option maxHeartbeats 0 in
theorem b_is_met (T : Fx w K mg) {a : Addr} {cdv : Value} {A : Around} {outer : List Env} {s : Shared} {H : Hp} {E : XK} (hr : Room 0 (A.deeper (envOfC "is_met" (defScope st_is_met) s.heap.objs.size a cdv))) : PSs (cxOf CX0 P w K mg base N_is_met "is_met" (defScope st_is_met) a cdv A outer s H E).nox (defBody st_is_met) (sV w K noE [] [] false m_is_met) :=
  (s_one (s_ret (v_cb (c_all rfl) T.b_all (a_cons (v_own (o_lc [("mark", 3), ("strip", 4), ("stop", 5)] rfl sc_is_met.nd (i_zip3 T.b_zip (a_cons (v_nm 1) (a_cons (v_ix d_ix (v_nm 0) v_int) (a_cons (v_nm 2) a_nil)))) (blkOk_by (N := N_is_met) (sc := (defScope st_is_met)) (by decide +kernel)) (fun _ _ _ _ _ => (g_tup rfl (gs_cons (g_nm 3 sc_is_met.nd) (gs_cons (g_nm 4 sc_is_met.nd) (gs_cons (g_nm 5 sc_is_met.nd) gs_nil))))) (fun _ _ _ _ _ => t_no) (fun _ _ _ _ _ => (v_cmp (d_in (hu65 hr)) (v_nm 3) (v_tup (a_cons (v_kon T.k_ANY) (a_cons (v_ix d_ix (v_nm 4) (v_nm 5)) a_nil))))))) a_nil))))
theorem c_is_met (T : Fx w K mg) : Cal P w K mg base CX0 cl0 1 "is_met" 3 false f_is_met := by
  obtain ⟨a, fd, F, m, b⟩ := T.g_is_met.ex
  exact cal_of F m sc_is_met b rfl fun _ _ _ _ _ _ hr => b_is_met T hr
set_option maxHeartbeats 0 in
theorem b_stops_of (T : Fx w K mg) {a : Addr} {cdv : Value} {A : Around} {outer : List Env} {s : Shared} {H : Hp} {E : XK} (hr : Room 0 (A.deeper (envOfC "stops_of" (defScope st_stops_of) s.heap.objs.size a cdv))) : PSs (cxOf CX0 P w K mg base N_stops_of "stops_of" (defScope st_stops_of) a cdv A outer s H E).nox (defBody st_stops_of) (sV w K noE [] [] false m_stops_of) :=
  (s_cons (O1 := []) (s_set (O' := []) 2 sc_stops_of.nd (v_own (o_lst (a_cons (v_own (o_lst a_nil)) a_nil)))) (s_cons (O1 := []) (s_for PassesOwn.never rfl (i_en T.b_enumerate (a_cons (v_ix d_ix (v_nm 0) v_int) a_nil)) (g_tup rfl (gs_cons (g_nm 3 sc_stops_of.nd) (gs_cons (g_nm 4 sc_stops_of.nd) gs_nil))) (s_cons (O1 := []) (s_set (O' := []) 5 sc_stops_of.nd (v_if (w_cmp (d_inE (hu65 hr)) (v_nm 3) (v_nm 1)) (v_own (o_lst (a_cons (v_ix (d_ixE (hu65 hr)) (v_nm 1) (v_nm 3)) a_nil))) (v_own (o_lr1 rfl T.b_list T.b_range (v_cb c_len T.b_len (a_cons (v_nm 4) a_nil)))))) (s_one (s_lc2 (O' := []) 2 [("told", 6), ("stop", 7)] [7] rfl sc_stops_of.nd (i_lst (v_nm 2)) (blkOk_by (N := N_stops_of) (sc := (defScope st_stops_of)) (by decide +kernel)) (fun _ _ _ _ _ => (g_nm 6 sc_stops_of.nd)) (fun _ _ _ _ _ => t_no) (fun _ _ _ _ _ => (i_lst (v_nm 5))) (fun _ _ _ _ _ => (g_nm 7 sc_stops_of.nd)) (fun _ _ _ _ _ => t_no) (fun _ _ _ _ _ => (v_own (o_lst (a_star (v_nm 6) (a_cons (v_nm 7) a_nil))))))))) (s_one (s_ret (v_nm 2)))))
theorem c_stops_of (T : Fx w K mg) : Cal P w K mg base CX0 cl0 1 "stops_of" 2 false f_stops_of := by
  obtain ⟨a, fd, F, m, b⟩ := T.g_stops_of.ex
  exact cal_of F m sc_stops_of b rfl fun _ _ _ _ _ _ hr => b_stops_of T hr
set_option maxHeartbeats 0 in
theorem b_sets_of (T : Fx w K mg) {a : Addr} {cdv : Value} {A : Around} {outer : List Env} {s : Shared} {H : Hp} {E : XK} (hr : Room 0 (A.deeper (envOfC "sets_of" (defScope st_sets_of) s.heap.objs.size a cdv))) : PSs (cxOf CX0 P w K mg base N_sets_of "sets_of" (defScope st_sets_of) a cdv A outer s H E).nox (defBody st_sets_of) (sV w K noE [] [] true m_sets_of) :=
  (s_cons (O1 := [1]) (s_setO (O' := [1]) 1 sc_sets_of.nd (o_lst (a_cons (v_own (o_lst a_nil)) a_nil))) (s_cons (O1 := [1]) (s_for PassesOwn.never rfl (i_rg1 T.b_range (a_cons (v_nm 0) a_nil)) (g_nm 2 sc_sets_of.nd) (s_one (s_ext 1 (v_own (o_lcH [("some", 3)] rfl sc_sets_of.nd (i_own 1) (blkOk_by (N := N_sets_of) (sc := (defScope st_sets_of)) (by decide +kernel)) (fun _ _ _ _ _ => (g_nm 3 sc_sets_of.nd)) (fun _ _ _ _ _ => t_no) (fun _ _ _ _ _ => (v_own (o_lst (a_star (v_nm 3) (a_cons (v_nm 2) a_nil)))))))))) (s_frz (O1 := []) (s_one (s_retO (o_cb (c_sorted (hu65 hr) hr.hd) T.b_sorted (a_cons (v_nm 1) a_nil)))))))
theorem c_sets_of (T : Fx w K mg) : Cal P w K mg base CX0 cl0 1 "sets_of" 1 true f_sets_of := by
  obtain ⟨a, fd, F, m, b⟩ := T.g_sets_of.ex
  exact cal_of F m sc_sets_of b rfl fun _ _ _ _ _ _ hr => b_sets_of T hr
set_option maxHeartbeats 0 in
theorem b_check_range (T : Fx w K mg) {a : Addr} {cdv : Value} {A : Around} {outer : List Env} {s : Shared} {H : Hp} {E : XK} (hr : Room 0 (A.deeper (envOfC "check_range" (defScope st_check_range) s.heap.objs.size a cdv))) : PSs (cxOf CX0 P w K mg base N_check_range "check_range" (defScope st_check_range) a cdv A outer s H E).nox (defBody st_check_range) (sV w K noE [] [] false m_check_range) :=
  (s_one (s_if (w_not (w_ch op_le op_le (v_nm 1) (v_nm 0) (v_nm 2))) (s_one s_nev) s_nil))
theorem c_check_range (T : Fx w K mg) : Cal P w K mg base CX0 cl0 1 "check_range" 3 false f_check_range := by
  obtain ⟨a, fd, F, m, b⟩ := T.g_check_range.ex
  exact cal_of F m sc_check_range b rfl fun _ _ _ _ _ _ hr => b_check_range T hr
set_option maxHeartbeats 0 in
theorem b__law_draws (T : Fx w K mg) {a : Addr} {cdv : Value} {A : Around} {outer : List Env} {s : Shared} {H : Hp} {E : XK} (hr : Room 0 (A.deeper (envOfC "_law_draws" (defScope st__law_draws) s.heap.objs.size a cdv))) : PSs (cxOf CX0 P w K mg base N__law_draws "_law_draws" (defScope st__law_draws) a cdv A outer s H E).nox (defBody st__law_draws) (sV w K noE [] [] true m__law_draws) :=
  (s_cons (O1 := [1]) (s_setO (O' := [1]) 1 sc__law_draws.nd (o_lst a_nil)) (s_cons (O1 := [1]) (s_for PassesOwn.never rfl (i_rg1 T.b_range (a_cons (v_cb (c_min2 rfl) T.b_min (a_cons v_int (a_cons (v_cb c_len T.b_len (a_cons (v_nm 0) a_nil)) a_nil))) a_nil)) (g_nm 2 sc__law_draws.nd) (s_cons (O1 := [1]) (s_set (O' := [1]) 3 sc__law_draws.nd (v_cb c_abs T.b_abs (a_cons (v_ix d_ix (v_nm 0) (v_nm 2)) a_nil))) (s_one (s_if (w_cmp d_ge (v_nm 3) (v_op d_pow v_int v_int)) (s_one (s_for PassesOwn.never rfl (i_rg1 T.b_range (a_cons v_int a_nil)) (g_nm 4 sc__law_draws.nd) (s_one (s_if (w_cmp d_gt (v_nm 3) v_int) (s_cons (O1 := [1]) (s_app 1 (v_op d_mod (v_ct c_int T.b_int (a_cons (v_nm 3) a_nil)) v_int)) (s_one (s_set (O' := [1]) 3 sc__law_draws.nd (v_op d_fdiv (v_nm 3) v_int)))) s_nil)))) (s_cons (O1 := [1]) (s_set (O' := [1]) 5 sc__law_draws.nd (v_op d_mod (v_ct c_int T.b_int (a_cons (v_op d_add (v_op d_mul (v_nm 3) v_int) (v_op d_mul (v_op d_add (v_nm 2) v_int) v_int)) a_nil)) v_int)) (s_cons (O1 := [1]) (s_set (O' := [1]) 5 sc__law_draws.nd (v_op d_mod (v_ct c_int T.b_int (a_cons (v_op d_add (v_op d_add (v_op d_mul (v_nm 5) v_int) (v_op d_mul v_int (v_nm 2))) v_int) a_nil)) v_int)) (s_cons (O1 := [1]) (s_app 1 (v_op d_mod (v_ct c_int T.b_int (a_cons (v_nm 5) a_nil)) v_int)) (s_one (s_app 1 (v_op d_mod (v_ct c_int T.b_int (a_cons (v_op d_fdiv (v_nm 5) v_int) a_nil)) v_int)))))))))) (s_one (s_retS 1))))
theorem c__law_draws (T : Fx w K mg) : Cal P w K mg base CX0 cl0 1 "_law_draws" 1 true f__law_draws := by
  obtain ⟨a, fd, F, m, b⟩ := T.g__law_draws.ex
  exact cal_of F m sc__law_draws b rfl fun _ _ _ _ _ _ hr => b__law_draws T hr
set_option maxHeartbeats 0 in
theorem b__law_mix (T : Fx w K mg) {a : Addr} {cdv : Value} {A : Around} {outer : List Env} {s : Shared} {H : Hp} {E : XK} (hr : Room 0 (A.deeper (envOfC "_law_mix" (defScope st__law_mix) s.heap.objs.size a cdv))) : PSs (cxOf CX0 P w K mg base N__law_mix "_law_mix" (defScope st__law_mix) a cdv A outer s H E).nox (defBody st__law_mix) (sV w K noE [] [] false m__law_mix) :=
  (s_cons (O1 := []) (s_set (O' := []) 3 sc__law_mix.nd v_int) (s_cons (O1 := []) (s_if (w_cmp d_gt (v_cb c_len T.b_len (a_cons (v_nm 0) a_nil)) v_int) (s_one (s_set (O' := []) 3 sc__law_mix.nd (v_ix d_ix (v_nm 0) (v_op d_mod (v_ct c_int T.b_int (a_cons (v_nm 1) a_nil)) (v_cb c_len T.b_len (a_cons (v_nm 0) a_nil)))))) s_nil) (s_cons (O1 := []) (s_if (w_cmp d_lt (v_nm 1) (v_cb c_len T.b_len (a_cons (v_nm 0) a_nil))) (s_one (s_ret (v_op d_mod (v_ct c_int T.b_int (a_cons (v_nm 3) a_nil)) (v_nm 2)))) s_nil) (s_one (s_ret (v_op d_mod (v_ct c_int T.b_int (a_cons (v_op d_fdiv (v_ct c_int T.b_int (a_cons (v_op d_add (v_op d_mul (v_nm 3) v_int) (v_op d_mul (v_nm 1) v_int)) a_nil)) v_int) a_nil)) (v_nm 2)))))))
theorem c__law_mix (T : Fx w K mg) : Cal P w K mg base CX0 cl0 1 "_law_mix" 3 false f__law_mix := by
  obtain ⟨a, fd, F, m, b⟩ := T.g__law_mix.ex
  exact cal_of F m sc__law_mix b rfl fun _ _ _ _ _ _ hr => b__law_mix T hr
set_option maxHeartbeats 0 in
theorem b__law_low (T : Fx w K mg) {a : Addr} {cdv : Value} {A : Around} {outer : List Env} {s : Shared} {H : Hp} {E : XK} (hr : Room 0 (A.deeper (envOfC "_law_low" (defScope st__law_low) s.heap.objs.size a cdv))) : PSs (cxOf CX0 P w K mg base N__law_low "_law_low" (defScope st__law_low) a cdv A outer s H E).nox (defBody st__law_low) (sV w K noE [] [] false m__law_low) :=
  (s_cons (O1 := []) (s_par (i := 2) (j := 3) rfl sc__law_low.nd (a_cons (v_cb c_abs T.b_abs (a_cons (v_nm 0) a_nil)) (a_cons (v_nm 1) a_nil))) (s_cons (O1 := []) (s_while FU PassesOwn.never (w_cmp (d_ne (hu64 hr)) (v_nm 3) v_int) (s_one (s_tg (v_own (o_lst (a_cons (v_nm 3) (a_cons (v_op d_mod (v_ct c_int T.b_int (a_cons (v_nm 2) a_nil)) (v_nm 3)) a_nil)))) (g_lst rfl (gs_cons (g_nm 2 sc__law_low.nd) (gs_cons (g_nm 3 sc__law_low.nd) gs_nil)))))) (s_one (s_ret (v_tup (a_cons (v_op d_fdivW (v_nm 0) (v_nm 2)) (a_cons (v_op d_fdivW (v_nm 1) (v_nm 2)) a_nil)))))))
theorem c__law_low (T : Fx w K mg) : Cal P w K mg base CX0 cl0 1 "_law_low" 2 false f__law_low := by
  obtain ⟨a, fd, F, m, b⟩ := T.g__law_low.ex
  exact cal_of F m sc__law_low b rfl fun _ _ _ _ _ _ hr => b__law_low T hr
set_option maxHeartbeats 0 in
theorem b_plus (T : Fx w K mg) {a : Addr} {cdv : Value} {A : Around} {outer : List Env} {s : Shared} {H : Hp} {E : XK} (hr : Room 1 (A.deeper (envOfC "plus" (defScope st_plus) s.heap.objs.size a cdv))) : PSs (cxOf CX0 P w K mg base N_plus "plus" (defScope st_plus) a cdv A outer s H E).nox (defBody st_plus) (sV w K noE [] [] false m_plus) :=
  (s_one (s_ret (v_fn (c_fraction T) hr pass0 wish0 (a_cons (v_op d_add (v_op d_mul (v_ix d_ix (v_nm 0) v_int) (v_ix d_ix (v_nm 1) v_int)) (v_op d_mul (v_ix d_ix (v_nm 1) v_int) (v_ix d_ix (v_nm 0) v_int))) (a_cons (v_op d_mul (v_ix d_ix (v_nm 0) v_int) (v_ix d_ix (v_nm 1) v_int)) a_nil)))))
theorem c_plus (T : Fx w K mg) : Cal P w K mg base CX0 cl0 2 "plus" 2 false f_plus := by
  obtain ⟨a, fd, F, m, b⟩ := T.g_plus.ex
  exact cal_of F m sc_plus b rfl fun _ _ _ _ _ _ hr => b_plus T hr
set_option maxHeartbeats 0 in
theorem b_minus (T : Fx w K mg) {a : Addr} {cdv : Value} {A : Around} {outer : List Env} {s : Shared} {H : Hp} {E : XK} (hr : Room 1 (A.deeper (envOfC "minus" (defScope st_minus) s.heap.objs.size a cdv))) : PSs (cxOf CX0 P w K mg base N_minus "minus" (defScope st_minus) a cdv A outer s H E).nox (defBody st_minus) (sV w K noE [] [] false m_minus) :=
  (s_one (s_ret (v_fn (c_fraction T) hr pass0 wish0 (a_cons (v_op d_sub (v_op d_mul (v_ix d_ix (v_nm 0) v_int) (v_ix d_ix (v_nm 1) v_int)) (v_op d_mul (v_ix d_ix (v_nm 1) v_int) (v_ix d_ix (v_nm 0) v_int))) (a_cons (v_op d_mul (v_ix d_ix (v_nm 0) v_int) (v_ix d_ix (v_nm 1) v_int)) a_nil)))))
theorem c_minus (T : Fx w K mg) : Cal P w K mg base CX0 cl0 2 "minus" 2 false f_minus := by
  obtain ⟨a, fd, F, m, b⟩ := T.g_minus.ex
  exact cal_of F m sc_minus b rfl fun _ _ _ _ _ _ hr => b_minus T hr
set_option maxHeartbeats 0 in
theorem b_times (T : Fx w K mg) {a : Addr} {cdv : Value} {A : Around} {outer : List Env} {s : Shared} {H : Hp} {E : XK} (hr : Room 1 (A.deeper (envOfC "times" (defScope st_times) s.heap.objs.size a cdv))) : PSs (cxOf CX0 P w K mg base N_times "times" (defScope st_times) a cdv A outer s H E).nox (defBody st_times) (sV w K noE [] [] false m_times) :=
  (s_one (s_ret (v_fn (c_fraction T) hr pass0 wish0 (a_cons (v_op d_mul (v_ix d_ix (v_nm 0) v_int) (v_ix d_ix (v_nm 1) v_int)) (a_cons (v_op d_mul (v_ix d_ix (v_nm 0) v_int) (v_ix d_ix (v_nm 1) v_int)) a_nil)))))
theorem c_times (T : Fx w K mg) : Cal P w K mg base CX0 cl0 2 "times" 2 false f_times := by
  obtain ⟨a, fd, F, m, b⟩ := T.g_times.ex
  exact cal_of F m sc_times b rfl fun _ _ _ _ _ _ hr => b_times T hr
set_option maxHeartbeats 0 in
theorem b_over (T : Fx w K mg) {a : Addr} {cdv : Value} {A : Around} {outer : List Env} {s : Shared} {H : Hp} {E : XK} (hr : Room 1 (A.deeper (envOfC "over" (defScope st_over) s.heap.objs.size a cdv))) : PSs (cxOf CX0 P w K mg base N_over "over" (defScope st_over) a cdv A outer s H E).nox (defBody st_over) (sV w K noE [] [] false m_over) :=
  (s_one (s_ret (v_fn (c_fraction T) hr pass0 wish0 (a_cons (v_op d_mul (v_ix d_ix (v_nm 0) v_int) (v_ix d_ix (v_nm 1) v_int)) (a_cons (v_op d_mul (v_ix d_ix (v_nm 0) v_int) (v_ix d_ix (v_nm 1) v_int)) a_nil)))))
theorem c_over (T : Fx w K mg) : Cal P w K mg base CX0 cl0 2 "over" 2 false f_over := by
  obtain ⟨a, fd, F, m, b⟩ := T.g_over.ex
  exact cal_of F m sc_over b rfl fun _ _ _ _ _ _ hr => b_over T hr
set_option maxHeartbeats 0 in
theorem b_check_stops (T : Fx w K mg) {a : Addr} {cdv : Value} {A : Around} {outer : List Env} {s : Shared} {H : Hp} {E : XK} (hr : Room 1 (A.deeper (envOfC "check_stops" (defScope st_check_stops) s.heap.objs.size a cdv))) : PSs (cxOf CX0 P w K mg base N_check_stops "check_stops" (defScope st_check_stops) a cdv A outer s H E).nox (defBody st_check_stops) (sV w K noE [] [] false m_check_stops) :=
  (s_cons (O1 := []) (s_ex (v_fn (c_check_machine T) hr pass0 wish0 (a_cons (v_nm 0) a_nil))) (s_cons (O1 := []) (s_set (O' := []) 2 sc_check_stops.nd (v_ix d_ix (v_nm 0) v_int)) (s_one (s_if (w_or (w_cmp (d_ne (hu64 hr)) (v_cb c_len T.b_len (a_cons (v_nm 1) a_nil)) (v_cb c_len T.b_len (a_cons (v_nm 2) a_nil))) (w_or1 (w_not (w_val (v_cb (c_all rfl) T.b_all (a_cons (v_own (o_lc [("stop", 3), ("strip", 4)] rfl sc_check_stops.nd (i_zip2 T.b_zip (a_cons (v_nm 1) (a_cons (v_nm 2) a_nil))) (blkOk_by (N := N_check_stops) (sc := (defScope st_check_stops)) (by decide +kernel)) (fun _ _ _ _ _ => (g_tup rfl (gs_cons (g_nm 3 sc_check_stops.nd) (gs_cons (g_nm 4 sc_check_stops.nd) gs_nil)))) (fun _ _ _ _ _ => t_no) (fun _ _ _ _ _ => (v_ch op_le op_lt v_int (v_nm 3) (v_cb c_len T.b_len (a_cons (v_nm 4) a_nil)))))) a_nil)))))).pt (s_one s_nev) s_nil))))
theorem c_check_stops (T : Fx w K mg) : Cal P w K mg base CX0 cl0 2 "check_stops" 2 false f_check_stops := by
  obtain ⟨a, fd, F, m, b⟩ := T.g_check_stops.ex
  exact cal_of F m sc_check_stops b rfl fun _ _ _ _ _ _ hr => b_check_stops T hr
set_option maxHeartbeats 0 in
theorem b_first_met (T : Fx w K mg) {a : Addr} {cdv : Value} {A : Around} {outer : List Env} {s : Shared} {H : Hp} {E : XK} (hr : Room 1 (A.deeper (envOfC "first_met" (defScope st_first_met) s.heap.objs.size a cdv))) : PSs (cxOf CX0 P w K mg base N_first_met "first_met" (defScope st_first_met) a cdv A outer s H E).nox (defBody st_first_met) (sV w K noE [] [] false m_first_met) :=
  (s_cons (O1 := []) (s_for PassesOwn.never rfl (i_en T.b_enumerate (a_cons (v_ix d_ix (v_nm 0) v_int) a_nil)) (g_tup rfl (gs_cons (g_nm 2 sc_first_met.nd) (gs_cons (g_tup rfl (gs_cons (g_nm 3 sc_first_met.nd) (gs_cons (g_nm 4 sc_first_met.nd) gs_nil))) gs_nil))) (s_one (s_if (w_val (v_fn (c_is_met T) hr pass0 wish0 (a_cons (v_nm 0) (a_cons (v_nm 3) (a_cons (v_nm 1) a_nil))))) (s_one (s_ret (v_nm 2))) s_nil))) (s_one (s_ret v_non)))
theorem c_first_met (T : Fx w K mg) : Cal P w K mg base CX0 cl0 2 "first_met" 2 false f_first_met := by
  obtain ⟨a, fd, F, m, b⟩ := T.g_first_met.ex
  exact cal_of F m sc_first_met b rfl fun _ _ _ _ _ _ hr => b_first_met T hr
set_option maxHeartbeats 0 in
theorem b_check_lights (T : Fx w K mg) {a : Addr} {cdv : Value} {A : Around} {outer : List Env} {s : Shared} {H : Hp} {E : XK} (hr : Room 1 (A.deeper (envOfC "check_lights" (defScope st_check_lights) s.heap.objs.size a cdv))) : PSs (cxOf CX0 P w K mg base N_check_lights "check_lights" (defScope st_check_lights) a cdv A outer s H E).nox (defBody st_check_lights) (sV w K noE [] [] false m_check_lights) :=
  (s_one (s_ex (v_fn (c_check_range T) hr pass0 wish0 (a_cons (v_nm 0) (a_cons (v_kon T.k_LEAST_LIGHTS) (a_cons (v_kon T.k_MOST_LIGHTS) a_nil))))))
theorem c_check_lights (T : Fx w K mg) : Cal P w K mg base CX0 cl0 2 "check_lights" 1 false f_check_lights := by
  obtain ⟨a, fd, F, m, b⟩ := T.g_check_lights.ex
  exact cal_of F m sc_check_lights b rfl fun _ _ _ _ _ _ hr => b_check_lights T hr
set_option maxHeartbeats 0 in
theorem b_check_hold (T : Fx w K mg) {a : Addr} {cdv : Value} {A : Around} {outer : List Env} {s : Shared} {H : Hp} {E : XK} (hr : Room 1 (A.deeper (envOfC "check_hold" (defScope st_check_hold) s.heap.objs.size a cdv))) : PSs (cxOf CX0 P w K mg base N_check_hold "check_hold" (defScope st_check_hold) a cdv A outer s H E).nox (defBody st_check_hold) (sV w K noE [] [] false m_check_hold) :=
  (s_one (s_if (w_or (w_not (w_val (v_fn (c_is_fraction T) hr pass0 wish0 (a_cons (v_nm 0) a_nil)))) (w_or1 (w_not (w_ch op_le op_le v_int (v_ix d_ix (v_nm 0) v_int) (v_ix d_ix (v_nm 0) v_int))))).pt (s_one s_nev) s_nil))
theorem c_check_hold (T : Fx w K mg) : Cal P w K mg base CX0 cl0 2 "check_hold" 1 false f_check_hold := by
  obtain ⟨a, fd, F, m, b⟩ := T.g_check_hold.ex
  exact cal_of F m sc_check_hold b rfl fun _ _ _ _ _ _ hr => b_check_hold T hr
set_option maxHeartbeats 0 in
theorem b__law_plus (T : Fx w K mg) {a : Addr} {cdv : Value} {A : Around} {outer : List Env} {s : Shared} {H : Hp} {E : XK} (hr : Room 1 (A.deeper (envOfC "_law_plus" (defScope st__law_plus) s.heap.objs.size a cdv))) : PSs (cxOf CX0 P w K mg base N__law_plus "_law_plus" (defScope st__law_plus) a cdv A outer s H E).nox (defBody st__law_plus) (sV w K noE [] [] false m__law_plus) :=
  (s_one (s_ret (v_fn (c__law_low T) hr pass0 wish0 (a_cons (v_op d_add (v_op d_mul (v_ix d_ix (v_nm 0) v_int) (v_ix d_ix (v_nm 1) v_int)) (v_op d_mul (v_ix d_ix (v_nm 1) v_int) (v_ix d_ix (v_nm 0) v_int))) (a_cons (v_op d_mul (v_ix d_ix (v_nm 0) v_int) (v_ix d_ix (v_nm 1) v_int)) a_nil)))))
theorem c__law_plus (T : Fx w K mg) : Cal P w K mg base CX0 cl0 2 "_law_plus" 2 false f__law_plus := by
  obtain ⟨a, fd, F, m, b⟩ := T.g__law_plus.ex
  exact cal_of F m sc__law_plus b rfl fun _ _ _ _ _ _ hr => b__law_plus T hr
set_option maxHeartbeats 0 in
theorem b__law_times (T : Fx w K mg) {a : Addr} {cdv : Value} {A : Around} {outer : List Env} {s : Shared} {H : Hp} {E : XK} (hr : Room 1 (A.deeper (envOfC "_law_times" (defScope st__law_times) s.heap.objs.size a cdv))) : PSs (cxOf CX0 P w K mg base N__law_times "_law_times" (defScope st__law_times) a cdv A outer s H E).nox (defBody st__law_times) (sV w K noE [] [] false m__law_times) :=
  (s_one (s_ret (v_fn (c__law_low T) hr pass0 wish0 (a_cons (v_op d_mul (v_ix d_ix (v_nm 0) v_int) (v_ix d_ix (v_nm 1) v_int)) (a_cons (v_op d_mul (v_ix d_ix (v_nm 0) v_int) (v_ix d_ix (v_nm 1) v_int)) a_nil)))))
theorem c__law_times (T : Fx w K mg) : Cal P w K mg base CX0 cl0 2 "_law_times" 2 false f__law_times := by
  obtain ⟨a, fd, F, m, b⟩ := T.g__law_times.ex
  exact cal_of F m sc__law_times b rfl fun _ _ _ _ _ _ hr => b__law_times T hr
set_option maxHeartbeats 0 in
theorem b_total (T : Fx w K mg) {a : Addr} {cdv : Value} {A : Around} {outer : List Env} {s : Shared} {H : Hp} {E : XK} (hr : Room 2 (A.deeper (envOfC "total" (defScope st_total) s.heap.objs.size a cdv))) : PSs (cxOf CX0 P w K mg base N_total "total" (defScope st_total) a cdv A outer s H E).nox (defBody st_total) (sV w K noE [] [] false m_total) :=
  (s_cons (O1 := []) (s_set (O' := []) 1 sc_total.nd (v_tup (a_cons v_int (a_cons v_int a_nil)))) (s_cons (O1 := []) (s_for PassesOwn.never rfl (i_lst (v_nm 0)) (g_nm 2 sc_total.nd) (s_one (s_set (O' := []) 1 sc_total.nd (v_fn (c_plus T) hr pass0 wish0 (a_cons (v_nm 1) (a_cons (v_nm 2) a_nil)))))) (s_one (s_ret (v_nm 1)))))
theorem c_total (T : Fx w K mg) : Cal P w K mg base CX0 cl0 3 "total" 1 false f_total := by
  obtain ⟨a, fd, F, m, b⟩ := T.g_total.ex
  exact cal_of F m sc_total b rfl fun _ _ _ _ _ _ hr => b_total T hr
set_option maxHeartbeats 0 in
theorem b_paid_of (T : Fx w K mg) {a : Addr} {cdv : Value} {A : Around} {outer : List Env} {s : Shared} {H : Hp} {E : XK} (hr : Room 2 (A.deeper (envOfC "paid_of" (defScope st_paid_of) s.heap.objs.size a cdv))) : PSs (cxOf CX0 P w K mg base N_paid_of "paid_of" (defScope st_paid_of) a cdv A outer s H E).nox (defBody st_paid_of) (sV w K noE [] [] false m_paid_of) :=
  (s_cons (O1 := []) (s_set (O' := []) 2 sc_paid_of.nd (v_fn (c_first_met T) hr pass0 wish0 (a_cons (v_nm 0) (a_cons (v_nm 1) a_nil)))) (s_one (s_ret (v_if (w_cmp d_is (v_nm 2) v_non) v_int (v_ix d_ix (v_ix d_ix (v_ix d_ix (v_nm 0) v_int) (v_nm 2)) v_int)))))
theorem c_paid_of (T : Fx w K mg) : Cal P w K mg base CX0 cl0 3 "paid_of" 2 false f_paid_of := by
  obtain ⟨a, fd, F, m, b⟩ := T.g_paid_of.ex
  exact cal_of F m sc_paid_of b rfl fun _ _ _ _ _ _ hr => b_paid_of T hr
set_option maxHeartbeats 0 in
theorem b_parts_of (T : Fx w K mg) {a : Addr} {cdv : Value} {A : Around} {outer : List Env} {s : Shared} {H : Hp} {E : XK} (hr : Room 2 (A.deeper (envOfC "parts_of" (defScope st_parts_of) s.heap.objs.size a cdv))) : PSs (cxOf CX0 P w K mg base N_parts_of "parts_of" (defScope st_parts_of) a cdv A outer s H E).nox (defBody st_parts_of) (sV w K noE [] [] true m_parts_of) :=
  (s_cons (O1 := []) (s_set (O' := []) 1 sc_parts_of.nd (v_own (o_lc [("stops", 2)] rfl sc_parts_of.nd (i_lst (v_fn (c_stops_of T) hr pass0 wish0 (a_cons (v_nm 0) (a_cons (v_own o_d0) a_nil)))) (blkOk_by (N := N_parts_of) (sc := (defScope st_parts_of)) (by decide +kernel)) (fun _ _ _ _ _ => (g_nm 2 sc_parts_of.nd)) (fun _ _ _ _ _ => t_no) (fun _ _ _ _ _ => (v_fn (c_first_met T) hr pass0 wish0 (a_cons (v_nm 0) (a_cons (v_nm 2) a_nil))))))) (s_one (s_retO (o_lc [("k", 3)] rfl sc_parts_of.nd (i_rg1 T.b_range (a_cons (v_cb c_len T.b_len (a_cons (v_ix d_ix (v_nm 0) v_int) a_nil)) a_nil)) (blkOk_by (N := N_parts_of) (sc := (defScope st_parts_of)) (by decide +kernel)) (fun _ _ _ _ _ => (g_nm 3 sc_parts_of.nd)) (fun _ _ _ _ _ => t_no) (fun _ _ _ _ _ => (v_fn (c_fraction T) hr pass0 wish0 (a_cons (v_countL (hu65 hr) (v_nm 1) (v_nm 3)) (a_cons (v_cb c_len T.b_len (a_cons (v_nm 1) a_nil)) a_nil))))))))
theorem c_parts_of (T : Fx w K mg) : Cal P w K mg base CX0 cl0 3 "parts_of" 1 true f_parts_of := by
  obtain ⟨a, fd, F, m, b⟩ := T.g_parts_of.ex
  exact cal_of F m sc_parts_of b rfl fun _ _ _ _ _ _ hr => b_parts_of T hr
set_option maxHeartbeats 0 in
theorem b_check_held (T : Fx w K mg) {a : Addr} {cdv : Value} {A : Around} {outer : List Env} {s : Shared} {H : Hp} {E : XK} (hr : Room 2 (A.deeper (envOfC "check_held" (defScope st_check_held) s.heap.objs.size a cdv))) : PSs (cxOf CX0 P w K mg base N_check_held "check_held" (defScope st_check_held) a cdv A outer s H E).nox (defBody st_check_held) (sV w K noE [] [] false m_check_held) :=
  (s_cons (O1 := []) (s_ex (v_fn (c_check_stops T) hr pass0 wish0 (a_cons (v_nm 0) (a_cons (v_nm 1) a_nil)))) (s_one (s_if (w_or (w_cmp (d_ne (hu64 hr)) (v_own (o_ct c_list T.b_list (a_cons (v_nm 2) a_nil))) (v_own (o_sset T.b_sorted T.b_set rfl (v_nm 2)))) (w_or1 (w_not (w_val (v_cb (c_all rfl) T.b_all (a_cons (v_own (o_lc [("k", 3)] rfl sc_check_held.nd (i_lst (v_nm 2)) (blkOk_by (N := N_check_held) (sc := (defScope st_check_held)) (by decide +kernel)) (fun _ _ _ _ _ => (g_nm 3 sc_check_held.nd)) (fun _ _ _ _ _ => t_no) (fun _ _ _ _ _ => (v_ch op_le op_lt v_int (v_nm 3) (v_cb c_len T.b_len (a_cons (v_ix d_ix (v_nm 0) v_int) a_nil)))))) a_nil)))))).pt (s_one s_nev) s_nil)))
theorem c_check_held (T : Fx w K mg) : Cal P w K mg base CX0 cl0 3 "check_held" 3 false f_check_held := by
  obtain ⟨a, fd, F, m, b⟩ := T.g_check_held.ex
  exact cal_of F m sc_check_held b rfl fun _ _ _ _ _ _ hr => b_check_held T hr
set_option maxHeartbeats 0 in
theorem b_power (T : Fx w K mg) {a : Addr} {cdv : Value} {A : Around} {outer : List Env} {s : Shared} {H : Hp} {E : XK} (hr : Room 2 (A.deeper (envOfC "power" (defScope st_power) s.heap.objs.size a cdv))) : PSs (cxOf CX0 P w K mg base N_power "power" (defScope st_power) a cdv A outer s H E).nox (defBody st_power) (sV w K noE [] [] false m_power) :=
  (s_cons (O1 := []) (s_set (O' := []) 2 sc_power.nd (v_kon T.k_ONE_memory)) (s_cons (O1 := []) (s_for PassesOwn.never rfl (i_rg1 T.b_range (a_cons (v_nm 1) a_nil)) (g_nm 3 sc_power.nd) (s_one (s_set (O' := []) 2 sc_power.nd (v_fn (c_times T) hr pass0 wish0 (a_cons (v_nm 2) (a_cons (v_nm 0) a_nil)))))) (s_one (s_ret (v_nm 2)))))
theorem c_power (T : Fx w K mg) : Cal P w K mg base CX0 cl0 3 "power" 2 false f_power := by
  obtain ⟨a, fd, F, m, b⟩ := T.g_power.ex
  exact cal_of F m sc_power b rfl fun _ _ _ _ _ _ hr => b_power T hr
set_option maxHeartbeats 0 in
theorem b_light_chance (T : Fx w K mg) {a : Addr} {cdv : Value} {A : Around} {outer : List Env} {s : Shared} {H : Hp} {E : XK} (hr : Room 2 (A.deeper (envOfC "light_chance" (defScope st_light_chance) s.heap.objs.size a cdv))) : PSs (cxOf CX0 P w K mg base N_light_chance "light_chance" (defScope st_light_chance) a cdv A outer s H E).nox (defBody st_light_chance) (sV w K noE [] [] false m_light_chance) :=
  (s_one (s_ret (v_fn (c_plus T) hr pass0 wish0 (a_cons (v_nm 1) (a_cons (v_fn (c_times T) hr pass0 wish0 (a_cons (v_fn (c_minus T) hr pass0 wish0 (a_cons (v_kon T.k_ONE_memory) (a_cons (v_nm 1) a_nil))) (a_cons (v_fn (c_fraction T) hr pass0 wish0 (a_cons v_int (a_cons (v_nm 0) a_nil))) a_nil))) a_nil)))))
theorem c_light_chance (T : Fx w K mg) : Cal P w K mg base CX0 cl0 3 "light_chance" 2 false f_light_chance := by
  obtain ⟨a, fd, F, m, b⟩ := T.g_light_chance.ex
  exact cal_of F m sc_light_chance b rfl fun _ _ _ _ _ _ hr => b_light_chance T hr
set_option maxHeartbeats 0 in
theorem b_mean_rounds (T : Fx w K mg) {a : Addr} {cdv : Value} {A : Around} {outer : List Env} {s : Shared} {H : Hp} {E : XK} (hr : Room 2 (A.deeper (envOfC "mean_rounds" (defScope st_mean_rounds) s.heap.objs.size a cdv))) : PSs (cxOf CX0 P w K mg base N_mean_rounds "mean_rounds" (defScope st_mean_rounds) a cdv A outer s H E).nox (defBody st_mean_rounds) (sV w K noE [] [] false m_mean_rounds) :=
  (s_cons (O1 := []) (s_set (O' := []) 1 sc_mean_rounds.nd (v_kon T.k_NOUGHT_memory)) (s_cons (O1 := []) (s_set (O' := []) 2 sc_mean_rounds.nd (v_kon T.k_ONE_memory)) (s_cons (O1 := []) (s_for PassesOwn.never rfl (i_lst (v_nm 0)) (g_nm 3 sc_mean_rounds.nd) (s_cons (O1 := []) (s_set (O' := []) 2 sc_mean_rounds.nd (v_fn (c_times T) hr pass0 wish0 (a_cons (v_nm 2) (a_cons (v_nm 3) a_nil)))) (s_one (s_set (O' := []) 1 sc_mean_rounds.nd (v_fn (c_plus T) hr pass0 wish0 (a_cons (v_nm 1) (a_cons (v_nm 2) a_nil))))))) (s_one (s_ret (v_nm 1))))))
theorem c_mean_rounds (T : Fx w K mg) : Cal P w K mg base CX0 cl0 3 "mean_rounds" 1 false f_mean_rounds := by
  obtain ⟨a, fd, F, m, b⟩ := T.g_mean_rounds.ex
  exact cal_of F m sc_mean_rounds b rfl fun _ _ _ _ _ _ hr => b_mean_rounds T hr
set_option maxHeartbeats 0 in
theorem b_paid (T : Fx w K mg) {a : Addr} {cdv : Value} {A : Around} {outer : List Env} {s : Shared} {H : Hp} {E : XK} (hr : Room 3 (A.deeper (envOfC "paid" (defScope st_paid) s.heap.objs.size a cdv))) : PSs (cxOf CX0 P w K mg base N_paid "paid" (defScope st_paid) a cdv A outer s H E).nox (defBody st_paid) (sV w K noE [] [] false m_paid) :=
  (s_cons (O1 := []) (s_ex (v_fn (c_check_stops T) hr pass0 wish0 (a_cons (v_nm 0) (a_cons (v_nm 1) a_nil)))) (s_one (s_ret (v_fn (c_paid_of T) hr pass0 wish0 (a_cons (v_nm 0) (a_cons (v_nm 1) a_nil))))))
theorem c_paid (T : Fx w K mg) : Cal P w K mg base CX0 cl0 4 "paid" 2 false f_paid := by
  obtain ⟨a, fd, F, m, b⟩ := T.g_paid.ex
  exact cal_of F m sc_paid b rfl fun _ _ _ _ _ _ hr => b_paid T hr
set_option maxHeartbeats 0 in
theorem b_mean_of (T : Fx w K mg) {a : Addr} {cdv : Value} {A : Around} {outer : List Env} {s : Shared} {H : Hp} {E : XK} (hr : Room 3 (A.deeper (envOfC "mean_of" (defScope st_mean_of) s.heap.objs.size a cdv))) : PSs (cxOf CX0 P w K mg base N_mean_of "mean_of" (defScope st_mean_of) a cdv A outer s H E).nox (defBody st_mean_of) (sV w K noE [] [] false m_mean_of) :=
  (s_cons (O1 := []) (s_set (O' := []) 2 sc_mean_of.nd (v_fn (c_stops_of T) hr pass0 wish0 (a_cons (v_nm 0) (a_cons (v_nm 1) a_nil)))) (s_one (s_ret (v_fn (c_fraction T) hr pass0 wish0 (a_cons (v_cb (c_sum rfl) T.b_sum (a_cons (v_own (o_lc [("stops", 3)] rfl sc_mean_of.nd (i_lst (v_nm 2)) (blkOk_by (N := N_mean_of) (sc := (defScope st_mean_of)) (by decide +kernel)) (fun _ _ _ _ _ => (g_nm 3 sc_mean_of.nd)) (fun _ _ _ _ _ => t_no) (fun _ _ _ _ _ => (v_fn (c_paid_of T) hr pass0 wish0 (a_cons (v_nm 0) (a_cons (v_nm 3) a_nil)))))) a_nil)) (a_cons (v_cb c_len T.b_len (a_cons (v_nm 2) a_nil)) a_nil))))))
theorem c_mean_of (T : Fx w K mg) : Cal P w K mg base CX0 cl0 4 "mean_of" 2 false f_mean_of := by
  obtain ⟨a, fd, F, m, b⟩ := T.g_mean_of.ex
  exact cal_of F m sc_mean_of b rfl fun _ _ _ _ _ _ hr => b_mean_of T hr
set_option maxHeartbeats 0 in
theorem b_hits (T : Fx w K mg) {a : Addr} {cdv : Value} {A : Around} {outer : List Env} {s : Shared} {H : Hp} {E : XK} (hr : Room 3 (A.deeper (envOfC "hits" (defScope st_hits) s.heap.objs.size a cdv))) : PSs (cxOf CX0 P w K mg base N_hits "hits" (defScope st_hits) a cdv A outer s H E).nox (defBody st_hits) (sV w K noE [] [] false m_hits) :=
  (s_cons (O1 := []) (s_ex (v_fn (c_check_machine T) hr pass0 wish0 (a_cons (v_nm 0) a_nil))) (s_one (s_ret (v_fn (c_total T) hr pass0 wish0 (a_cons (v_own (o_fn (c_parts_of T) hr pass0 wish0 (a_cons (v_nm 0) a_nil))) a_nil)))))
theorem c_hits (T : Fx w K mg) : Cal P w K mg base CX0 cl0 4 "hits" 1 false f_hits := by
  obtain ⟨a, fd, F, m, b⟩ := T.g_hits.ex
  exact cal_of F m sc_hits b rfl fun _ _ _ _ _ _ hr => b_hits T hr
set_option maxHeartbeats 0 in
theorem b_by_pattern (T : Fx w K mg) {a : Addr} {cdv : Value} {A : Around} {outer : List Env} {s : Shared} {H : Hp} {E : XK} (hr : Room 3 (A.deeper (envOfC "by_pattern" (defScope st_by_pattern) s.heap.objs.size a cdv))) : PSs (cxOf CX0 P w K mg base N_by_pattern "by_pattern" (defScope st_by_pattern) a cdv A outer s H E).nox (defBody st_by_pattern) (sV w K noE [] [] true m_by_pattern) :=
  (s_cons (O1 := []) (s_ex (v_fn (c_check_machine T) hr pass0 wish0 (a_cons (v_nm 0) a_nil))) (s_one (s_retO (o_fn (c_parts_of T) hr pass0 wish0 (a_cons (v_nm 0) a_nil)))))
theorem c_by_pattern (T : Fx w K mg) : Cal P w K mg base CX0 cl0 4 "by_pattern" 1 true f_by_pattern := by
  obtain ⟨a, fd, F, m, b⟩ := T.g_by_pattern.ex
  exact cal_of F m sc_by_pattern b rfl fun _ _ _ _ _ _ hr => b_by_pattern T hr
set_option maxHeartbeats 0 in
theorem b_span_chance (T : Fx w K mg) {a : Addr} {cdv : Value} {A : Around} {outer : List Env} {s : Shared} {H : Hp} {E : XK} (hr : Room 3 (A.deeper (envOfC "span_chance" (defScope st_span_chance) s.heap.objs.size a cdv))) : PSs (cxOf CX0 P w K mg base N_span_chance "span_chance" (defScope st_span_chance) a cdv A outer s H E).nox (defBody st_span_chance) (sV w K noE [] [] false m_span_chance) :=
  (s_one (s_ret (v_fn (c_power T) hr pass0 wish0 (a_cons (v_fn (c_fraction T) hr pass0 wish0 (a_cons v_int (a_cons (v_nm 0) a_nil))) (a_cons (v_cb (c_max2 rfl) T.b_max (a_cons v_int (a_cons (v_op d_sub (v_nm 2) (v_nm 1)) a_nil))) a_nil)))))
theorem c_span_chance (T : Fx w K mg) : Cal P w K mg base CX0 cl0 4 "span_chance" 3 false f_span_chance := by
  obtain ⟨a, fd, F, m, b⟩ := T.g_span_chance.ex
  exact cal_of F m sc_span_chance b rfl fun _ _ _ _ _ _ hr => b_span_chance T hr
set_option maxHeartbeats 0 in
theorem b_by_hold (T : Fx w K mg) {a : Addr} {cdv : Value} {A : Around} {outer : List Env} {s : Shared} {H : Hp} {E : XK} (hr : Room 3 (A.deeper (envOfC "by_hold" (defScope st_by_hold) s.heap.objs.size a cdv))) : PSs (cxOf CX0 P w K mg base N_by_hold "by_hold" (defScope st_by_hold) a cdv A outer s H E).nox (defBody st_by_hold) (sV w K noE [] [] false m_by_hold) :=
  (s_cons (O1 := []) (s_ex (v_fn (c_check_lights T) hr pass0 wish0 (a_cons (v_nm 0) a_nil))) (s_cons (O1 := []) (s_ex (v_fn (c_check_hold T) hr pass0 wish0 (a_cons (v_nm 1) a_nil))) (s_cons (O1 := []) (s_ex (v_fn (c_check_range T) hr pass0 wish0 (a_cons (v_nm 2) (a_cons v_int (a_cons (v_kon T.k_MOST_ROW) a_nil))))) (s_one (s_ret (v_fn (c_power T) hr pass0 wish0 (a_cons (v_fn (c_light_chance T) hr pass0 wish0 (a_cons (v_nm 0) (a_cons (v_nm 1) a_nil))) (a_cons (v_nm 2) a_nil))))))))
theorem c_by_hold (T : Fx w K mg) : Cal P w K mg base CX0 cl0 4 "by_hold" 3 false f_by_hold := by
  obtain ⟨a, fd, F, m, b⟩ := T.g_by_hold.ex
  exact cal_of F m sc_by_hold b rfl fun _ _ _ _ _ _ hr => b_by_hold T hr
set_option maxHeartbeats 0 in
theorem b_share (T : Fx w K mg) {a : Addr} {cdv : Value} {A : Around} {outer : List Env} {s : Shared} {H : Hp} {E : XK} (hr : Room 4 (A.deeper (envOfC "share" (defScope st_share) s.heap.objs.size a cdv))) : PSs (cxOf CX0 P w K mg base N_share "share" (defScope st_share) a cdv A outer s H E).nox (defBody st_share) (sV w K noE [] [] false m_share) :=
  (s_cons (O1 := []) (s_ex (v_fn (c_check_machine T) hr pass0 wish0 (a_cons (v_nm 0) a_nil))) (s_cons (O1 := []) (s_if (w_not (w_ch op_le op_le v_int (v_nm 1) (v_kon T.k_MOST_COINS))) (s_one s_nev) s_nil) (s_one (s_ret (v_fn (c_over T) hr pass0 wish0 (a_cons (v_fn (c_mean_of T) hr pass0 wish0 (a_cons (v_nm 0) (a_cons (v_own o_d0) a_nil))) (a_cons (v_fn (c_fraction T) hr pass0 wish0 (a_cons (v_nm 1) (a_cons v_int a_nil))) a_nil)))))))
theorem c_share (T : Fx w K mg) : Cal P w K mg base CX0 cl0 5 "share" 2 false f_share := by
  obtain ⟨a, fd, F, m, b⟩ := T.g_share.ex
  exact cal_of F m sc_share b rfl fun _ _ _ _ _ _ hr => b_share T hr
set_option maxHeartbeats 0 in
theorem b_mean_held (T : Fx w K mg) {a : Addr} {cdv : Value} {A : Around} {outer : List Env} {s : Shared} {H : Hp} {E : XK} (hr : Room 4 (A.deeper (envOfC "mean_held" (defScope st_mean_held) s.heap.objs.size a cdv))) : PSs (cxOf CX0 P w K mg base N_mean_held "mean_held" (defScope st_mean_held) a cdv A outer s H E).nox (defBody st_mean_held) (sV w K noE [] [] false m_mean_held) :=
  (s_cons (O1 := []) (s_ex (v_fn (c_check_held T) hr pass0 wish0 (a_cons (v_nm 0) (a_cons (v_nm 1) (a_cons (v_nm 2) a_nil))))) (s_one (s_ret (v_fn (c_mean_of T) hr pass0 wish0 (a_cons (v_nm 0) (a_cons (v_own (o_dc [("k", 3)] rfl sc_mean_held.nd (i_lst (v_nm 2)) (blkOk_by (N := N_mean_held) (sc := (defScope st_mean_held)) (by decide +kernel)) (fun _ _ _ _ _ => (g_nm 3 sc_mean_held.nd)) (fun _ _ _ _ _ => t_no) (fun _ _ _ _ _ => (v_nm 3)) (fun _ _ _ _ _ => (v_ix d_ix (v_nm 1) (v_nm 3))))) a_nil))))))
theorem c_mean_held (T : Fx w K mg) : Cal P w K mg base CX0 cl0 5 "mean_held" 3 false f_mean_held := by
  obtain ⟨a, fd, F, m, b⟩ := T.g_mean_held.ex
  exact cal_of F m sc_mean_held b rfl fun _ _ _ _ _ _ hr => b_mean_held T hr
set_option maxHeartbeats 0 in
theorem b_best_held (T : Fx w K mg) {a : Addr} {cdv : Value} {A : Around} {outer : List Env} {s : Shared} {H : Hp} {E : XK} (hr : Room 4 (A.deeper (envOfC "best_held" (defScope st_best_held) s.heap.objs.size a cdv))) : PSs (cxOf CX0 P w K mg base N_best_held "best_held" (defScope st_best_held) a cdv A outer s H E).nox (defBody st_best_held) (sV w K noE [] [] false m_best_held) :=
  (s_cons (O1 := []) (s_ex (v_fn (c_check_stops T) hr pass0 wish0 (a_cons (v_nm 0) (a_cons (v_nm 1) a_nil)))) (s_cons (O1 := []) (s_set (O' := []) 2 sc_best_held.nd v_non) (s_cons (O1 := []) (s_for PassesOwn.never rfl (i_lst (v_own (o_fn (c_sets_of T) hr pass0 wish0 (a_cons (v_cb c_len T.b_len (a_cons (v_nm 1) a_nil)) a_nil)))) (g_nm 3 sc_best_held.nd) (s_cons (O1 := []) (s_set (O' := []) 4 sc_best_held.nd (v_fn (c_mean_of T) hr pass0 wish0 (a_cons (v_nm 0) (a_cons (v_own (o_dc [("k", 5)] rfl sc_best_held.nd (i_lst (v_nm 3)) (blkOk_by (N := N_best_held) (sc := (defScope st_best_held)) (by decide +kernel)) (fun _ _ _ _ _ => (g_nm 5 sc_best_held.nd)) (fun _ _ _ _ _ => t_no) (fun _ _ _ _ _ => (v_nm 5)) (fun _ _ _ _ _ => (v_ix d_ix (v_nm 1) (v_nm 5))))) a_nil)))) (s_one (s_if (w_or (w_cmp d_is (v_nm 2) v_non) (w_or1 (w_val (v_fn (c_is_less T) hr pass0 wish0 (a_cons (v_ix d_ix (v_nm 2) v_int) (a_cons (v_nm 4) a_nil)))))).pt (s_one (s_set (O' := []) 2 sc_best_held.nd (v_tup (a_cons (v_nm 4) (a_cons (v_nm 3) a_nil))))) s_nil)))) (s_one (s_ret (v_nm 2))))))
theorem c_best_held (T : Fx w K mg) : Cal P w K mg base CX0 cl0 5 "best_held" 2 false f_best_held := by
  obtain ⟨a, fd, F, m, b⟩ := T.g_best_held.ex
  exact cal_of F m sc_best_held b rfl fun _ _ _ _ _ _ hr => b_best_held T hr
set_option maxHeartbeats 0 in
theorem b_streak (T : Fx w K mg) {a : Addr} {cdv : Value} {A : Around} {outer : List Env} {s : Shared} {H : Hp} {E : XK} (hr : Room 4 (A.deeper (envOfC "streak" (defScope st_streak) s.heap.objs.size a cdv))) : PSs (cxOf CX0 P w K mg base N_streak "streak" (defScope st_streak) a cdv A outer s H E).nox (defBody st_streak) (sV w K noE [] [] false m_streak) :=
  (s_cons (O1 := []) (s_ex (v_fn (c_check_machine T) hr pass0 wish0 (a_cons (v_nm 0) a_nil))) (s_cons (O1 := []) (s_if (w_not (w_ch op_le op_le v_int (v_nm 1) (v_kon T.k_MOST_SPINS))) (s_one s_nev) s_nil) (s_cons (O1 := []) (s_if (w_not (w_ch op_le op_le v_int (v_nm 2) (v_kon T.k_MOST_LENGTH))) (s_one s_nev) s_nil) (s_cons (O1 := []) (s_set (O' := []) 3 sc_streak.nd (v_fn (c_hits T) hr pass0 wish0 (a_cons (v_nm 0) a_nil))) (s_cons (O1 := []) (s_set (O' := []) 4 sc_streak.nd (v_fn (c_minus T) hr pass0 wish0 (a_cons (v_kon T.k_ONE_held) (a_cons (v_nm 3) a_nil)))) (s_cons (O1 := []) (s_set (O' := []) 5 sc_streak.nd (v_own (o_lst (a_cons (v_kon T.k_ONE_held) (a_star (v_op d_mulE (v_own (o_lst (a_cons (v_kon T.k_NOUGHT_held) a_nil))) (v_op d_sub (v_nm 2) v_int)) a_nil))))) (s_cons (O1 := []) (s_set (O' := []) 6 sc_streak.nd (v_kon T.k_NOUGHT_held)) (s_cons (O1 := []) (s_for PassesOwn.never rfl (i_rg1 T.b_range (a_cons (v_nm 1) a_nil)) (g_nm 7 sc_streak.nd) (s_cons (O1 := []) (s_set (O' := []) 6 sc_streak.nd (v_fn (c_plus T) hr pass0 wish0 (a_cons (v_nm 6) (a_cons (v_fn (c_times T) hr pass0 wish0 (a_cons (v_ix d_ix (v_nm 5) v_negc) (a_cons (v_nm 3) a_nil))) a_nil)))) (s_cons (O1 := []) (s_set (O' := []) 8 sc_streak.nd (v_kon T.k_NOUGHT_held)) (s_cons (O1 := []) (s_for PassesOwn.never rfl (i_lst (v_nm 5)) (g_nm 9 sc_streak.nd) (s_one (s_set (O' := []) 8 sc_streak.nd (v_fn (c_plus T) hr pass0 wish0 (a_cons (v_nm 8) (a_cons (v_nm 9) a_nil)))))) (s_one (s_set (O' := []) 5 sc_streak.nd (v_own (o_lst (a_cons (v_fn (c_times T) hr pass0 wish0 (a_cons (v_nm 8) (a_cons (v_nm 4) a_nil))) (a_star (v_own (o_lc [("one", 9)] rfl sc_streak.nd (i_lst (v_sl d_sl (v_nm 5) p_no (p_so v_negc))) (blkOk_by (N := N_streak) (sc := (defScope st_streak)) (by decide +kernel)) (fun _ _ _ _ _ => (g_nm 9 sc_streak.nd)) (fun _ _ _ _ _ => t_no) (fun _ _ _ _ _ => (v_fn (c_times T) hr pass0 wish0 (a_cons (v_nm 9) (a_cons (v_nm 3) a_nil)))))) a_nil)))))))))) (s_one (s_ret (v_nm 6)))))))))))
theorem c_streak (T : Fx w K mg) : Cal P w K mg base CX0 cl0 5 "streak" 3 false f_streak := by
  obtain ⟨a, fd, F, m, b⟩ := T.g_streak.ex
  exact cal_of F m sc_streak b rfl fun _ _ _ _ _ _ hr => b_streak T hr
set_option maxHeartbeats 0 in
theorem b_mean_spins (T : Fx w K mg) {a : Addr} {cdv : Value} {A : Around} {outer : List Env} {s : Shared} {H : Hp} {E : XK} (hr : Room 4 (A.deeper (envOfC "mean_spins" (defScope st_mean_spins) s.heap.objs.size a cdv))) : PSs (cxOf CX0 P w K mg base N_mean_spins "mean_spins" (defScope st_mean_spins) a cdv A outer s H E).nox (defBody st_mean_spins) (sV w K noE [] [] false m_mean_spins) :=
  (s_cons (O1 := []) (s_set (O' := []) 1 sc_mean_spins.nd (v_fn (c_hits T) hr pass0 wish0 (a_cons (v_nm 0) a_nil))) (s_one (s_ret (v_if (w_cmp (d_ne (hu64 hr)) (v_nm 1) (v_kon T.k_NOUGHT_held)) (v_fn (c_over T) hr pass0 wish0 (a_cons (v_kon T.k_ONE_held) (a_cons (v_nm 1) a_nil))) v_non))))
theorem c_mean_spins (T : Fx w K mg) : Cal P w K mg base CX0 cl0 5 "mean_spins" 1 false f_mean_spins := by
  obtain ⟨a, fd, F, m, b⟩ := T.g_mean_spins.ex
  exact cal_of F m sc_mean_spins b rfl fun _ _ _ _ _ _ hr => b_mean_spins T hr
set_option maxHeartbeats 0 in
theorem b_by_span (T : Fx w K mg) {a : Addr} {cdv : Value} {A : Around} {outer : List Env} {s : Shared} {H : Hp} {E : XK} (hr : Room 4 (A.deeper (envOfC "by_span" (defScope st_by_span) s.heap.objs.size a cdv))) : PSs (cxOf CX0 P w K mg base N_by_span "by_span" (defScope st_by_span) a cdv A outer s H E).nox (defBody st_by_span) (sV w K noE [] [] false m_by_span) :=
  (s_cons (O1 := []) (s_ex (v_fn (c_check_lights T) hr pass0 wish0 (a_cons (v_nm 0) a_nil))) (s_cons (O1 := []) (s_ex (v_fn (c_check_range T) hr pass0 wish0 (a_cons (v_nm 1) (a_cons v_int (a_cons (v_kon T.k_MOST_ROW) a_nil))))) (s_cons (O1 := []) (s_ex (v_fn (c_check_range T) hr pass0 wish0 (a_cons (v_nm 2) (a_cons v_int (a_cons (v_kon T.k_MOST_ROW) a_nil))))) (s_one (s_ret (v_fn (c_span_chance T) hr pass0 wish0 (a_cons (v_nm 0) (a_cons (v_nm 1) (a_cons (v_nm 2) a_nil)))))))))
theorem c_by_span (T : Fx w K mg) : Cal P w K mg base CX0 cl0 5 "by_span" 3 false f_by_span := by
  obtain ⟨a, fd, F, m, b⟩ := T.g_by_span.ex
  exact cal_of F m sc_by_span b rfl fun _ _ _ _ _ _ hr => b_by_span T hr
set_option maxHeartbeats 0 in
theorem b_span_mean (T : Fx w K mg) {a : Addr} {cdv : Value} {A : Around} {outer : List Env} {s : Shared} {H : Hp} {E : XK} (hr : Room 4 (A.deeper (envOfC "span_mean" (defScope st_span_mean) s.heap.objs.size a cdv))) : PSs (cxOf CX0 P w K mg base N_span_mean "span_mean" (defScope st_span_mean) a cdv A outer s H E).nox (defBody st_span_mean) (sV w K noE [] [] false m_span_mean) :=
  (s_one (s_ret (v_fn (c_mean_rounds T) hr pass0 wish0 (a_cons (v_own (o_lc [("length", 3)] rfl sc_span_mean.nd (i_rg2 T.b_range (a_cons v_int (a_cons (v_op d_add (v_nm 2) v_int) a_nil))) (blkOk_by (N := N_span_mean) (sc := (defScope st_span_mean)) (by decide +kernel)) (fun _ _ _ _ _ => (g_nm 3 sc_span_mean.nd)) (fun _ _ _ _ _ => t_no) (fun _ _ _ _ _ => (v_fn (c_span_chance T) hr pass0 wish0 (a_cons (v_nm 0) (a_cons (v_nm 1) (a_cons (v_nm 3) a_nil))))))) a_nil))))
theorem c_span_mean (T : Fx w K mg) : Cal P w K mg base CX0 cl0 5 "span_mean" 3 false f_span_mean := by
  obtain ⟨a, fd, F, m, b⟩ := T.g_span_mean.ex
  exact cal_of F m sc_span_mean b rfl fun _ _ _ _ _ _ hr => b_span_mean T hr
set_option maxHeartbeats 0 in
theorem b_mean_by_span (T : Fx w K mg) {a : Addr} {cdv : Value} {A : Around} {outer : List Env} {s : Shared} {H : Hp} {E : XK} (hr : Room 5 (A.deeper (envOfC "mean_by_span" (defScope st_mean_by_span) s.heap.objs.size a cdv))) : PSs (cxOf CX0 P w K mg base N_mean_by_span "mean_by_span" (defScope st_mean_by_span) a cdv A outer s H E).nox (defBody st_mean_by_span) (sV w K noE [] [] false m_mean_by_span) :=
  (s_cons (O1 := []) (s_ex (v_fn (c_check_lights T) hr pass0 wish0 (a_cons (v_nm 0) a_nil))) (s_cons (O1 := []) (s_ex (v_fn (c_check_range T) hr pass0 wish0 (a_cons (v_nm 1) (a_cons v_int (a_cons (v_kon T.k_MOST_ROW) a_nil))))) (s_cons (O1 := []) (s_ex (v_fn (c_check_range T) hr pass0 wish0 (a_cons (v_nm 2) (a_cons v_int (a_cons (v_kon T.k_MOST_ROUNDS) a_nil))))) (s_one (s_ret (v_fn (c_span_mean T) hr pass0 wish0 (a_cons (v_nm 0) (a_cons (v_nm 1) (a_cons (v_nm 2) a_nil)))))))))
theorem c_mean_by_span (T : Fx w K mg) : Cal P w K mg base CX0 cl0 6 "mean_by_span" 3 false f_mean_by_span := by
  obtain ⟨a, fd, F, m, b⟩ := T.g_mean_by_span.ex
  exact cal_of F m sc_mean_by_span b rfl fun _ _ _ _ _ _ hr => b_mean_by_span T hr
set_option maxHeartbeats 0 in
theorem b_law (T : Fx w K mg) {a : Addr} {cdv : Value} {A : Around} {outer : List Env} {s : Shared} {H : Hp} {E : XK} (hr : Room 6 (A.deeper (envOfC "law" (defScope st_law) s.heap.objs.size a cdv))) : PSs (cxOf CX0 P w K mg base N_law "law" (defScope st_law) a cdv A outer s H E).nox (defBody st_law) (sV w K noE [] [] false m_law) :=
  (s_cons (O1 := []) (s_set (O' := []) 1 sc_law.nd (v_own (o_fn (c__law_draws T) hr pass0 wish0 (a_cons (v_nm 0) a_nil)))) (s_cons (O1 := []) (s_for PassesOwn.never rfl (i_rg1 T.b_range (a_cons v_int a_nil)) (g_nm 2 sc_law.nd) (s_cons (O1 := []) (s_set (O' := []) 3 sc_law.nd (v_op d_add v_int (v_op d_mul v_int (v_nm 2)))) (s_cons (O1 := []) (s_set (O' := []) 4 sc_law.nd (v_op d_add v_int (v_fn (c__law_mix T) hr pass0 wish0 (a_cons (v_nm 1) (a_cons (v_nm 3) (a_cons v_int a_nil)))))) (s_cons (O1 := []) (s_set (O' := []) 5 sc_law.nd (v_sl d_sl (v_stx [65, 66, 67, 68, 69, 70]) p_no (p_so (v_nm 4)))) (s_cons (O1 := []) (s_set (O' := []) 6 sc_law.nd (v_ix d_ix (v_nm 5) (v_fn (c__law_mix T) hr pass0 wish0 (a_cons (v_nm 1) (a_cons (v_op d_add (v_nm 3) v_int) (a_cons (v_nm 4) a_nil)))))) (s_cons (O1 := []) (s_set (O' := []) 7 sc_law.nd (v_tup (a_cons (v_own (o_lst (a_cons (v_nm 5) a_nil))) (a_cons (v_own (o_lst (a_cons (v_tup (a_cons (v_nm 6) (a_cons (v_nm 4) a_nil))) a_nil))) a_nil)))) (s_cons (O1 := []) (s_if (w_or (w_cmp (d_ne (hu64 hr)) (v_fn (c_hits T) hr pass0 wish0 (a_cons (v_nm 7) a_nil)) (v_tup (a_cons v_int (a_cons (v_nm 4) a_nil)))) (w_or (w_cmp (d_ne (hu64 hr)) (v_own (o_fn (c_by_pattern T) hr pass0 wish0 (a_cons (v_nm 7) a_nil))) (v_own (o_lst (a_cons (v_tup (a_cons v_int (a_cons (v_nm 4) a_nil))) a_nil)))) (w_or (w_cmp (d_ne (hu64 hr)) (v_fn (c_mean_spins T) hr pass0 wish0 (a_cons (v_nm 7) a_nil)) (v_tup (a_cons (v_nm 4) (a_cons v_int a_nil)))) (w_or1 (w_cmp (d_ne (hu64 hr)) (v_fn (c_share T) hr pass0 wish0 (a_cons (v_nm 7) (a_cons v_int a_nil))) (v_tup (a_cons v_int (a_cons v_int a_nil)))))))).pt (s_one (s_ret v_bl)) s_nil) (s_cons (O1 := []) (s_set (O' := []) 8 sc_law.nd (v_op d_add v_int (v_fn (c__law_mix T) hr pass0 wish0 (a_cons (v_nm 1) (a_cons (v_op d_add (v_nm 3) v_int) (a_cons v_int a_nil)))))) (s_cons (O1 := []) (s_if (w_or (w_cmp (d_ne (hu64 hr)) (v_fn (c_streak T) hr pass0 wish0 (a_cons (v_nm 7) (a_cons (v_nm 8) (a_cons (v_nm 8) a_nil)))) (v_fn (c_by_span T) hr pass0 wish0 (a_cons (v_nm 4) (a_cons v_int (a_cons (v_nm 8) a_nil))))) (w_or1 (w_cmp (d_ne (hu64 hr)) (v_fn (c_by_hold T) hr pass0 wish0 (a_cons (v_nm 4) (a_cons (v_tup (a_cons v_int (a_cons v_int a_nil))) (a_cons (v_nm 8) a_nil)))) (v_fn (c_by_span T) hr pass0 wish0 (a_cons (v_nm 4) (a_cons v_int (a_cons (v_nm 8) a_nil))))))).pt (s_one (s_ret v_bl)) s_nil) (s_cons (O1 := []) (s_if (w_cmp (d_ne (hu64 hr)) (v_fn (c_by_hold T) hr pass0 wish0 (a_cons (v_nm 4) (a_cons (v_tup (a_cons v_int (a_cons (v_nm 4) a_nil))) (a_cons v_int a_nil)))) (v_fn (c_streak T) hr pass0 wish0 (a_cons (v_nm 7) (a_cons v_int (a_cons v_int a_nil))))) (s_one (s_ret v_bl)) s_nil) (s_cons (O1 := []) (s_set (O' := []) 9 sc_law.nd (v_fn (c__law_mix T) hr pass0 wish0 (a_cons (v_nm 1) (a_cons (v_op d_add (v_nm 3) v_int) (a_cons v_int a_nil))))) (s_cons (O1 := []) (s_tg (v_tup (a_cons (v_tup (a_cons v_int (a_cons v_int a_nil))) (a_cons (v_tup (a_cons v_int (a_cons v_int a_nil))) (a_cons v_int a_nil)))) (g_tup rfl (gs_cons (g_nm 10 sc_law.nd) (gs_cons (g_nm 11 sc_law.nd) (gs_cons (g_nm 12 sc_law.nd) gs_nil))))) (s_cons (O1 := []) (s_for PassesOwn.never rfl (i_rg1 T.b_range (a_cons (v_nm 9) a_nil)) (g_nm 13 sc_law.nd) (s_cons (O1 := []) (s_set (O' := []) 12 sc_law.nd (v_op d_add (v_nm 12) v_int)) (s_cons (O1 := []) (s_set (O' := []) 11 sc_law.nd (v_fn (c__law_times T) hr pass0 wish0 (a_cons (v_nm 11) (a_cons (v_fn (c_streak T) hr pass0 wish0 (a_cons (v_nm 7) (a_cons (v_nm 12) (a_cons (v_nm 12) a_nil)))) a_nil)))) (s_one (s_set (O' := []) 10 sc_law.nd (v_fn (c__law_plus T) hr pass0 wish0 (a_cons (v_nm 10) (a_cons (v_nm 11) a_nil)))))))) (s_cons (O1 := []) (s_if (w_cmp (d_ne (hu64 hr)) (v_fn (c_mean_by_span T) hr pass0 wish0 (a_cons (v_nm 4) (a_cons v_int (a_cons (v_nm 9) a_nil)))) (v_nm 10)) (s_one (s_ret v_bl)) s_nil) (s_one (s_for PassesOwn.never rfl (i_rg1 T.b_range (a_cons (v_nm 4) a_nil)) (g_nm 14 sc_law.nd) (s_cons (O1 := []) (s_set (O' := []) 15 sc_law.nd (v_op d_mul (v_nm 4) (v_ct c_int T.b_int (a_cons (v_cmp (d_eq (hu64 hr)) (v_ix d_ix (v_nm 5) (v_nm 14)) (v_nm 6)) a_nil)))) (s_cons (O1 := []) (s_if (w_or (w_cmp (d_ne (hu64 hr)) (v_fn (c_paid T) hr pass0 wish0 (a_cons (v_nm 7) (a_cons (v_own (o_lst (a_cons (v_nm 14) a_nil))) a_nil))) (v_nm 15)) (w_or (w_cmp (d_ne (hu64 hr)) (v_fn (c_mean_held T) hr pass0 wish0 (a_cons (v_nm 7) (a_cons (v_own (o_lst (a_cons (v_nm 14) a_nil))) (a_cons (v_own (o_lst (a_cons v_int a_nil))) a_nil)))) (v_tup (a_cons (v_nm 15) (a_cons v_int a_nil)))) (w_or1 (w_cmp (d_ne (hu64 hr)) (v_fn (c_mean_held T) hr pass0 wish0 (a_cons (v_nm 7) (a_cons (v_own (o_lst (a_cons (v_nm 14) a_nil))) (a_cons (v_own (o_lst a_nil)) a_nil)))) (v_tup (a_cons v_int (a_cons v_int a_nil))))))).pt (s_one (s_ret v_bl)) s_nil) (s_one (s_if (w_cmp (d_ne (hu64 hr)) (v_fn (c_best_held T) hr pass0 wish0 (a_cons (v_nm 7) (a_cons (v_own (o_lst (a_cons (v_nm 14) a_nil))) a_nil))) (v_ix d_ix (v_own (o_lst (a_cons (v_tup (a_cons (v_tup (a_cons v_int (a_cons v_int a_nil))) (a_cons (v_own (o_lst a_nil)) a_nil))) (a_cons (v_tup (a_cons (v_tup (a_cons (v_nm 4) (a_cons v_int a_nil))) (a_cons (v_own (o_lst (a_cons v_int a_nil))) a_nil))) a_nil)))) (v_ct c_int T.b_int (a_cons (v_cmp d_gt (v_nm 15) v_int) a_nil)))) (s_one (s_ret v_bl)) s_nil)))))))))))))))))))) (s_one (s_ret v_bl))))
theorem c_law (T : Fx w K mg) : Cal P w K mg base CX0 cl0 7 "law" 1 false f_law := by
  obtain ⟨a, fd, F, m, b⟩ := T.g_law.ex
  exact cal_of F m sc_law b rfl fun _ _ _ _ _ _ hr => b_law T hr
theorem o_law (T : Fx w K mg) {a : Addr} {fd : FuncData} (F : Fun K "law" "law" st_law a fd) : FnOk P w K mg base CX0 7 a fd ["script"] (spD w K cl0 1 false f_law) :=
  fnok_of F sc_law rfl fun _ _ _ _ _ _ hr => b_law T hr
end
end Gk92

set_option Elab.async false
set_option linter.all false
set_option maxRecDepth 100000
namespace Gk92
open PySem PySem.Spec PyProof.Rows L2 Vs Vt
open En (en)
abbrev Mc := (List Tx) × (List (Tx × Int))
def aA (lights__4 : Int) (machine__8 : Mc) : R Bool := p_hits machine__8 >>= fun r_10 => (if (!decide (r_10 = ((1 : Int), lights__4))) then .ok true else p_by_pattern machine__8 >>= fun r_12 => (if (!decide (r_12 = ([((1 : Int), lights__4)] : (List (Int × Int))))) then .ok true else p_mean_spins machine__8 >>= fun r_14 => (if (!decide (r_14 = (some (lights__4, (1 : Int))))) then .ok true else p_share machine__8 (1 : Int) >>= fun r_16 => .ok (!decide (r_16 = ((1 : Int), (1 : Int))))) >>= fun b_17 => .ok b_17) >>= fun b_18 => .ok b_18)
def aB (lights__4 : Int) (machine__8 : Mc) (r_21 : Int) : R Bool := .ok (((1 : Int) + r_21) : Int) >>= fun spins__22 => p_streak machine__8 spins__22 spins__22 >>= fun r_25 => p_by_span lights__4 (0 : Int) spins__22 >>= fun r_26 => (if (!decide (r_25 = r_26)) then .ok true else p_by_hold lights__4 ((0 : Int), (1 : Int)) spins__22 >>= fun r_29 => p_by_span lights__4 (0 : Int) spins__22 >>= fun r_30 => .ok (!decide (r_29 = r_30)))
def aC (lights__4 : Int) (machine__8 : Mc) : R Bool := p_by_hold lights__4 ((1 : Int), lights__4) (1 : Int) >>= fun r_35 => p_streak machine__8 (2 : Int) (1 : Int) >>= fun r_36 => .ok (!decide (r_35 = r_36))
def aD (lights__4 : Int) (machine__8 : Mc) (r_38 : Int) : R Bool := .ok ((T3.mk ((0 : Int), (1 : Int)) ((1 : Int), (1 : Int)) (0 : Int)) : (T3 (Int × Int) (Int × Int) Int)) >>= fun u_39 => rgR1 r_38 >>= fun l_40 => forS (fun (x : Int) (s : (Int × (Int × Int) × (Int × Int))) => p_law_b1 machine__8 s.1 s.2.1 s.2.2 x) l_40 (u_39.c, u_39.b, u_39.a) >>= fun s_45 => p_mean_by_span lights__4 (0 : Int) r_38 >>= fun r_48 => .ok (!decide (r_48 = s_45.2.2))
def aE (lights__4 : Int) (machine__8 : Mc) (t_5 v_7 : Tx) : R (Unit ⊕ Bool) := rgR1 lights__4 >>= fun l_50 => onR (forR (fun (x : Int) (s : Unit) => p_law_b2 lights__4 t_5 v_7 machine__8 x) l_50 ()) (fun s_68 => .ok (.inl ())) (fun b_70 => .ok (Sum.inr b_70))
def mch (l : Int) (t v : Tx) : Mc := ([t], [(v, l)])
abbrev abc : Tx := [65, 66, 67, 68, 69, 70]
theorem split (zs : List Int) (t : Int) : p_law_b0 zs t = (p__law_mix zs (10 + 10 * t) 5 >>= fun r3 => cutG abc none (some (2 + r3)) >>= fun t5 => p__law_mix zs (10 + 10 * t + 1) (2 + r3) >>= fun r6 => atS t5 r6 >>= fun v7 =>
    aA (2 + r3) (mch (2 + r3) t5 v7) >>= fun b => if b then .ok (.inr false) else p__law_mix zs (10 + 10 * t + 2) 10 >>= fun r21 => aB (2 + r3) (mch (2 + r3) t5 v7) r21 >>= fun b => if b then .ok (.inr false) else
    aC (2 + r3) (mch (2 + r3) t5 v7) >>= fun b => if b then .ok (.inr false) else p__law_mix zs (10 + 10 * t + 3) 7 >>= fun r38 => aD (2 + r3) (mch (2 + r3) t5 v7) r38 >>= fun b => if b then .ok (.inr false) else aE (2 + r3) (mch (2 + r3) t5 v7) t5 v7) := by
  unfold p_law_b0 aA aB aC aD aE mch
  simp only [bind_assoc, okb]
def isInl (r : R (Unit ⊕ Bool)) : Bool := match r with | .ok (.inl _) => true | _ => false
def isF (r : R Bool) : Bool := match r with | .ok b => !b | _ => false
theorem isInl_is {r : R (Unit ⊕ Bool)} (h : isInl r = true) : r = .ok (.inl ()) := by
  unfold isInl at h
  split at h
  · rfl
  · cases h
theorem isF_is {r : R Bool} (h : isF r = true) : r = .ok false := by
  unfold isF at h
  split at h
  · rename_i b; cases b
    · rfl
    · cases h
  · cases h
def withM (a c : Int) (f : Mc → Tx → Tx → Bool) : Bool := match cutG abc none (some (2 + a)) with
  | .ok t5 => match atS t5 c with
    | .ok v7 => f (mch (2 + a) t5 v7) t5 v7
    | _ => false
  | _ => false
def kA (a c : Int) : Bool := withM a c fun m t v => isF (aA (2 + a) m) && (isF (aC (2 + a) m) && isInl (aE (2 + a) m t v))
def kB (a c n : Int) : Bool := withM a c fun m t v => isF (aB (2 + a) m n)
def kD (a c n : Int) : Bool := withM a c fun m t v => isF (aD (2 + a) m n)
theorem A_00 : kA 0 0 = true := by decide +kernel
theorem B_00_0 : kB 0 0 0 = true := by decide +kernel
theorem B_00_1 : kB 0 0 1 = true := by decide +kernel
theorem B_00_2 : kB 0 0 2 = true := by decide +kernel
theorem B_00_3 : kB 0 0 3 = true := by decide +kernel
theorem B_00_4 : kB 0 0 4 = true := by decide +kernel
theorem B_00_5 : kB 0 0 5 = true := by decide +kernel
theorem B_00_6 : kB 0 0 6 = true := by decide +kernel
theorem B_00_7 : kB 0 0 7 = true := by decide +kernel
theorem B_00_8 : kB 0 0 8 = true := by decide +kernel
theorem B_00_9 : kB 0 0 9 = true := by decide +kernel
theorem D_00_0 : kD 0 0 0 = true := by decide +kernel
theorem D_00_1 : kD 0 0 1 = true := by decide +kernel
theorem D_00_2 : kD 0 0 2 = true := by decide +kernel
theorem D_00_3 : kD 0 0 3 = true := by decide +kernel
theorem D_00_4 : kD 0 0 4 = true := by decide +kernel
theorem D_00_5 : kD 0 0 5 = true := by decide +kernel
theorem D_00_6 : kD 0 0 6 = true := by decide +kernel
theorem A_01 : kA 0 1 = true := by decide +kernel
theorem B_01_0 : kB 0 1 0 = true := by decide +kernel
theorem B_01_1 : kB 0 1 1 = true := by decide +kernel
theorem B_01_2 : kB 0 1 2 = true := by decide +kernel
theorem B_01_3 : kB 0 1 3 = true := by decide +kernel
theorem B_01_4 : kB 0 1 4 = true := by decide +kernel
theorem B_01_5 : kB 0 1 5 = true := by decide +kernel
theorem B_01_6 : kB 0 1 6 = true := by decide +kernel
theorem B_01_7 : kB 0 1 7 = true := by decide +kernel
theorem B_01_8 : kB 0 1 8 = true := by decide +kernel
theorem B_01_9 : kB 0 1 9 = true := by decide +kernel
theorem D_01_0 : kD 0 1 0 = true := by decide +kernel
theorem D_01_1 : kD 0 1 1 = true := by decide +kernel
theorem D_01_2 : kD 0 1 2 = true := by decide +kernel
theorem D_01_3 : kD 0 1 3 = true := by decide +kernel
theorem D_01_4 : kD 0 1 4 = true := by decide +kernel
theorem D_01_5 : kD 0 1 5 = true := by decide +kernel
theorem D_01_6 : kD 0 1 6 = true := by decide +kernel
theorem A_10 : kA 1 0 = true := by decide +kernel
theorem B_10_0 : kB 1 0 0 = true := by decide +kernel
theorem B_10_1 : kB 1 0 1 = true := by decide +kernel
theorem B_10_2 : kB 1 0 2 = true := by decide +kernel
theorem B_10_3 : kB 1 0 3 = true := by decide +kernel
theorem B_10_4 : kB 1 0 4 = true := by decide +kernel
theorem B_10_5 : kB 1 0 5 = true := by decide +kernel
theorem B_10_6 : kB 1 0 6 = true := by decide +kernel
theorem B_10_7 : kB 1 0 7 = true := by decide +kernel
theorem B_10_8 : kB 1 0 8 = true := by decide +kernel
theorem B_10_9 : kB 1 0 9 = true := by decide +kernel
theorem D_10_0 : kD 1 0 0 = true := by decide +kernel
theorem D_10_1 : kD 1 0 1 = true := by decide +kernel
theorem D_10_2 : kD 1 0 2 = true := by decide +kernel
theorem D_10_3 : kD 1 0 3 = true := by decide +kernel
theorem D_10_4 : kD 1 0 4 = true := by decide +kernel
theorem D_10_5 : kD 1 0 5 = true := by decide +kernel
theorem D_10_6 : kD 1 0 6 = true := by decide +kernel
theorem A_11 : kA 1 1 = true := by decide +kernel
theorem B_11_0 : kB 1 1 0 = true := by decide +kernel
theorem B_11_1 : kB 1 1 1 = true := by decide +kernel
theorem B_11_2 : kB 1 1 2 = true := by decide +kernel
theorem B_11_3 : kB 1 1 3 = true := by decide +kernel
theorem B_11_4 : kB 1 1 4 = true := by decide +kernel
theorem B_11_5 : kB 1 1 5 = true := by decide +kernel
theorem B_11_6 : kB 1 1 6 = true := by decide +kernel
theorem B_11_7 : kB 1 1 7 = true := by decide +kernel
theorem B_11_8 : kB 1 1 8 = true := by decide +kernel
theorem B_11_9 : kB 1 1 9 = true := by decide +kernel
theorem D_11_0 : kD 1 1 0 = true := by decide +kernel
theorem D_11_1 : kD 1 1 1 = true := by decide +kernel
theorem D_11_2 : kD 1 1 2 = true := by decide +kernel
theorem D_11_3 : kD 1 1 3 = true := by decide +kernel
theorem D_11_4 : kD 1 1 4 = true := by decide +kernel
theorem D_11_5 : kD 1 1 5 = true := by decide +kernel
theorem D_11_6 : kD 1 1 6 = true := by decide +kernel
theorem A_12 : kA 1 2 = true := by decide +kernel
theorem B_12_0 : kB 1 2 0 = true := by decide +kernel
theorem B_12_1 : kB 1 2 1 = true := by decide +kernel
theorem B_12_2 : kB 1 2 2 = true := by decide +kernel
theorem B_12_3 : kB 1 2 3 = true := by decide +kernel
theorem B_12_4 : kB 1 2 4 = true := by decide +kernel
theorem B_12_5 : kB 1 2 5 = true := by decide +kernel
theorem B_12_6 : kB 1 2 6 = true := by decide +kernel
theorem B_12_7 : kB 1 2 7 = true := by decide +kernel
theorem B_12_8 : kB 1 2 8 = true := by decide +kernel
theorem B_12_9 : kB 1 2 9 = true := by decide +kernel
theorem D_12_0 : kD 1 2 0 = true := by decide +kernel
theorem D_12_1 : kD 1 2 1 = true := by decide +kernel
theorem D_12_2 : kD 1 2 2 = true := by decide +kernel
theorem D_12_3 : kD 1 2 3 = true := by decide +kernel
theorem D_12_4 : kD 1 2 4 = true := by decide +kernel
theorem D_12_5 : kD 1 2 5 = true := by decide +kernel
theorem D_12_6 : kD 1 2 6 = true := by decide +kernel
theorem A_20 : kA 2 0 = true := by decide +kernel
theorem B_20_0 : kB 2 0 0 = true := by decide +kernel
theorem B_20_1 : kB 2 0 1 = true := by decide +kernel
theorem B_20_2 : kB 2 0 2 = true := by decide +kernel
theorem B_20_3 : kB 2 0 3 = true := by decide +kernel
theorem B_20_4 : kB 2 0 4 = true := by decide +kernel
theorem B_20_5 : kB 2 0 5 = true := by decide +kernel
theorem B_20_6 : kB 2 0 6 = true := by decide +kernel
theorem B_20_7 : kB 2 0 7 = true := by decide +kernel
theorem B_20_8 : kB 2 0 8 = true := by decide +kernel
theorem B_20_9 : kB 2 0 9 = true := by decide +kernel
theorem D_20_0 : kD 2 0 0 = true := by decide +kernel
theorem D_20_1 : kD 2 0 1 = true := by decide +kernel
theorem D_20_2 : kD 2 0 2 = true := by decide +kernel
theorem D_20_3 : kD 2 0 3 = true := by decide +kernel
theorem D_20_4 : kD 2 0 4 = true := by decide +kernel
theorem D_20_5 : kD 2 0 5 = true := by decide +kernel
theorem D_20_6 : kD 2 0 6 = true := by decide +kernel
theorem A_21 : kA 2 1 = true := by decide +kernel
theorem B_21_0 : kB 2 1 0 = true := by decide +kernel
theorem B_21_1 : kB 2 1 1 = true := by decide +kernel
theorem B_21_2 : kB 2 1 2 = true := by decide +kernel
theorem B_21_3 : kB 2 1 3 = true := by decide +kernel
theorem B_21_4 : kB 2 1 4 = true := by decide +kernel
theorem B_21_5 : kB 2 1 5 = true := by decide +kernel
theorem B_21_6 : kB 2 1 6 = true := by decide +kernel
theorem B_21_7 : kB 2 1 7 = true := by decide +kernel
theorem B_21_8 : kB 2 1 8 = true := by decide +kernel
theorem B_21_9 : kB 2 1 9 = true := by decide +kernel
theorem D_21_0 : kD 2 1 0 = true := by decide +kernel
theorem D_21_1 : kD 2 1 1 = true := by decide +kernel
theorem D_21_2 : kD 2 1 2 = true := by decide +kernel
theorem D_21_3 : kD 2 1 3 = true := by decide +kernel
theorem D_21_4 : kD 2 1 4 = true := by decide +kernel
theorem D_21_5 : kD 2 1 5 = true := by decide +kernel
theorem D_21_6 : kD 2 1 6 = true := by decide +kernel
theorem A_22 : kA 2 2 = true := by decide +kernel
theorem B_22_0 : kB 2 2 0 = true := by decide +kernel
theorem B_22_1 : kB 2 2 1 = true := by decide +kernel
theorem B_22_2 : kB 2 2 2 = true := by decide +kernel
theorem B_22_3 : kB 2 2 3 = true := by decide +kernel
theorem B_22_4 : kB 2 2 4 = true := by decide +kernel
theorem B_22_5 : kB 2 2 5 = true := by decide +kernel
theorem B_22_6 : kB 2 2 6 = true := by decide +kernel
theorem B_22_7 : kB 2 2 7 = true := by decide +kernel
theorem B_22_8 : kB 2 2 8 = true := by decide +kernel
theorem B_22_9 : kB 2 2 9 = true := by decide +kernel
theorem D_22_0 : kD 2 2 0 = true := by decide +kernel
theorem D_22_1 : kD 2 2 1 = true := by decide +kernel
theorem D_22_2 : kD 2 2 2 = true := by decide +kernel
theorem D_22_3 : kD 2 2 3 = true := by decide +kernel
theorem D_22_4 : kD 2 2 4 = true := by decide +kernel
theorem D_22_5 : kD 2 2 5 = true := by decide +kernel
theorem D_22_6 : kD 2 2 6 = true := by decide +kernel
theorem A_23 : kA 2 3 = true := by decide +kernel
theorem B_23_0 : kB 2 3 0 = true := by decide +kernel
theorem B_23_1 : kB 2 3 1 = true := by decide +kernel
theorem B_23_2 : kB 2 3 2 = true := by decide +kernel
theorem B_23_3 : kB 2 3 3 = true := by decide +kernel
theorem B_23_4 : kB 2 3 4 = true := by decide +kernel
theorem B_23_5 : kB 2 3 5 = true := by decide +kernel
theorem B_23_6 : kB 2 3 6 = true := by decide +kernel
theorem B_23_7 : kB 2 3 7 = true := by decide +kernel
theorem B_23_8 : kB 2 3 8 = true := by decide +kernel
theorem B_23_9 : kB 2 3 9 = true := by decide +kernel
theorem D_23_0 : kD 2 3 0 = true := by decide +kernel
theorem D_23_1 : kD 2 3 1 = true := by decide +kernel
theorem D_23_2 : kD 2 3 2 = true := by decide +kernel
theorem D_23_3 : kD 2 3 3 = true := by decide +kernel
theorem D_23_4 : kD 2 3 4 = true := by decide +kernel
theorem D_23_5 : kD 2 3 5 = true := by decide +kernel
theorem D_23_6 : kD 2 3 6 = true := by decide +kernel
theorem A_30 : kA 3 0 = true := by decide +kernel
theorem B_30_0 : kB 3 0 0 = true := by decide +kernel
theorem B_30_1 : kB 3 0 1 = true := by decide +kernel
theorem B_30_2 : kB 3 0 2 = true := by decide +kernel
theorem B_30_3 : kB 3 0 3 = true := by decide +kernel
theorem B_30_4 : kB 3 0 4 = true := by decide +kernel
theorem B_30_5 : kB 3 0 5 = true := by decide +kernel
theorem B_30_6 : kB 3 0 6 = true := by decide +kernel
theorem B_30_7 : kB 3 0 7 = true := by decide +kernel
theorem B_30_8 : kB 3 0 8 = true := by decide +kernel
theorem B_30_9 : kB 3 0 9 = true := by decide +kernel
theorem D_30_0 : kD 3 0 0 = true := by decide +kernel
theorem D_30_1 : kD 3 0 1 = true := by decide +kernel
theorem D_30_2 : kD 3 0 2 = true := by decide +kernel
theorem D_30_3 : kD 3 0 3 = true := by decide +kernel
theorem D_30_4 : kD 3 0 4 = true := by decide +kernel
theorem D_30_5 : kD 3 0 5 = true := by decide +kernel
theorem D_30_6 : kD 3 0 6 = true := by decide +kernel
theorem A_31 : kA 3 1 = true := by decide +kernel
theorem B_31_0 : kB 3 1 0 = true := by decide +kernel
theorem B_31_1 : kB 3 1 1 = true := by decide +kernel
theorem B_31_2 : kB 3 1 2 = true := by decide +kernel
theorem B_31_3 : kB 3 1 3 = true := by decide +kernel
theorem B_31_4 : kB 3 1 4 = true := by decide +kernel
theorem B_31_5 : kB 3 1 5 = true := by decide +kernel
theorem B_31_6 : kB 3 1 6 = true := by decide +kernel
theorem B_31_7 : kB 3 1 7 = true := by decide +kernel
theorem B_31_8 : kB 3 1 8 = true := by decide +kernel
theorem B_31_9 : kB 3 1 9 = true := by decide +kernel
theorem D_31_0 : kD 3 1 0 = true := by decide +kernel
theorem D_31_1 : kD 3 1 1 = true := by decide +kernel
theorem D_31_2 : kD 3 1 2 = true := by decide +kernel
theorem D_31_3 : kD 3 1 3 = true := by decide +kernel
theorem D_31_4 : kD 3 1 4 = true := by decide +kernel
theorem D_31_5 : kD 3 1 5 = true := by decide +kernel
theorem D_31_6 : kD 3 1 6 = true := by decide +kernel
theorem A_32 : kA 3 2 = true := by decide +kernel
theorem B_32_0 : kB 3 2 0 = true := by decide +kernel
theorem B_32_1 : kB 3 2 1 = true := by decide +kernel
theorem B_32_2 : kB 3 2 2 = true := by decide +kernel
theorem B_32_3 : kB 3 2 3 = true := by decide +kernel
theorem B_32_4 : kB 3 2 4 = true := by decide +kernel
theorem B_32_5 : kB 3 2 5 = true := by decide +kernel
theorem B_32_6 : kB 3 2 6 = true := by decide +kernel
theorem B_32_7 : kB 3 2 7 = true := by decide +kernel
theorem B_32_8 : kB 3 2 8 = true := by decide +kernel
theorem B_32_9 : kB 3 2 9 = true := by decide +kernel
theorem D_32_0 : kD 3 2 0 = true := by decide +kernel
theorem D_32_1 : kD 3 2 1 = true := by decide +kernel
theorem D_32_2 : kD 3 2 2 = true := by decide +kernel
theorem D_32_3 : kD 3 2 3 = true := by decide +kernel
theorem D_32_4 : kD 3 2 4 = true := by decide +kernel
theorem D_32_5 : kD 3 2 5 = true := by decide +kernel
theorem D_32_6 : kD 3 2 6 = true := by decide +kernel
theorem A_33 : kA 3 3 = true := by decide +kernel
theorem B_33_0 : kB 3 3 0 = true := by decide +kernel
theorem B_33_1 : kB 3 3 1 = true := by decide +kernel
theorem B_33_2 : kB 3 3 2 = true := by decide +kernel
theorem B_33_3 : kB 3 3 3 = true := by decide +kernel
theorem B_33_4 : kB 3 3 4 = true := by decide +kernel
theorem B_33_5 : kB 3 3 5 = true := by decide +kernel
theorem B_33_6 : kB 3 3 6 = true := by decide +kernel
theorem B_33_7 : kB 3 3 7 = true := by decide +kernel
theorem B_33_8 : kB 3 3 8 = true := by decide +kernel
theorem B_33_9 : kB 3 3 9 = true := by decide +kernel
theorem D_33_0 : kD 3 3 0 = true := by decide +kernel
theorem D_33_1 : kD 3 3 1 = true := by decide +kernel
theorem D_33_2 : kD 3 3 2 = true := by decide +kernel
theorem D_33_3 : kD 3 3 3 = true := by decide +kernel
theorem D_33_4 : kD 3 3 4 = true := by decide +kernel
theorem D_33_5 : kD 3 3 5 = true := by decide +kernel
theorem D_33_6 : kD 3 3 6 = true := by decide +kernel
theorem A_34 : kA 3 4 = true := by decide +kernel
theorem B_34_0 : kB 3 4 0 = true := by decide +kernel
theorem B_34_1 : kB 3 4 1 = true := by decide +kernel
theorem B_34_2 : kB 3 4 2 = true := by decide +kernel
theorem B_34_3 : kB 3 4 3 = true := by decide +kernel
theorem B_34_4 : kB 3 4 4 = true := by decide +kernel
theorem B_34_5 : kB 3 4 5 = true := by decide +kernel
theorem B_34_6 : kB 3 4 6 = true := by decide +kernel
theorem B_34_7 : kB 3 4 7 = true := by decide +kernel
theorem B_34_8 : kB 3 4 8 = true := by decide +kernel
theorem B_34_9 : kB 3 4 9 = true := by decide +kernel
theorem D_34_0 : kD 3 4 0 = true := by decide +kernel
theorem D_34_1 : kD 3 4 1 = true := by decide +kernel
theorem D_34_2 : kD 3 4 2 = true := by decide +kernel
theorem D_34_3 : kD 3 4 3 = true := by decide +kernel
theorem D_34_4 : kD 3 4 4 = true := by decide +kernel
theorem D_34_5 : kD 3 4 5 = true := by decide +kernel
theorem D_34_6 : kD 3 4 6 = true := by decide +kernel
theorem A_40 : kA 4 0 = true := by decide +kernel
theorem B_40_0 : kB 4 0 0 = true := by decide +kernel
theorem B_40_1 : kB 4 0 1 = true := by decide +kernel
theorem B_40_2 : kB 4 0 2 = true := by decide +kernel
theorem B_40_3 : kB 4 0 3 = true := by decide +kernel
theorem B_40_4 : kB 4 0 4 = true := by decide +kernel
theorem B_40_5 : kB 4 0 5 = true := by decide +kernel
theorem B_40_6 : kB 4 0 6 = true := by decide +kernel
theorem B_40_7 : kB 4 0 7 = true := by decide +kernel
theorem B_40_8 : kB 4 0 8 = true := by decide +kernel
theorem B_40_9 : kB 4 0 9 = true := by decide +kernel
theorem D_40_0 : kD 4 0 0 = true := by decide +kernel
theorem D_40_1 : kD 4 0 1 = true := by decide +kernel
theorem D_40_2 : kD 4 0 2 = true := by decide +kernel
theorem D_40_3 : kD 4 0 3 = true := by decide +kernel
theorem D_40_4 : kD 4 0 4 = true := by decide +kernel
theorem D_40_5 : kD 4 0 5 = true := by decide +kernel
theorem D_40_6 : kD 4 0 6 = true := by decide +kernel
theorem A_41 : kA 4 1 = true := by decide +kernel
theorem B_41_0 : kB 4 1 0 = true := by decide +kernel
theorem B_41_1 : kB 4 1 1 = true := by decide +kernel
theorem B_41_2 : kB 4 1 2 = true := by decide +kernel
theorem B_41_3 : kB 4 1 3 = true := by decide +kernel
theorem B_41_4 : kB 4 1 4 = true := by decide +kernel
theorem B_41_5 : kB 4 1 5 = true := by decide +kernel
theorem B_41_6 : kB 4 1 6 = true := by decide +kernel
theorem B_41_7 : kB 4 1 7 = true := by decide +kernel
theorem B_41_8 : kB 4 1 8 = true := by decide +kernel
theorem B_41_9 : kB 4 1 9 = true := by decide +kernel
theorem D_41_0 : kD 4 1 0 = true := by decide +kernel
theorem D_41_1 : kD 4 1 1 = true := by decide +kernel
theorem D_41_2 : kD 4 1 2 = true := by decide +kernel
theorem D_41_3 : kD 4 1 3 = true := by decide +kernel
theorem D_41_4 : kD 4 1 4 = true := by decide +kernel
theorem D_41_5 : kD 4 1 5 = true := by decide +kernel
theorem D_41_6 : kD 4 1 6 = true := by decide +kernel
theorem A_42 : kA 4 2 = true := by decide +kernel
theorem B_42_0 : kB 4 2 0 = true := by decide +kernel
theorem B_42_1 : kB 4 2 1 = true := by decide +kernel
theorem B_42_2 : kB 4 2 2 = true := by decide +kernel
theorem B_42_3 : kB 4 2 3 = true := by decide +kernel
theorem B_42_4 : kB 4 2 4 = true := by decide +kernel
theorem B_42_5 : kB 4 2 5 = true := by decide +kernel
theorem B_42_6 : kB 4 2 6 = true := by decide +kernel
theorem B_42_7 : kB 4 2 7 = true := by decide +kernel
theorem B_42_8 : kB 4 2 8 = true := by decide +kernel
theorem B_42_9 : kB 4 2 9 = true := by decide +kernel
theorem D_42_0 : kD 4 2 0 = true := by decide +kernel
theorem D_42_1 : kD 4 2 1 = true := by decide +kernel
theorem D_42_2 : kD 4 2 2 = true := by decide +kernel
theorem D_42_3 : kD 4 2 3 = true := by decide +kernel
theorem D_42_4 : kD 4 2 4 = true := by decide +kernel
theorem D_42_5 : kD 4 2 5 = true := by decide +kernel
theorem D_42_6 : kD 4 2 6 = true := by decide +kernel
theorem A_43 : kA 4 3 = true := by decide +kernel
theorem B_43_0 : kB 4 3 0 = true := by decide +kernel
theorem B_43_1 : kB 4 3 1 = true := by decide +kernel
theorem B_43_2 : kB 4 3 2 = true := by decide +kernel
theorem B_43_3 : kB 4 3 3 = true := by decide +kernel
theorem B_43_4 : kB 4 3 4 = true := by decide +kernel
theorem B_43_5 : kB 4 3 5 = true := by decide +kernel
theorem B_43_6 : kB 4 3 6 = true := by decide +kernel
theorem B_43_7 : kB 4 3 7 = true := by decide +kernel
theorem B_43_8 : kB 4 3 8 = true := by decide +kernel
theorem B_43_9 : kB 4 3 9 = true := by decide +kernel
theorem D_43_0 : kD 4 3 0 = true := by decide +kernel
theorem D_43_1 : kD 4 3 1 = true := by decide +kernel
theorem D_43_2 : kD 4 3 2 = true := by decide +kernel
theorem D_43_3 : kD 4 3 3 = true := by decide +kernel
theorem D_43_4 : kD 4 3 4 = true := by decide +kernel
theorem D_43_5 : kD 4 3 5 = true := by decide +kernel
theorem D_43_6 : kD 4 3 6 = true := by decide +kernel
theorem A_44 : kA 4 4 = true := by decide +kernel
theorem B_44_0 : kB 4 4 0 = true := by decide +kernel
theorem B_44_1 : kB 4 4 1 = true := by decide +kernel
theorem B_44_2 : kB 4 4 2 = true := by decide +kernel
theorem B_44_3 : kB 4 4 3 = true := by decide +kernel
theorem B_44_4 : kB 4 4 4 = true := by decide +kernel
theorem B_44_5 : kB 4 4 5 = true := by decide +kernel
theorem B_44_6 : kB 4 4 6 = true := by decide +kernel
theorem B_44_7 : kB 4 4 7 = true := by decide +kernel
theorem B_44_8 : kB 4 4 8 = true := by decide +kernel
theorem B_44_9 : kB 4 4 9 = true := by decide +kernel
theorem D_44_0 : kD 4 4 0 = true := by decide +kernel
theorem D_44_1 : kD 4 4 1 = true := by decide +kernel
theorem D_44_2 : kD 4 4 2 = true := by decide +kernel
theorem D_44_3 : kD 4 4 3 = true := by decide +kernel
theorem D_44_4 : kD 4 4 4 = true := by decide +kernel
theorem D_44_5 : kD 4 4 5 = true := by decide +kernel
theorem D_44_6 : kD 4 4 6 = true := by decide +kernel
theorem A_45 : kA 4 5 = true := by decide +kernel
theorem B_45_0 : kB 4 5 0 = true := by decide +kernel
theorem B_45_1 : kB 4 5 1 = true := by decide +kernel
theorem B_45_2 : kB 4 5 2 = true := by decide +kernel
theorem B_45_3 : kB 4 5 3 = true := by decide +kernel
theorem B_45_4 : kB 4 5 4 = true := by decide +kernel
theorem B_45_5 : kB 4 5 5 = true := by decide +kernel
theorem B_45_6 : kB 4 5 6 = true := by decide +kernel
theorem B_45_7 : kB 4 5 7 = true := by decide +kernel
theorem B_45_8 : kB 4 5 8 = true := by decide +kernel
theorem B_45_9 : kB 4 5 9 = true := by decide +kernel
theorem D_45_0 : kD 4 5 0 = true := by decide +kernel
theorem D_45_1 : kD 4 5 1 = true := by decide +kernel
theorem D_45_2 : kD 4 5 2 = true := by decide +kernel
theorem D_45_3 : kD 4 5 3 = true := by decide +kernel
theorem D_45_4 : kD 4 5 4 = true := by decide +kernel
theorem D_45_5 : kD 4 5 5 = true := by decide +kernel
theorem D_45_6 : kD 4 5 6 = true := by decide +kernel
end Gk92

set_option Elab.async false
set_option linter.all false
set_option maxRecDepth 100000
namespace Gk92
open PySem PySem.Spec PyProof.Rows L2 Vs Vt
open En (en)
theorem mix_is : p__law_mix = pm_mix := rfl
def kAll (a c : Int) : Prop := kA a c = true ∧ (∀ n : Int, 0 ≤ n → n < 10 → kB a c n = true) ∧ ∀ n : Int, 0 ≤ n → n < 7 → kD a c n = true
theorem ten {n : Int} (h0 : 0 ≤ n) (h1 : n < 10) : n = 0 ∨ n = 1 ∨ n = 2 ∨ n = 3 ∨ n = 4 ∨ n = 5 ∨ n = 6 ∨ n = 7 ∨ n = 8 ∨ n = 9 := by omega
theorem seven {n : Int} (h0 : 0 ≤ n) (h1 : n < 7) : n = 0 ∨ n = 1 ∨ n = 2 ∨ n = 3 ∨ n = 4 ∨ n = 5 ∨ n = 6 := by omega
theorem K_00 : kAll 0 0 := ⟨A_00, fun n h0 h1 => by
  rcases ten h0 h1 with rfl | rfl | rfl | rfl | rfl | rfl | rfl | rfl | rfl | rfl
  · exact B_00_0
  · exact B_00_1
  · exact B_00_2
  · exact B_00_3
  · exact B_00_4
  · exact B_00_5
  · exact B_00_6
  · exact B_00_7
  · exact B_00_8
  · exact B_00_9
  , fun n h0 h1 => by
  rcases seven h0 h1 with rfl | rfl | rfl | rfl | rfl | rfl | rfl
  · exact D_00_0
  · exact D_00_1
  · exact D_00_2
  · exact D_00_3
  · exact D_00_4
  · exact D_00_5
  · exact D_00_6
  ⟩
theorem K_01 : kAll 0 1 := ⟨A_01, fun n h0 h1 => by
  rcases ten h0 h1 with rfl | rfl | rfl | rfl | rfl | rfl | rfl | rfl | rfl | rfl
  · exact B_01_0
  · exact B_01_1
  · exact B_01_2
  · exact B_01_3
  · exact B_01_4
  · exact B_01_5
  · exact B_01_6
  · exact B_01_7
  · exact B_01_8
  · exact B_01_9
  , fun n h0 h1 => by
  rcases seven h0 h1 with rfl | rfl | rfl | rfl | rfl | rfl | rfl
  · exact D_01_0
  · exact D_01_1
  · exact D_01_2
  · exact D_01_3
  · exact D_01_4
  · exact D_01_5
  · exact D_01_6
  ⟩
theorem K_10 : kAll 1 0 := ⟨A_10, fun n h0 h1 => by
  rcases ten h0 h1 with rfl | rfl | rfl | rfl | rfl | rfl | rfl | rfl | rfl | rfl
  · exact B_10_0
  · exact B_10_1
  · exact B_10_2
  · exact B_10_3
  · exact B_10_4
  · exact B_10_5
  · exact B_10_6
  · exact B_10_7
  · exact B_10_8
  · exact B_10_9
  , fun n h0 h1 => by
  rcases seven h0 h1 with rfl | rfl | rfl | rfl | rfl | rfl | rfl
  · exact D_10_0
  · exact D_10_1
  · exact D_10_2
  · exact D_10_3
  · exact D_10_4
  · exact D_10_5
  · exact D_10_6
  ⟩
theorem K_11 : kAll 1 1 := ⟨A_11, fun n h0 h1 => by
  rcases ten h0 h1 with rfl | rfl | rfl | rfl | rfl | rfl | rfl | rfl | rfl | rfl
  · exact B_11_0
  · exact B_11_1
  · exact B_11_2
  · exact B_11_3
  · exact B_11_4
  · exact B_11_5
  · exact B_11_6
  · exact B_11_7
  · exact B_11_8
  · exact B_11_9
  , fun n h0 h1 => by
  rcases seven h0 h1 with rfl | rfl | rfl | rfl | rfl | rfl | rfl
  · exact D_11_0
  · exact D_11_1
  · exact D_11_2
  · exact D_11_3
  · exact D_11_4
  · exact D_11_5
  · exact D_11_6
  ⟩
theorem K_12 : kAll 1 2 := ⟨A_12, fun n h0 h1 => by
  rcases ten h0 h1 with rfl | rfl | rfl | rfl | rfl | rfl | rfl | rfl | rfl | rfl
  · exact B_12_0
  · exact B_12_1
  · exact B_12_2
  · exact B_12_3
  · exact B_12_4
  · exact B_12_5
  · exact B_12_6
  · exact B_12_7
  · exact B_12_8
  · exact B_12_9
  , fun n h0 h1 => by
  rcases seven h0 h1 with rfl | rfl | rfl | rfl | rfl | rfl | rfl
  · exact D_12_0
  · exact D_12_1
  · exact D_12_2
  · exact D_12_3
  · exact D_12_4
  · exact D_12_5
  · exact D_12_6
  ⟩
theorem K_20 : kAll 2 0 := ⟨A_20, fun n h0 h1 => by
  rcases ten h0 h1 with rfl | rfl | rfl | rfl | rfl | rfl | rfl | rfl | rfl | rfl
  · exact B_20_0
  · exact B_20_1
  · exact B_20_2
  · exact B_20_3
  · exact B_20_4
  · exact B_20_5
  · exact B_20_6
  · exact B_20_7
  · exact B_20_8
  · exact B_20_9
  , fun n h0 h1 => by
  rcases seven h0 h1 with rfl | rfl | rfl | rfl | rfl | rfl | rfl
  · exact D_20_0
  · exact D_20_1
  · exact D_20_2
  · exact D_20_3
  · exact D_20_4
  · exact D_20_5
  · exact D_20_6
  ⟩
theorem K_21 : kAll 2 1 := ⟨A_21, fun n h0 h1 => by
  rcases ten h0 h1 with rfl | rfl | rfl | rfl | rfl | rfl | rfl | rfl | rfl | rfl
  · exact B_21_0
  · exact B_21_1
  · exact B_21_2
  · exact B_21_3
  · exact B_21_4
  · exact B_21_5
  · exact B_21_6
  · exact B_21_7
  · exact B_21_8
  · exact B_21_9
  , fun n h0 h1 => by
  rcases seven h0 h1 with rfl | rfl | rfl | rfl | rfl | rfl | rfl
  · exact D_21_0
  · exact D_21_1
  · exact D_21_2
  · exact D_21_3
  · exact D_21_4
  · exact D_21_5
  · exact D_21_6
  ⟩
theorem K_22 : kAll 2 2 := ⟨A_22, fun n h0 h1 => by
  rcases ten h0 h1 with rfl | rfl | rfl | rfl | rfl | rfl | rfl | rfl | rfl | rfl
  · exact B_22_0
  · exact B_22_1
  · exact B_22_2
  · exact B_22_3
  · exact B_22_4
  · exact B_22_5
  · exact B_22_6
  · exact B_22_7
  · exact B_22_8
  · exact B_22_9
  , fun n h0 h1 => by
  rcases seven h0 h1 with rfl | rfl | rfl | rfl | rfl | rfl | rfl
  · exact D_22_0
  · exact D_22_1
  · exact D_22_2
  · exact D_22_3
  · exact D_22_4
  · exact D_22_5
  · exact D_22_6
  ⟩
theorem K_23 : kAll 2 3 := ⟨A_23, fun n h0 h1 => by
  rcases ten h0 h1 with rfl | rfl | rfl | rfl | rfl | rfl | rfl | rfl | rfl | rfl
  · exact B_23_0
  · exact B_23_1
  · exact B_23_2
  · exact B_23_3
  · exact B_23_4
  · exact B_23_5
  · exact B_23_6
  · exact B_23_7
  · exact B_23_8
  · exact B_23_9
  , fun n h0 h1 => by
  rcases seven h0 h1 with rfl | rfl | rfl | rfl | rfl | rfl | rfl
  · exact D_23_0
  · exact D_23_1
  · exact D_23_2
  · exact D_23_3
  · exact D_23_4
  · exact D_23_5
  · exact D_23_6
  ⟩
theorem K_30 : kAll 3 0 := ⟨A_30, fun n h0 h1 => by
  rcases ten h0 h1 with rfl | rfl | rfl | rfl | rfl | rfl | rfl | rfl | rfl | rfl
  · exact B_30_0
  · exact B_30_1
  · exact B_30_2
  · exact B_30_3
  · exact B_30_4
  · exact B_30_5
  · exact B_30_6
  · exact B_30_7
  · exact B_30_8
  · exact B_30_9
  , fun n h0 h1 => by
  rcases seven h0 h1 with rfl | rfl | rfl | rfl | rfl | rfl | rfl
  · exact D_30_0
  · exact D_30_1
  · exact D_30_2
  · exact D_30_3
  · exact D_30_4
  · exact D_30_5
  · exact D_30_6
  ⟩
theorem K_31 : kAll 3 1 := ⟨A_31, fun n h0 h1 => by
  rcases ten h0 h1 with rfl | rfl | rfl | rfl | rfl | rfl | rfl | rfl | rfl | rfl
  · exact B_31_0
  · exact B_31_1
  · exact B_31_2
  · exact B_31_3
  · exact B_31_4
  · exact B_31_5
  · exact B_31_6
  · exact B_31_7
  · exact B_31_8
  · exact B_31_9
  , fun n h0 h1 => by
  rcases seven h0 h1 with rfl | rfl | rfl | rfl | rfl | rfl | rfl
  · exact D_31_0
  · exact D_31_1
  · exact D_31_2
  · exact D_31_3
  · exact D_31_4
  · exact D_31_5
  · exact D_31_6
  ⟩
theorem K_32 : kAll 3 2 := ⟨A_32, fun n h0 h1 => by
  rcases ten h0 h1 with rfl | rfl | rfl | rfl | rfl | rfl | rfl | rfl | rfl | rfl
  · exact B_32_0
  · exact B_32_1
  · exact B_32_2
  · exact B_32_3
  · exact B_32_4
  · exact B_32_5
  · exact B_32_6
  · exact B_32_7
  · exact B_32_8
  · exact B_32_9
  , fun n h0 h1 => by
  rcases seven h0 h1 with rfl | rfl | rfl | rfl | rfl | rfl | rfl
  · exact D_32_0
  · exact D_32_1
  · exact D_32_2
  · exact D_32_3
  · exact D_32_4
  · exact D_32_5
  · exact D_32_6
  ⟩
theorem K_33 : kAll 3 3 := ⟨A_33, fun n h0 h1 => by
  rcases ten h0 h1 with rfl | rfl | rfl | rfl | rfl | rfl | rfl | rfl | rfl | rfl
  · exact B_33_0
  · exact B_33_1
  · exact B_33_2
  · exact B_33_3
  · exact B_33_4
  · exact B_33_5
  · exact B_33_6
  · exact B_33_7
  · exact B_33_8
  · exact B_33_9
  , fun n h0 h1 => by
  rcases seven h0 h1 with rfl | rfl | rfl | rfl | rfl | rfl | rfl
  · exact D_33_0
  · exact D_33_1
  · exact D_33_2
  · exact D_33_3
  · exact D_33_4
  · exact D_33_5
  · exact D_33_6
  ⟩
theorem K_34 : kAll 3 4 := ⟨A_34, fun n h0 h1 => by
  rcases ten h0 h1 with rfl | rfl | rfl | rfl | rfl | rfl | rfl | rfl | rfl | rfl
  · exact B_34_0
  · exact B_34_1
  · exact B_34_2
  · exact B_34_3
  · exact B_34_4
  · exact B_34_5
  · exact B_34_6
  · exact B_34_7
  · exact B_34_8
  · exact B_34_9
  , fun n h0 h1 => by
  rcases seven h0 h1 with rfl | rfl | rfl | rfl | rfl | rfl | rfl
  · exact D_34_0
  · exact D_34_1
  · exact D_34_2
  · exact D_34_3
  · exact D_34_4
  · exact D_34_5
  · exact D_34_6
  ⟩
theorem K_40 : kAll 4 0 := ⟨A_40, fun n h0 h1 => by
  rcases ten h0 h1 with rfl | rfl | rfl | rfl | rfl | rfl | rfl | rfl | rfl | rfl
  · exact B_40_0
  · exact B_40_1
  · exact B_40_2
  · exact B_40_3
  · exact B_40_4
  · exact B_40_5
  · exact B_40_6
  · exact B_40_7
  · exact B_40_8
  · exact B_40_9
  , fun n h0 h1 => by
  rcases seven h0 h1 with rfl | rfl | rfl | rfl | rfl | rfl | rfl
  · exact D_40_0
  · exact D_40_1
  · exact D_40_2
  · exact D_40_3
  · exact D_40_4
  · exact D_40_5
  · exact D_40_6
  ⟩
theorem K_41 : kAll 4 1 := ⟨A_41, fun n h0 h1 => by
  rcases ten h0 h1 with rfl | rfl | rfl | rfl | rfl | rfl | rfl | rfl | rfl | rfl
  · exact B_41_0
  · exact B_41_1
  · exact B_41_2
  · exact B_41_3
  · exact B_41_4
  · exact B_41_5
  · exact B_41_6
  · exact B_41_7
  · exact B_41_8
  · exact B_41_9
  , fun n h0 h1 => by
  rcases seven h0 h1 with rfl | rfl | rfl | rfl | rfl | rfl | rfl
  · exact D_41_0
  · exact D_41_1
  · exact D_41_2
  · exact D_41_3
  · exact D_41_4
  · exact D_41_5
  · exact D_41_6
  ⟩
theorem K_42 : kAll 4 2 := ⟨A_42, fun n h0 h1 => by
  rcases ten h0 h1 with rfl | rfl | rfl | rfl | rfl | rfl | rfl | rfl | rfl | rfl
  · exact B_42_0
  · exact B_42_1
  · exact B_42_2
  · exact B_42_3
  · exact B_42_4
  · exact B_42_5
  · exact B_42_6
  · exact B_42_7
  · exact B_42_8
  · exact B_42_9
  , fun n h0 h1 => by
  rcases seven h0 h1 with rfl | rfl | rfl | rfl | rfl | rfl | rfl
  · exact D_42_0
  · exact D_42_1
  · exact D_42_2
  · exact D_42_3
  · exact D_42_4
  · exact D_42_5
  · exact D_42_6
  ⟩
theorem K_43 : kAll 4 3 := ⟨A_43, fun n h0 h1 => by
  rcases ten h0 h1 with rfl | rfl | rfl | rfl | rfl | rfl | rfl | rfl | rfl | rfl
  · exact B_43_0
  · exact B_43_1
  · exact B_43_2
  · exact B_43_3
  · exact B_43_4
  · exact B_43_5
  · exact B_43_6
  · exact B_43_7
  · exact B_43_8
  · exact B_43_9
  , fun n h0 h1 => by
  rcases seven h0 h1 with rfl | rfl | rfl | rfl | rfl | rfl | rfl
  · exact D_43_0
  · exact D_43_1
  · exact D_43_2
  · exact D_43_3
  · exact D_43_4
  · exact D_43_5
  · exact D_43_6
  ⟩
theorem K_44 : kAll 4 4 := ⟨A_44, fun n h0 h1 => by
  rcases ten h0 h1 with rfl | rfl | rfl | rfl | rfl | rfl | rfl | rfl | rfl | rfl
  · exact B_44_0
  · exact B_44_1
  · exact B_44_2
  · exact B_44_3
  · exact B_44_4
  · exact B_44_5
  · exact B_44_6
  · exact B_44_7
  · exact B_44_8
  · exact B_44_9
  , fun n h0 h1 => by
  rcases seven h0 h1 with rfl | rfl | rfl | rfl | rfl | rfl | rfl
  · exact D_44_0
  · exact D_44_1
  · exact D_44_2
  · exact D_44_3
  · exact D_44_4
  · exact D_44_5
  · exact D_44_6
  ⟩
theorem K_45 : kAll 4 5 := ⟨A_45, fun n h0 h1 => by
  rcases ten h0 h1 with rfl | rfl | rfl | rfl | rfl | rfl | rfl | rfl | rfl | rfl
  · exact B_45_0
  · exact B_45_1
  · exact B_45_2
  · exact B_45_3
  · exact B_45_4
  · exact B_45_5
  · exact B_45_6
  · exact B_45_7
  · exact B_45_8
  · exact B_45_9
  , fun n h0 h1 => by
  rcases seven h0 h1 with rfl | rfl | rfl | rfl | rfl | rfl | rfl
  · exact D_45_0
  · exact D_45_1
  · exact D_45_2
  · exact D_45_3
  · exact D_45_4
  · exact D_45_5
  · exact D_45_6
  ⟩
theorem k_all {a c : Int} (h0 : 0 ≤ a) (h1 : a < 5) (h2 : 0 ≤ c) (h3 : c < 2 + a) : kAll a c := by
  rcases (show a = 0 ∨ a = 1 ∨ a = 2 ∨ a = 3 ∨ a = 4 by omega) with rfl | rfl | rfl | rfl | rfl
  · rcases (show c = 0 ∨ c = 1 by omega) with rfl | rfl
    · exact K_00
    · exact K_01
  · rcases (show c = 0 ∨ c = 1 ∨ c = 2 by omega) with rfl | rfl | rfl
    · exact K_10
    · exact K_11
    · exact K_12
  · rcases (show c = 0 ∨ c = 1 ∨ c = 2 ∨ c = 3 by omega) with rfl | rfl | rfl | rfl
    · exact K_20
    · exact K_21
    · exact K_22
    · exact K_23
  · rcases (show c = 0 ∨ c = 1 ∨ c = 2 ∨ c = 3 ∨ c = 4 by omega) with rfl | rfl | rfl | rfl | rfl
    · exact K_30
    · exact K_31
    · exact K_32
    · exact K_33
    · exact K_34
  · rcases (show c = 0 ∨ c = 1 ∨ c = 2 ∨ c = 3 ∨ c = 4 ∨ c = 5 by omega) with rfl | rfl | rfl | rfl | rfl | rfl
    · exact K_40
    · exact K_41
    · exact K_42
    · exact K_43
    · exact K_44
    · exact K_45
theorem withM_is {a c : Int} {f : Mc → Tx → Tx → Bool} (h : withM a c f = true) : ∃ t v, cutG abc none (some (2 + a)) = .ok t ∧ atS t c = .ok v ∧ f (mch (2 + a) t v) t v = true := by
  unfold withM at h
  cases h1 : cutG abc none (some (2 + a)) with
  | error e => rw [h1] at h; cases h
  | ok t =>
    rw [h1] at h
    have h : (match atS t c with | .ok v7 => f (mch (2 + a) t v7) t v7 | _ => false) = true := h
    cases h2 : atS t c with
    | error e => rw [h2] at h; cases h
    | ok v =>
      rw [h2] at h
      exact ⟨t, v, rfl, h2, h⟩
theorem turn_ok {zs : List Int} {t : Int} (ht : 0 ≤ t) : p_law_b0 zs t = .ok (.inl ()) := by
  rw [split, mix_is]
  obtain ⟨a, a0, a1, ea⟩ := mixT (zs := zs) (k := 10 + 10 * t) (many := 5) (by omega) (by decide)
  obtain ⟨c, c0, c1, ec⟩ := mixT (zs := zs) (k := 10 + 10 * t + 1) (many := 2 + a) (by omega) (by omega)
  obtain ⟨n, n0, n1, en⟩ := mixT (zs := zs) (k := 10 + 10 * t + 2) (many := 10) (by omega) (by decide)
  obtain ⟨m, m0, m1, em⟩ := mixT (zs := zs) (k := 10 + 10 * t + 3) (many := 7) (by omega) (by decide)
  obtain ⟨hA, hB, hD⟩ := k_all a0 a1 c0 c1
  obtain ⟨s, v, h1, h2, h3⟩ := withM_is hA
  obtain ⟨s2, v2, h4, h5, h6⟩ := withM_is (hB n n0 n1)
  obtain ⟨s3, v3, h7, h8, h9⟩ := withM_is (hD m m0 m1)
  rw [h1] at h4 h7
  cases h4
  cases h7
  rw [h2] at h5 h8
  cases h5
  cases h8
  rw [Bool.and_eq_true, Bool.and_eq_true] at h3
  rw [ea, okb, h1, okb, ec, okb, h2, okb, isF_is h3.1, okb, if_neg Bool.false_ne_true, en, okb, isF_is h6, okb, if_neg Bool.false_ne_true, isF_is h3.2.1, okb, if_neg Bool.false_ne_true, em, okb, isF_is h9, okb, if_neg Bool.false_ne_true]
  exact isInl_is h3.2.2
theorem p_true (zs : List Int) : p_law zs = .ok true := by
  have h3 : rgR1 4 = .ok (rgI 0 4) := rfl
  unfold p_law
  rw [h3, okb, forR_inl _ fun x hx => turn_ok (mem_rgI hx).1]
  rfl
theorem law_true (ns : List Int) (hl : ns.length ≤ 63) : f_law [.dict [(.none, .list (ns.map .int)), (.none, .none)]] = .ok (.bool true) := by
  obtain ⟨zs, hd⟩ := draws_ok ns
  exact t_law (ns := ns) hd true (p_true zs)
end Gk92

set_option Elab.async false
set_option linter.all false
set_option maxRecDepth 100000
namespace Gk92
open PySem PySem.Spec PyProof.Rows L2 Vs
set_option maxHeartbeats 0 in
theorem all_mk {l : PySem.W.OpenLaw} {w : World} {K : PySem.W.Frag} {h : Heap} {mg : Str → Option Value} {fa : Addr} (X : K.In h) (G : h.Ns mainGlobals mg) (hfa : mg "law" = some (.ref fa))
    {f0 f1 f2 f3 f4 f5 f6 f7 f8 f9 f10 f11 f12 f13 f14 f15 f16 f17 f18 f19 f20 f21 f22 f23 f24 f25 f26 f27 f28 f29 f30 f31 f32 f33 f34 f35 f36 f37 f38 f39 f40 f41 f42 : Addr} {od0 an0 od1 an1 od2 an2 od3 an3 od4 an4 od5 an5 od6 an6 od7 an7 od8 an8 od9 an9 od10 an10 od11 an11 od12 an12 od13 an13 od14 an14 od15 an15 od16 an16 od17 an17 od18 an18 od19 an19 od20 an20 od21 an21 od22 an22 od23 an23 od24 an24 od25 an25 od26 an26 od27 an27 od28 an28 od29 an29 od30 an30 od31 an31 od32 an32 od33 an33 od34 an34 od35 an35 od36 an36 od37 an37 od38 an38 od39 an39 od40 an40 od41 an41 od42 an42 : Option Addr} {sl0 sl1 sl2 sl3 sl4 sl5 sl6 sl7 sl8 sl9 sl10 sl11 sl12 sl13 sl14 sl15 sl16 sl17 sl18 sl19 sl20 sl21 sl22 sl23 sl24 sl25 sl26 sl27 sl28 sl29 sl30 sl31 sl32 sl33 sl34 sl35 sl36 sl37 sl38 sl39 sl40 sl41 sl42 : Array (Option Value)} {oc0 kV0 dc0 pm0 cd0 ct0 oc1 kV1 dc1 pm1 cd1 ct1 oc2 kV2 dc2 pm2 cd2 ct2 oc3 kV3 dc3 pm3 cd3 ct3 oc4 kV4 dc4 pm4 cd4 ct4 oc5 kV5 dc5 pm5 cd5 ct5 oc6 kV6 dc6 pm6 cd6 ct6 oc7 kV7 dc7 pm7 cd7 ct7 oc8 kV8 dc8 pm8 cd8 ct8 oc9 kV9 dc9 pm9 cd9 ct9 oc10 kV10 dc10 pm10 cd10 ct10 oc11 kV11 dc11 pm11 cd11 ct11 oc12 kV12 dc12 pm12 cd12 ct12 oc13 kV13 dc13 pm13 cd13 ct13 oc14 kV14 dc14 pm14 cd14 ct14 oc15 kV15 dc15 pm15 cd15 ct15 oc16 kV16 dc16 pm16 cd16 ct16 oc17 kV17 dc17 pm17 cd17 ct17 oc18 kV18 dc18 pm18 cd18 ct18 oc19 kV19 dc19 pm19 cd19 ct19 oc20 kV20 dc20 pm20 cd20 ct20 oc21 kV21 dc21 pm21 cd21 ct21 oc22 kV22 dc22 pm22 cd22 ct22 oc23 kV23 dc23 pm23 cd23 ct23 oc24 kV24 dc24 pm24 cd24 ct24 oc25 kV25 dc25 pm25 cd25 ct25 oc26 kV26 dc26 pm26 cd26 ct26 oc27 kV27 dc27 pm27 cd27 ct27 oc28 kV28 dc28 pm28 cd28 ct28 oc29 kV29 dc29 pm29 cd29 ct29 oc30 kV30 dc30 pm30 cd30 ct30 oc31 kV31 dc31 pm31 cd31 ct31 oc32 kV32 dc32 pm32 cd32 ct32 oc33 kV33 dc33 pm33 cd33 ct33 oc34 kV34 dc34 pm34 cd34 ct34 oc35 kV35 dc35 pm35 cd35 ct35 oc36 kV36 dc36 pm36 cd36 ct36 oc37 kV37 dc37 pm37 cd37 ct37 oc38 kV38 dc38 pm38 cd38 ct38 oc39 kV39 dc39 pm39 cd39 ct39 oc40 kV40 dc40 pm40 cd40 ct40 oc41 kV41 dc41 pm41 cd41 ct41 oc42 kV42 dc42 pm42 cd42 ct42 : Value} {t_ANY : Tok} {t_LEAST_LIGHTS : Tok} {t_MOST_COINS : Tok} {t_MOST_LENGTH : Tok} {t_MOST_LIGHTS : Tok} {t_MOST_PAYS : Tok} {t_MOST_PLACES : Tok} {t_MOST_ROUNDS : Tok} {t_MOST_ROW : Tok} {t_MOST_SPINS : Tok} {t_MOST_STRIPS : Tok} {t_NOUGHT_held_2 : Tok} {t_NOUGHT_held_3 : Tok} {a_NOUGHT_held_1 : Addr} {d_NOUGHT_held_1 : Option Addr} {n_NOUGHT_held_1 : Nat} {s_NOUGHT_held_1 : Array (Option Value)} {t_NOUGHT_memory_2 : Tok} {t_NOUGHT_memory_3 : Tok} {a_NOUGHT_memory_1 : Addr} {d_NOUGHT_memory_1 : Option Addr} {n_NOUGHT_memory_1 : Nat} {s_NOUGHT_memory_1 : Array (Option Value)} {t_ONE_held_2 : Tok} {t_ONE_held_3 : Tok} {a_ONE_held_1 : Addr} {d_ONE_held_1 : Option Addr} {n_ONE_held_1 : Nat} {s_ONE_held_1 : Array (Option Value)} {t_ONE_memory_2 : Tok} {t_ONE_memory_3 : Tok} {a_ONE_memory_1 : Addr} {d_ONE_memory_1 : Option Addr} {n_ONE_memory_1 : Nat} {s_ONE_memory_1 : Array (Option Value)} {t_SIGNS : Tok}
    (z_abs : PySem.W.nsIn K mainGlobals "abs" = some none)
    (z_all : PySem.W.nsIn K mainGlobals "all" = some none)
    (z_enumerate : PySem.W.nsIn K mainGlobals "enumerate" = some none)
    (z_int : PySem.W.nsIn K mainGlobals "int" = some none)
    (z_len : PySem.W.nsIn K mainGlobals "len" = some none)
    (z_list : PySem.W.nsIn K mainGlobals "list" = some none)
    (z_max : PySem.W.nsIn K mainGlobals "max" = some none)
    (z_min : PySem.W.nsIn K mainGlobals "min" = some none)
    (z_range : PySem.W.nsIn K mainGlobals "range" = some none)
    (z_set : PySem.W.nsIn K mainGlobals "set" = some none)
    (z_sorted : PySem.W.nsIn K mainGlobals "sorted" = some none)
    (z_sum : PySem.W.nsIn K mainGlobals "sum" = some none)
    (z_zip : PySem.W.nsIn K mainGlobals "zip" = some none)
    (z_gcd : PySem.W.nsIn K mainGlobals "gcd" = some (some (.builtin "math.gcd")))
    (q_ANY : PySem.W.nsIn K mainGlobals "ANY" = some (some (.str "*" t_ANY)))
    (q_LEAST_LIGHTS : PySem.W.nsIn K mainGlobals "LEAST_LIGHTS" = some (some (.int 2 t_LEAST_LIGHTS)))
    (q_MOST_COINS : PySem.W.nsIn K mainGlobals "MOST_COINS" = some (some (.int 10000 t_MOST_COINS)))
    (q_MOST_LENGTH : PySem.W.nsIn K mainGlobals "MOST_LENGTH" = some (some (.int 10 t_MOST_LENGTH)))
    (q_MOST_LIGHTS : PySem.W.nsIn K mainGlobals "MOST_LIGHTS" = some (some (.int 6 t_MOST_LIGHTS)))
    (q_MOST_PAYS : PySem.W.nsIn K mainGlobals "MOST_PAYS" = some (some (.int 8 t_MOST_PAYS)))
    (q_MOST_PLACES : PySem.W.nsIn K mainGlobals "MOST_PLACES" = some (some (.int 8 t_MOST_PLACES)))
    (q_MOST_ROUNDS : PySem.W.nsIn K mainGlobals "MOST_ROUNDS" = some (some (.int 30 t_MOST_ROUNDS)))
    (q_MOST_ROW : PySem.W.nsIn K mainGlobals "MOST_ROW" = some (some (.int 40 t_MOST_ROW)))
    (q_MOST_SPINS : PySem.W.nsIn K mainGlobals "MOST_SPINS" = some (some (.int 30 t_MOST_SPINS)))
    (q_MOST_STRIPS : PySem.W.nsIn K mainGlobals "MOST_STRIPS" = some (some (.int 4 t_MOST_STRIPS)))
    (q_NOUGHT_held : PySem.W.nsIn K mainGlobals "NOUGHT_held" = some (some (Value.ref a_NOUGHT_held_1)))
    (l_NOUGHT_held_1 : K.lookup a_NOUGHT_held_1 = some ⟨.type "tuple", d_NOUGHT_held_1, .seq #[Value.int 0 t_NOUGHT_held_2, Value.int 1 t_NOUGHT_held_3] n_NOUGHT_held_1, s_NOUGHT_held_1⟩)
    (q_NOUGHT_memory : PySem.W.nsIn K mainGlobals "NOUGHT_memory" = some (some (Value.ref a_NOUGHT_memory_1)))
    (l_NOUGHT_memory_1 : K.lookup a_NOUGHT_memory_1 = some ⟨.type "tuple", d_NOUGHT_memory_1, .seq #[Value.int 0 t_NOUGHT_memory_2, Value.int 1 t_NOUGHT_memory_3] n_NOUGHT_memory_1, s_NOUGHT_memory_1⟩)
    (q_ONE_held : PySem.W.nsIn K mainGlobals "ONE_held" = some (some (Value.ref a_ONE_held_1)))
    (l_ONE_held_1 : K.lookup a_ONE_held_1 = some ⟨.type "tuple", d_ONE_held_1, .seq #[Value.int 1 t_ONE_held_2, Value.int 1 t_ONE_held_3] n_ONE_held_1, s_ONE_held_1⟩)
    (q_ONE_memory : PySem.W.nsIn K mainGlobals "ONE_memory" = some (some (Value.ref a_ONE_memory_1)))
    (l_ONE_memory_1 : K.lookup a_ONE_memory_1 = some ⟨.type "tuple", d_ONE_memory_1, .seq #[Value.int 1 t_ONE_memory_2, Value.int 1 t_ONE_memory_3] n_ONE_memory_1, s_ONE_memory_1⟩)
    (q_SIGNS : PySem.W.nsIn K mainGlobals "SIGNS" = some (some (.str "ABCDEF" t_SIGNS)))
    (a_is_fraction : PySem.W.nsIn K mainGlobals "is_fraction" = some (some (.ref f0)))
    (l_0 : K.lookup f0 = some ⟨oc0, od0, .func (PySem.W.fnOf "is_fraction" "is_fraction" (defArgs st_is_fraction) (defBody st_is_fraction) (defScope st_is_fraction) .none kV0 dc0 pm0 an0 cd0 ct0), sl0⟩)
    (c_0 : PySem.W.codeIn K cd0 "is_fraction" = true)
    (k_0 : PySem.W.keepIn K (.ref f0) = true)
    (a_fraction : PySem.W.nsIn K mainGlobals "fraction" = some (some (.ref f1)))
    (l_1 : K.lookup f1 = some ⟨oc1, od1, .func (PySem.W.fnOf "fraction" "fraction" (defArgs st_fraction) (defBody st_fraction) (defScope st_fraction) .none kV1 dc1 pm1 an1 cd1 ct1), sl1⟩)
    (c_1 : PySem.W.codeIn K cd1 "fraction" = true)
    (k_1 : PySem.W.keepIn K (.ref f1) = true)
    (a_is_less : PySem.W.nsIn K mainGlobals "is_less" = some (some (.ref f2)))
    (l_2 : K.lookup f2 = some ⟨oc2, od2, .func (PySem.W.fnOf "is_less" "is_less" (defArgs st_is_less) (defBody st_is_less) (defScope st_is_less) .none kV2 dc2 pm2 an2 cd2 ct2), sl2⟩)
    (c_2 : PySem.W.codeIn K cd2 "is_less" = true)
    (k_2 : PySem.W.keepIn K (.ref f2) = true)
    (a_check_machine : PySem.W.nsIn K mainGlobals "check_machine" = some (some (.ref f3)))
    (l_3 : K.lookup f3 = some ⟨oc3, od3, .func (PySem.W.fnOf "check_machine" "check_machine" (defArgs st_check_machine) (defBody st_check_machine) (defScope st_check_machine) .none kV3 dc3 pm3 an3 cd3 ct3), sl3⟩)
    (c_3 : PySem.W.codeIn K cd3 "check_machine" = true)
    (k_3 : PySem.W.keepIn K (.ref f3) = true)
    (a_is_met : PySem.W.nsIn K mainGlobals "is_met" = some (some (.ref f4)))
    (l_4 : K.lookup f4 = some ⟨oc4, od4, .func (PySem.W.fnOf "is_met" "is_met" (defArgs st_is_met) (defBody st_is_met) (defScope st_is_met) .none kV4 dc4 pm4 an4 cd4 ct4), sl4⟩)
    (c_4 : PySem.W.codeIn K cd4 "is_met" = true)
    (k_4 : PySem.W.keepIn K (.ref f4) = true)
    (a_stops_of : PySem.W.nsIn K mainGlobals "stops_of" = some (some (.ref f5)))
    (l_5 : K.lookup f5 = some ⟨oc5, od5, .func (PySem.W.fnOf "stops_of" "stops_of" (defArgs st_stops_of) (defBody st_stops_of) (defScope st_stops_of) .none kV5 dc5 pm5 an5 cd5 ct5), sl5⟩)
    (c_5 : PySem.W.codeIn K cd5 "stops_of" = true)
    (k_5 : PySem.W.keepIn K (.ref f5) = true)
    (a_sets_of : PySem.W.nsIn K mainGlobals "sets_of" = some (some (.ref f6)))
    (l_6 : K.lookup f6 = some ⟨oc6, od6, .func (PySem.W.fnOf "sets_of" "sets_of" (defArgs st_sets_of) (defBody st_sets_of) (defScope st_sets_of) .none kV6 dc6 pm6 an6 cd6 ct6), sl6⟩)
    (c_6 : PySem.W.codeIn K cd6 "sets_of" = true)
    (k_6 : PySem.W.keepIn K (.ref f6) = true)
    (a_check_range : PySem.W.nsIn K mainGlobals "check_range" = some (some (.ref f7)))
    (l_7 : K.lookup f7 = some ⟨oc7, od7, .func (PySem.W.fnOf "check_range" "check_range" (defArgs st_check_range) (defBody st_check_range) (defScope st_check_range) .none kV7 dc7 pm7 an7 cd7 ct7), sl7⟩)
    (c_7 : PySem.W.codeIn K cd7 "check_range" = true)
    (k_7 : PySem.W.keepIn K (.ref f7) = true)
    (a__law_draws : PySem.W.nsIn K mainGlobals "_law_draws" = some (some (.ref f8)))
    (l_8 : K.lookup f8 = some ⟨oc8, od8, .func (PySem.W.fnOf "_law_draws" "_law_draws" (defArgs st__law_draws) (defBody st__law_draws) (defScope st__law_draws) .none kV8 dc8 pm8 an8 cd8 ct8), sl8⟩)
    (c_8 : PySem.W.codeIn K cd8 "_law_draws" = true)
    (k_8 : PySem.W.keepIn K (.ref f8) = true)
    (a__law_mix : PySem.W.nsIn K mainGlobals "_law_mix" = some (some (.ref f9)))
    (l_9 : K.lookup f9 = some ⟨oc9, od9, .func (PySem.W.fnOf "_law_mix" "_law_mix" (defArgs st__law_mix) (defBody st__law_mix) (defScope st__law_mix) .none kV9 dc9 pm9 an9 cd9 ct9), sl9⟩)
    (c_9 : PySem.W.codeIn K cd9 "_law_mix" = true)
    (k_9 : PySem.W.keepIn K (.ref f9) = true)
    (a__law_low : PySem.W.nsIn K mainGlobals "_law_low" = some (some (.ref f10)))
    (l_10 : K.lookup f10 = some ⟨oc10, od10, .func (PySem.W.fnOf "_law_low" "_law_low" (defArgs st__law_low) (defBody st__law_low) (defScope st__law_low) .none kV10 dc10 pm10 an10 cd10 ct10), sl10⟩)
    (c_10 : PySem.W.codeIn K cd10 "_law_low" = true)
    (k_10 : PySem.W.keepIn K (.ref f10) = true)
    (a_plus : PySem.W.nsIn K mainGlobals "plus" = some (some (.ref f11)))
    (l_11 : K.lookup f11 = some ⟨oc11, od11, .func (PySem.W.fnOf "plus" "plus" (defArgs st_plus) (defBody st_plus) (defScope st_plus) .none kV11 dc11 pm11 an11 cd11 ct11), sl11⟩)
    (c_11 : PySem.W.codeIn K cd11 "plus" = true)
    (k_11 : PySem.W.keepIn K (.ref f11) = true)
    (a_minus : PySem.W.nsIn K mainGlobals "minus" = some (some (.ref f12)))
    (l_12 : K.lookup f12 = some ⟨oc12, od12, .func (PySem.W.fnOf "minus" "minus" (defArgs st_minus) (defBody st_minus) (defScope st_minus) .none kV12 dc12 pm12 an12 cd12 ct12), sl12⟩)
    (c_12 : PySem.W.codeIn K cd12 "minus" = true)
    (k_12 : PySem.W.keepIn K (.ref f12) = true)
    (a_times : PySem.W.nsIn K mainGlobals "times" = some (some (.ref f13)))
    (l_13 : K.lookup f13 = some ⟨oc13, od13, .func (PySem.W.fnOf "times" "times" (defArgs st_times) (defBody st_times) (defScope st_times) .none kV13 dc13 pm13 an13 cd13 ct13), sl13⟩)
    (c_13 : PySem.W.codeIn K cd13 "times" = true)
    (k_13 : PySem.W.keepIn K (.ref f13) = true)
    (a_over : PySem.W.nsIn K mainGlobals "over" = some (some (.ref f14)))
    (l_14 : K.lookup f14 = some ⟨oc14, od14, .func (PySem.W.fnOf "over" "over" (defArgs st_over) (defBody st_over) (defScope st_over) .none kV14 dc14 pm14 an14 cd14 ct14), sl14⟩)
    (c_14 : PySem.W.codeIn K cd14 "over" = true)
    (k_14 : PySem.W.keepIn K (.ref f14) = true)
    (a_check_stops : PySem.W.nsIn K mainGlobals "check_stops" = some (some (.ref f15)))
    (l_15 : K.lookup f15 = some ⟨oc15, od15, .func (PySem.W.fnOf "check_stops" "check_stops" (defArgs st_check_stops) (defBody st_check_stops) (defScope st_check_stops) .none kV15 dc15 pm15 an15 cd15 ct15), sl15⟩)
    (c_15 : PySem.W.codeIn K cd15 "check_stops" = true)
    (k_15 : PySem.W.keepIn K (.ref f15) = true)
    (a_first_met : PySem.W.nsIn K mainGlobals "first_met" = some (some (.ref f16)))
    (l_16 : K.lookup f16 = some ⟨oc16, od16, .func (PySem.W.fnOf "first_met" "first_met" (defArgs st_first_met) (defBody st_first_met) (defScope st_first_met) .none kV16 dc16 pm16 an16 cd16 ct16), sl16⟩)
    (c_16 : PySem.W.codeIn K cd16 "first_met" = true)
    (k_16 : PySem.W.keepIn K (.ref f16) = true)
    (a_check_lights : PySem.W.nsIn K mainGlobals "check_lights" = some (some (.ref f17)))
    (l_17 : K.lookup f17 = some ⟨oc17, od17, .func (PySem.W.fnOf "check_lights" "check_lights" (defArgs st_check_lights) (defBody st_check_lights) (defScope st_check_lights) .none kV17 dc17 pm17 an17 cd17 ct17), sl17⟩)
    (c_17 : PySem.W.codeIn K cd17 "check_lights" = true)
    (k_17 : PySem.W.keepIn K (.ref f17) = true)
    (a_check_hold : PySem.W.nsIn K mainGlobals "check_hold" = some (some (.ref f18)))
    (l_18 : K.lookup f18 = some ⟨oc18, od18, .func (PySem.W.fnOf "check_hold" "check_hold" (defArgs st_check_hold) (defBody st_check_hold) (defScope st_check_hold) .none kV18 dc18 pm18 an18 cd18 ct18), sl18⟩)
    (c_18 : PySem.W.codeIn K cd18 "check_hold" = true)
    (k_18 : PySem.W.keepIn K (.ref f18) = true)
    (a__law_plus : PySem.W.nsIn K mainGlobals "_law_plus" = some (some (.ref f19)))
    (l_19 : K.lookup f19 = some ⟨oc19, od19, .func (PySem.W.fnOf "_law_plus" "_law_plus" (defArgs st__law_plus) (defBody st__law_plus) (defScope st__law_plus) .none kV19 dc19 pm19 an19 cd19 ct19), sl19⟩)
    (c_19 : PySem.W.codeIn K cd19 "_law_plus" = true)
    (k_19 : PySem.W.keepIn K (.ref f19) = true)
    (a__law_times : PySem.W.nsIn K mainGlobals "_law_times" = some (some (.ref f20)))
    (l_20 : K.lookup f20 = some ⟨oc20, od20, .func (PySem.W.fnOf "_law_times" "_law_times" (defArgs st__law_times) (defBody st__law_times) (defScope st__law_times) .none kV20 dc20 pm20 an20 cd20 ct20), sl20⟩)
    (c_20 : PySem.W.codeIn K cd20 "_law_times" = true)
    (k_20 : PySem.W.keepIn K (.ref f20) = true)
    (a_total : PySem.W.nsIn K mainGlobals "total" = some (some (.ref f21)))
    (l_21 : K.lookup f21 = some ⟨oc21, od21, .func (PySem.W.fnOf "total" "total" (defArgs st_total) (defBody st_total) (defScope st_total) .none kV21 dc21 pm21 an21 cd21 ct21), sl21⟩)
    (c_21 : PySem.W.codeIn K cd21 "total" = true)
    (k_21 : PySem.W.keepIn K (.ref f21) = true)
    (a_paid_of : PySem.W.nsIn K mainGlobals "paid_of" = some (some (.ref f22)))
    (l_22 : K.lookup f22 = some ⟨oc22, od22, .func (PySem.W.fnOf "paid_of" "paid_of" (defArgs st_paid_of) (defBody st_paid_of) (defScope st_paid_of) .none kV22 dc22 pm22 an22 cd22 ct22), sl22⟩)
    (c_22 : PySem.W.codeIn K cd22 "paid_of" = true)
    (k_22 : PySem.W.keepIn K (.ref f22) = true)
    (a_parts_of : PySem.W.nsIn K mainGlobals "parts_of" = some (some (.ref f23)))
    (l_23 : K.lookup f23 = some ⟨oc23, od23, .func (PySem.W.fnOf "parts_of" "parts_of" (defArgs st_parts_of) (defBody st_parts_of) (defScope st_parts_of) .none kV23 dc23 pm23 an23 cd23 ct23), sl23⟩)
    (c_23 : PySem.W.codeIn K cd23 "parts_of" = true)
    (k_23 : PySem.W.keepIn K (.ref f23) = true)
    (a_check_held : PySem.W.nsIn K mainGlobals "check_held" = some (some (.ref f24)))
    (l_24 : K.lookup f24 = some ⟨oc24, od24, .func (PySem.W.fnOf "check_held" "check_held" (defArgs st_check_held) (defBody st_check_held) (defScope st_check_held) .none kV24 dc24 pm24 an24 cd24 ct24), sl24⟩)
    (c_24 : PySem.W.codeIn K cd24 "check_held" = true)
    (k_24 : PySem.W.keepIn K (.ref f24) = true)
    (a_power : PySem.W.nsIn K mainGlobals "power" = some (some (.ref f25)))
    (l_25 : K.lookup f25 = some ⟨oc25, od25, .func (PySem.W.fnOf "power" "power" (defArgs st_power) (defBody st_power) (defScope st_power) .none kV25 dc25 pm25 an25 cd25 ct25), sl25⟩)
    (c_25 : PySem.W.codeIn K cd25 "power" = true)
    (k_25 : PySem.W.keepIn K (.ref f25) = true)
    (a_light_chance : PySem.W.nsIn K mainGlobals "light_chance" = some (some (.ref f26)))
    (l_26 : K.lookup f26 = some ⟨oc26, od26, .func (PySem.W.fnOf "light_chance" "light_chance" (defArgs st_light_chance) (defBody st_light_chance) (defScope st_light_chance) .none kV26 dc26 pm26 an26 cd26 ct26), sl26⟩)
    (c_26 : PySem.W.codeIn K cd26 "light_chance" = true)
    (k_26 : PySem.W.keepIn K (.ref f26) = true)
    (a_mean_rounds : PySem.W.nsIn K mainGlobals "mean_rounds" = some (some (.ref f27)))
    (l_27 : K.lookup f27 = some ⟨oc27, od27, .func (PySem.W.fnOf "mean_rounds" "mean_rounds" (defArgs st_mean_rounds) (defBody st_mean_rounds) (defScope st_mean_rounds) .none kV27 dc27 pm27 an27 cd27 ct27), sl27⟩)
    (c_27 : PySem.W.codeIn K cd27 "mean_rounds" = true)
    (k_27 : PySem.W.keepIn K (.ref f27) = true)
    (a_paid : PySem.W.nsIn K mainGlobals "paid" = some (some (.ref f28)))
    (l_28 : K.lookup f28 = some ⟨oc28, od28, .func (PySem.W.fnOf "paid" "paid" (defArgs st_paid) (defBody st_paid) (defScope st_paid) .none kV28 dc28 pm28 an28 cd28 ct28), sl28⟩)
    (c_28 : PySem.W.codeIn K cd28 "paid" = true)
    (k_28 : PySem.W.keepIn K (.ref f28) = true)
    (a_mean_of : PySem.W.nsIn K mainGlobals "mean_of" = some (some (.ref f29)))
    (l_29 : K.lookup f29 = some ⟨oc29, od29, .func (PySem.W.fnOf "mean_of" "mean_of" (defArgs st_mean_of) (defBody st_mean_of) (defScope st_mean_of) .none kV29 dc29 pm29 an29 cd29 ct29), sl29⟩)
    (c_29 : PySem.W.codeIn K cd29 "mean_of" = true)
    (k_29 : PySem.W.keepIn K (.ref f29) = true)
    (a_hits : PySem.W.nsIn K mainGlobals "hits" = some (some (.ref f30)))
    (l_30 : K.lookup f30 = some ⟨oc30, od30, .func (PySem.W.fnOf "hits" "hits" (defArgs st_hits) (defBody st_hits) (defScope st_hits) .none kV30 dc30 pm30 an30 cd30 ct30), sl30⟩)
    (c_30 : PySem.W.codeIn K cd30 "hits" = true)
    (k_30 : PySem.W.keepIn K (.ref f30) = true)
    (a_by_pattern : PySem.W.nsIn K mainGlobals "by_pattern" = some (some (.ref f31)))
    (l_31 : K.lookup f31 = some ⟨oc31, od31, .func (PySem.W.fnOf "by_pattern" "by_pattern" (defArgs st_by_pattern) (defBody st_by_pattern) (defScope st_by_pattern) .none kV31 dc31 pm31 an31 cd31 ct31), sl31⟩)
    (c_31 : PySem.W.codeIn K cd31 "by_pattern" = true)
    (k_31 : PySem.W.keepIn K (.ref f31) = true)
    (a_span_chance : PySem.W.nsIn K mainGlobals "span_chance" = some (some (.ref f32)))
    (l_32 : K.lookup f32 = some ⟨oc32, od32, .func (PySem.W.fnOf "span_chance" "span_chance" (defArgs st_span_chance) (defBody st_span_chance) (defScope st_span_chance) .none kV32 dc32 pm32 an32 cd32 ct32), sl32⟩)
    (c_32 : PySem.W.codeIn K cd32 "span_chance" = true)
    (k_32 : PySem.W.keepIn K (.ref f32) = true)
    (a_by_hold : PySem.W.nsIn K mainGlobals "by_hold" = some (some (.ref f33)))
    (l_33 : K.lookup f33 = some ⟨oc33, od33, .func (PySem.W.fnOf "by_hold" "by_hold" (defArgs st_by_hold) (defBody st_by_hold) (defScope st_by_hold) .none kV33 dc33 pm33 an33 cd33 ct33), sl33⟩)
    (c_33 : PySem.W.codeIn K cd33 "by_hold" = true)
    (k_33 : PySem.W.keepIn K (.ref f33) = true)
    (a_share : PySem.W.nsIn K mainGlobals "share" = some (some (.ref f34)))
    (l_34 : K.lookup f34 = some ⟨oc34, od34, .func (PySem.W.fnOf "share" "share" (defArgs st_share) (defBody st_share) (defScope st_share) .none kV34 dc34 pm34 an34 cd34 ct34), sl34⟩)
    (c_34 : PySem.W.codeIn K cd34 "share" = true)
    (k_34 : PySem.W.keepIn K (.ref f34) = true)
    (a_mean_held : PySem.W.nsIn K mainGlobals "mean_held" = some (some (.ref f35)))
    (l_35 : K.lookup f35 = some ⟨oc35, od35, .func (PySem.W.fnOf "mean_held" "mean_held" (defArgs st_mean_held) (defBody st_mean_held) (defScope st_mean_held) .none kV35 dc35 pm35 an35 cd35 ct35), sl35⟩)
    (c_35 : PySem.W.codeIn K cd35 "mean_held" = true)
    (k_35 : PySem.W.keepIn K (.ref f35) = true)
    (a_best_held : PySem.W.nsIn K mainGlobals "best_held" = some (some (.ref f36)))
    (l_36 : K.lookup f36 = some ⟨oc36, od36, .func (PySem.W.fnOf "best_held" "best_held" (defArgs st_best_held) (defBody st_best_held) (defScope st_best_held) .none kV36 dc36 pm36 an36 cd36 ct36), sl36⟩)
    (c_36 : PySem.W.codeIn K cd36 "best_held" = true)
    (k_36 : PySem.W.keepIn K (.ref f36) = true)
    (a_streak : PySem.W.nsIn K mainGlobals "streak" = some (some (.ref f37)))
    (l_37 : K.lookup f37 = some ⟨oc37, od37, .func (PySem.W.fnOf "streak" "streak" (defArgs st_streak) (defBody st_streak) (defScope st_streak) .none kV37 dc37 pm37 an37 cd37 ct37), sl37⟩)
    (c_37 : PySem.W.codeIn K cd37 "streak" = true)
    (k_37 : PySem.W.keepIn K (.ref f37) = true)
    (a_mean_spins : PySem.W.nsIn K mainGlobals "mean_spins" = some (some (.ref f38)))
    (l_38 : K.lookup f38 = some ⟨oc38, od38, .func (PySem.W.fnOf "mean_spins" "mean_spins" (defArgs st_mean_spins) (defBody st_mean_spins) (defScope st_mean_spins) .none kV38 dc38 pm38 an38 cd38 ct38), sl38⟩)
    (c_38 : PySem.W.codeIn K cd38 "mean_spins" = true)
    (k_38 : PySem.W.keepIn K (.ref f38) = true)
    (a_by_span : PySem.W.nsIn K mainGlobals "by_span" = some (some (.ref f39)))
    (l_39 : K.lookup f39 = some ⟨oc39, od39, .func (PySem.W.fnOf "by_span" "by_span" (defArgs st_by_span) (defBody st_by_span) (defScope st_by_span) .none kV39 dc39 pm39 an39 cd39 ct39), sl39⟩)
    (c_39 : PySem.W.codeIn K cd39 "by_span" = true)
    (k_39 : PySem.W.keepIn K (.ref f39) = true)
    (a_span_mean : PySem.W.nsIn K mainGlobals "span_mean" = some (some (.ref f40)))
    (l_40 : K.lookup f40 = some ⟨oc40, od40, .func (PySem.W.fnOf "span_mean" "span_mean" (defArgs st_span_mean) (defBody st_span_mean) (defScope st_span_mean) .none kV40 dc40 pm40 an40 cd40 ct40), sl40⟩)
    (c_40 : PySem.W.codeIn K cd40 "span_mean" = true)
    (k_40 : PySem.W.keepIn K (.ref f40) = true)
    (a_mean_by_span : PySem.W.nsIn K mainGlobals "mean_by_span" = some (some (.ref f41)))
    (l_41 : K.lookup f41 = some ⟨oc41, od41, .func (PySem.W.fnOf "mean_by_span" "mean_by_span" (defArgs st_mean_by_span) (defBody st_mean_by_span) (defScope st_mean_by_span) .none kV41 dc41 pm41 an41 cd41 ct41), sl41⟩)
    (c_41 : PySem.W.codeIn K cd41 "mean_by_span" = true)
    (k_41 : PySem.W.keepIn K (.ref f41) = true)
    (a_law : PySem.W.nsIn K mainGlobals "law" = some (some (.ref f42)))
    (l_42 : K.lookup f42 = some ⟨oc42, od42, .func (PySem.W.fnOf "law" "law" (defArgs st_law) (defBody st_law) (defScope st_law) .none kV42 dc42 pm42 an42 cd42 ct42), sl42⟩)
    (c_42 : PySem.W.codeIn K cd42 "law" = true)
    (k_42 : PySem.W.keepIn K (.ref f42) = true) :
    ∃ fd : FuncData, (∀ (s : Shared) (v : Value), BindsTo s fd ⟨[v], []⟩ [("script", v)]) ∧ ∀ base : Heap, K.In base → base.Ns mainGlobals mg → FnOk l.prog w K mg base CX0 7 fa fd ["script"] (spD w K cl0 1 false f_law) := by
  have e := hfa.symm.trans (PySem.W.mg_of X G a_law)
  cases e
  have F0 := fun_mk (st := st_is_fraction) l_0 c_0 k_0
  have F1 := fun_mk (st := st_fraction) l_1 c_1 k_1
  have F2 := fun_mk (st := st_is_less) l_2 c_2 k_2
  have F3 := fun_mk (st := st_check_machine) l_3 c_3 k_3
  have F4 := fun_mk (st := st_is_met) l_4 c_4 k_4
  have F5 := fun_mk (st := st_stops_of) l_5 c_5 k_5
  have F6 := fun_mk (st := st_sets_of) l_6 c_6 k_6
  have F7 := fun_mk (st := st_check_range) l_7 c_7 k_7
  have F8 := fun_mk (st := st__law_draws) l_8 c_8 k_8
  have F9 := fun_mk (st := st__law_mix) l_9 c_9 k_9
  have F10 := fun_mk (st := st__law_low) l_10 c_10 k_10
  have F11 := fun_mk (st := st_plus) l_11 c_11 k_11
  have F12 := fun_mk (st := st_minus) l_12 c_12 k_12
  have F13 := fun_mk (st := st_times) l_13 c_13 k_13
  have F14 := fun_mk (st := st_over) l_14 c_14 k_14
  have F15 := fun_mk (st := st_check_stops) l_15 c_15 k_15
  have F16 := fun_mk (st := st_first_met) l_16 c_16 k_16
  have F17 := fun_mk (st := st_check_lights) l_17 c_17 k_17
  have F18 := fun_mk (st := st_check_hold) l_18 c_18 k_18
  have F19 := fun_mk (st := st__law_plus) l_19 c_19 k_19
  have F20 := fun_mk (st := st__law_times) l_20 c_20 k_20
  have F21 := fun_mk (st := st_total) l_21 c_21 k_21
  have F22 := fun_mk (st := st_paid_of) l_22 c_22 k_22
  have F23 := fun_mk (st := st_parts_of) l_23 c_23 k_23
  have F24 := fun_mk (st := st_check_held) l_24 c_24 k_24
  have F25 := fun_mk (st := st_power) l_25 c_25 k_25
  have F26 := fun_mk (st := st_light_chance) l_26 c_26 k_26
  have F27 := fun_mk (st := st_mean_rounds) l_27 c_27 k_27
  have F28 := fun_mk (st := st_paid) l_28 c_28 k_28
  have F29 := fun_mk (st := st_mean_of) l_29 c_29 k_29
  have F30 := fun_mk (st := st_hits) l_30 c_30 k_30
  have F31 := fun_mk (st := st_by_pattern) l_31 c_31 k_31
  have F32 := fun_mk (st := st_span_chance) l_32 c_32 k_32
  have F33 := fun_mk (st := st_by_hold) l_33 c_33 k_33
  have F34 := fun_mk (st := st_share) l_34 c_34 k_34
  have F35 := fun_mk (st := st_mean_held) l_35 c_35 k_35
  have F36 := fun_mk (st := st_best_held) l_36 c_36 k_36
  have F37 := fun_mk (st := st_streak) l_37 c_37 k_37
  have F38 := fun_mk (st := st_mean_spins) l_38 c_38 k_38
  have F39 := fun_mk (st := st_by_span) l_39 c_39 k_39
  have F40 := fun_mk (st := st_span_mean) l_40 c_40 k_40
  have F41 := fun_mk (st := st_mean_by_span) l_41 c_41 k_41
  have F42 := fun_mk (st := st_law) l_42 c_42 k_42
  have T : Fx w K mg := {
    b_abs := PySem.W.mg_none_of X G z_abs
    b_all := PySem.W.mg_none_of X G z_all
    b_enumerate := PySem.W.mg_none_of X G z_enumerate
    b_int := PySem.W.mg_none_of X G z_int
    b_len := PySem.W.mg_none_of X G z_len
    b_list := PySem.W.mg_none_of X G z_list
    b_max := PySem.W.mg_none_of X G z_max
    b_min := PySem.W.mg_none_of X G z_min
    b_range := PySem.W.mg_none_of X G z_range
    b_set := PySem.W.mg_none_of X G z_set
    b_sorted := PySem.W.mg_none_of X G z_sorted
    b_sum := PySem.W.mg_none_of X G z_sum
    b_zip := PySem.W.mg_none_of X G z_zip
    b_gcd := PySem.W.mg_of X G z_gcd
    k_ANY := Kon.stx (PySem.W.mg_of X G q_ANY)
    k_LEAST_LIGHTS := Kon.int (PySem.W.mg_of X G q_LEAST_LIGHTS)
    k_MOST_COINS := Kon.int (PySem.W.mg_of X G q_MOST_COINS)
    k_MOST_LENGTH := Kon.int (PySem.W.mg_of X G q_MOST_LENGTH)
    k_MOST_LIGHTS := Kon.int (PySem.W.mg_of X G q_MOST_LIGHTS)
    k_MOST_PAYS := Kon.int (PySem.W.mg_of X G q_MOST_PAYS)
    k_MOST_PLACES := Kon.int (PySem.W.mg_of X G q_MOST_PLACES)
    k_MOST_ROUNDS := Kon.int (PySem.W.mg_of X G q_MOST_ROUNDS)
    k_MOST_ROW := Kon.int (PySem.W.mg_of X G q_MOST_ROW)
    k_MOST_SPINS := Kon.int (PySem.W.mg_of X G q_MOST_SPINS)
    k_MOST_STRIPS := Kon.int (PySem.W.mg_of X G q_MOST_STRIPS)
    k_NOUGHT_held := Kon.of (PySem.W.mg_of X G q_NOUGHT_held) ((.tup l_NOUGHT_held_1 (Nat.le_of_ble_eq_true rfl) (.cons (.int _ _) (.cons (.int _ _) .nil))))
    k_NOUGHT_memory := Kon.of (PySem.W.mg_of X G q_NOUGHT_memory) ((.tup l_NOUGHT_memory_1 (Nat.le_of_ble_eq_true rfl) (.cons (.int _ _) (.cons (.int _ _) .nil))))
    k_ONE_held := Kon.of (PySem.W.mg_of X G q_ONE_held) ((.tup l_ONE_held_1 (Nat.le_of_ble_eq_true rfl) (.cons (.int _ _) (.cons (.int _ _) .nil))))
    k_ONE_memory := Kon.of (PySem.W.mg_of X G q_ONE_memory) ((.tup l_ONE_memory_1 (Nat.le_of_ble_eq_true rfl) (.cons (.int _ _) (.cons (.int _ _) .nil))))
    k_SIGNS := Kon.stx (PySem.W.mg_of X G q_SIGNS)
    g_is_fraction := ⟨_, _, F0, PySem.W.mg_of X G a_is_fraction, F0.binds (ps := ["told"]) fun _ _ _ _ _ _ us hl => match us, hl with | [_], _ => rfl⟩
    g_fraction := ⟨_, _, F1, PySem.W.mg_of X G a_fraction, F1.binds (ps := ["number", "by"]) fun _ _ _ _ _ _ us hl => match us, hl with | [_, _], _ => rfl⟩
    g_is_less := ⟨_, _, F2, PySem.W.mg_of X G a_is_less, F2.binds (ps := ["one", "two"]) fun _ _ _ _ _ _ us hl => match us, hl with | [_, _], _ => rfl⟩
    g_check_machine := ⟨_, _, F3, PySem.W.mg_of X G a_check_machine, F3.binds (ps := ["machine"]) fun _ _ _ _ _ _ us hl => match us, hl with | [_], _ => rfl⟩
    g_is_met := ⟨_, _, F4, PySem.W.mg_of X G a_is_met, F4.binds (ps := ["machine", "pattern", "stops"]) fun _ _ _ _ _ _ us hl => match us, hl with | [_, _, _], _ => rfl⟩
    g_stops_of := ⟨_, _, F5, PySem.W.mg_of X G a_stops_of, F5.binds (ps := ["machine", "fixed"]) fun _ _ _ _ _ _ us hl => match us, hl with | [_, _], _ => rfl⟩
    g_sets_of := ⟨_, _, F6, PySem.W.mg_of X G a_sets_of, F6.binds (ps := ["many"]) fun _ _ _ _ _ _ us hl => match us, hl with | [_], _ => rfl⟩
    g_check_range := ⟨_, _, F7, PySem.W.mg_of X G a_check_range, F7.binds (ps := ["number", "least", "most"]) fun _ _ _ _ _ _ us hl => match us, hl with | [_, _, _], _ => rfl⟩
    g__law_draws := ⟨_, _, F8, PySem.W.mg_of X G a__law_draws, F8.binds (ps := ["script"]) fun _ _ _ _ _ _ us hl => match us, hl with | [_], _ => rfl⟩
    g__law_mix := ⟨_, _, F9, PySem.W.mg_of X G a__law_mix, F9.binds (ps := ["draws", "k", "many"]) fun _ _ _ _ _ _ us hl => match us, hl with | [_, _, _], _ => rfl⟩
    g__law_low := ⟨_, _, F10, PySem.W.mg_of X G a__law_low, F10.binds (ps := ["number", "by"]) fun _ _ _ _ _ _ us hl => match us, hl with | [_, _], _ => rfl⟩
    g_plus := ⟨_, _, F11, PySem.W.mg_of X G a_plus, F11.binds (ps := ["one", "two"]) fun _ _ _ _ _ _ us hl => match us, hl with | [_, _], _ => rfl⟩
    g_minus := ⟨_, _, F12, PySem.W.mg_of X G a_minus, F12.binds (ps := ["one", "two"]) fun _ _ _ _ _ _ us hl => match us, hl with | [_, _], _ => rfl⟩
    g_times := ⟨_, _, F13, PySem.W.mg_of X G a_times, F13.binds (ps := ["one", "two"]) fun _ _ _ _ _ _ us hl => match us, hl with | [_, _], _ => rfl⟩
    g_over := ⟨_, _, F14, PySem.W.mg_of X G a_over, F14.binds (ps := ["one", "two"]) fun _ _ _ _ _ _ us hl => match us, hl with | [_, _], _ => rfl⟩
    g_check_stops := ⟨_, _, F15, PySem.W.mg_of X G a_check_stops, F15.binds (ps := ["machine", "stops"]) fun _ _ _ _ _ _ us hl => match us, hl with | [_, _], _ => rfl⟩
    g_first_met := ⟨_, _, F16, PySem.W.mg_of X G a_first_met, F16.binds (ps := ["machine", "stops"]) fun _ _ _ _ _ _ us hl => match us, hl with | [_, _], _ => rfl⟩
    g_check_lights := ⟨_, _, F17, PySem.W.mg_of X G a_check_lights, F17.binds (ps := ["lights"]) fun _ _ _ _ _ _ us hl => match us, hl with | [_], _ => rfl⟩
    g_check_hold := ⟨_, _, F18, PySem.W.mg_of X G a_check_hold, F18.binds (ps := ["hold"]) fun _ _ _ _ _ _ us hl => match us, hl with | [_], _ => rfl⟩
    g__law_plus := ⟨_, _, F19, PySem.W.mg_of X G a__law_plus, F19.binds (ps := ["one", "two"]) fun _ _ _ _ _ _ us hl => match us, hl with | [_, _], _ => rfl⟩
    g__law_times := ⟨_, _, F20, PySem.W.mg_of X G a__law_times, F20.binds (ps := ["one", "two"]) fun _ _ _ _ _ _ us hl => match us, hl with | [_, _], _ => rfl⟩
    g_total := ⟨_, _, F21, PySem.W.mg_of X G a_total, F21.binds (ps := ["told"]) fun _ _ _ _ _ _ us hl => match us, hl with | [_], _ => rfl⟩
    g_paid_of := ⟨_, _, F22, PySem.W.mg_of X G a_paid_of, F22.binds (ps := ["machine", "stops"]) fun _ _ _ _ _ _ us hl => match us, hl with | [_, _], _ => rfl⟩
    g_parts_of := ⟨_, _, F23, PySem.W.mg_of X G a_parts_of, F23.binds (ps := ["machine"]) fun _ _ _ _ _ _ us hl => match us, hl with | [_], _ => rfl⟩
    g_check_held := ⟨_, _, F24, PySem.W.mg_of X G a_check_held, F24.binds (ps := ["machine", "stops", "held"]) fun _ _ _ _ _ _ us hl => match us, hl with | [_, _, _], _ => rfl⟩
    g_power := ⟨_, _, F25, PySem.W.mg_of X G a_power, F25.binds (ps := ["part", "many"]) fun _ _ _ _ _ _ us hl => match us, hl with | [_, _], _ => rfl⟩
    g_light_chance := ⟨_, _, F26, PySem.W.mg_of X G a_light_chance, F26.binds (ps := ["lights", "hold"]) fun _ _ _ _ _ _ us hl => match us, hl with | [_, _], _ => rfl⟩
    g_mean_rounds := ⟨_, _, F27, PySem.W.mg_of X G a_mean_rounds, F27.binds (ps := ["chances"]) fun _ _ _ _ _ _ us hl => match us, hl with | [_], _ => rfl⟩
    g_paid := ⟨_, _, F28, PySem.W.mg_of X G a_paid, F28.binds (ps := ["machine", "stops"]) fun _ _ _ _ _ _ us hl => match us, hl with | [_, _], _ => rfl⟩
    g_mean_of := ⟨_, _, F29, PySem.W.mg_of X G a_mean_of, F29.binds (ps := ["machine", "fixed"]) fun _ _ _ _ _ _ us hl => match us, hl with | [_, _], _ => rfl⟩
    g_hits := ⟨_, _, F30, PySem.W.mg_of X G a_hits, F30.binds (ps := ["machine"]) fun _ _ _ _ _ _ us hl => match us, hl with | [_], _ => rfl⟩
    g_by_pattern := ⟨_, _, F31, PySem.W.mg_of X G a_by_pattern, F31.binds (ps := ["machine"]) fun _ _ _ _ _ _ us hl => match us, hl with | [_], _ => rfl⟩
    g_span_chance := ⟨_, _, F32, PySem.W.mg_of X G a_span_chance, F32.binds (ps := ["lights", "span", "length"]) fun _ _ _ _ _ _ us hl => match us, hl with | [_, _, _], _ => rfl⟩
    g_by_hold := ⟨_, _, F33, PySem.W.mg_of X G a_by_hold, F33.binds (ps := ["lights", "hold", "length"]) fun _ _ _ _ _ _ us hl => match us, hl with | [_, _, _], _ => rfl⟩
    g_share := ⟨_, _, F34, PySem.W.mg_of X G a_share, F34.binds (ps := ["machine", "price"]) fun _ _ _ _ _ _ us hl => match us, hl with | [_, _], _ => rfl⟩
    g_mean_held := ⟨_, _, F35, PySem.W.mg_of X G a_mean_held, F35.binds (ps := ["machine", "stops", "held"]) fun _ _ _ _ _ _ us hl => match us, hl with | [_, _, _], _ => rfl⟩
    g_best_held := ⟨_, _, F36, PySem.W.mg_of X G a_best_held, F36.binds (ps := ["machine", "stops"]) fun _ _ _ _ _ _ us hl => match us, hl with | [_, _], _ => rfl⟩
    g_streak := ⟨_, _, F37, PySem.W.mg_of X G a_streak, F37.binds (ps := ["machine", "spins", "length"]) fun _ _ _ _ _ _ us hl => match us, hl with | [_, _, _], _ => rfl⟩
    g_mean_spins := ⟨_, _, F38, PySem.W.mg_of X G a_mean_spins, F38.binds (ps := ["machine"]) fun _ _ _ _ _ _ us hl => match us, hl with | [_], _ => rfl⟩
    g_by_span := ⟨_, _, F39, PySem.W.mg_of X G a_by_span, F39.binds (ps := ["lights", "span", "length"]) fun _ _ _ _ _ _ us hl => match us, hl with | [_, _, _], _ => rfl⟩
    g_span_mean := ⟨_, _, F40, PySem.W.mg_of X G a_span_mean, F40.binds (ps := ["lights", "span", "rounds"]) fun _ _ _ _ _ _ us hl => match us, hl with | [_, _, _], _ => rfl⟩
    g_mean_by_span := ⟨_, _, F41, PySem.W.mg_of X G a_mean_by_span, F41.binds (ps := ["lights", "span", "rounds"]) fun _ _ _ _ _ _ us hl => match us, hl with | [_, _, _], _ => rfl⟩
    g_law := ⟨_, _, F42, PySem.W.mg_of X G a_law, F42.binds (ps := ["script"]) fun _ _ _ _ _ _ us hl => match us, hl with | [_], _ => rfl⟩
  }
  exact ⟨PySem.W.fnOf "law" "law" (defArgs st_law) (defBody st_law) (defScope st_law) .none kV42 dc42 pm42 an42 cd42 ct42, fun s v => .of_eq rfl, fun base _ _ => o_law T F42⟩
end Gk92
open PySem PySem.W PyProof.Rows
set_option maxHeartbeats 0 in
theorem PySem.Challenge.cw_arcadeheld_k92_whole_reels_as_guesses_holds : PySem.Challenge.rw_arcadeheld_k92_whole_reels_as_guesses.Holds := by
  w_on; o_law; k_head; (case hw => w_witness2)
  k_fill
  refine L2.walk_of (l := PySem.Challenge.rw_arcadeheld_k92_whole_reels_as_guesses) (n := 63) (k := 7) (x := "script") (CX := fun _ => L2.CX0) (sp := fun w => Vs.spD w _ Gk92.cl0 1 false Gk92.f_law) rfl (by decide) rfl ⟨rfl, by decide, by decide⟩ (fun w h Y => PySem.W.kIn_of Y) ?F (fun _ _ a ns hl _ hS => Vs.sp_law hS (Gk92.law_true ns hl)) (fun _ _ _ _ _ h => h)
  case F =>
    intro w mg fa h KX G hmg
    refine' Gk92.all_mk KX G hmg ?z_abs ?z_all ?z_enumerate ?z_int ?z_len ?z_list ?z_max ?z_min ?z_range ?z_set ?z_sorted ?z_sum ?z_zip ?z_gcd ?q_ANY ?q_LEAST_LIGHTS ?q_MOST_COINS ?q_MOST_LENGTH ?q_MOST_LIGHTS ?q_MOST_PAYS ?q_MOST_PLACES ?q_MOST_ROUNDS ?q_MOST_ROW ?q_MOST_SPINS ?q_MOST_STRIPS ?q_NOUGHT_held ?l_NOUGHT_held_1 ?q_NOUGHT_memory ?l_NOUGHT_memory_1 ?q_ONE_held ?l_ONE_held_1 ?q_ONE_memory ?l_ONE_memory_1 ?q_SIGNS ?a_is_fraction ?l_0 ?c_0 ?k_0 ?a_fraction ?l_1 ?c_1 ?k_1 ?a_is_less ?l_2 ?c_2 ?k_2 ?a_check_machine ?l_3 ?c_3 ?k_3 ?a_is_met ?l_4 ?c_4 ?k_4 ?a_stops_of ?l_5 ?c_5 ?k_5 ?a_sets_of ?l_6 ?c_6 ?k_6 ?a_check_range ?l_7 ?c_7 ?k_7 ?a__law_draws ?l_8 ?c_8 ?k_8 ?a__law_mix ?l_9 ?c_9 ?k_9 ?a__law_low ?l_10 ?c_10 ?k_10 ?a_plus ?l_11 ?c_11 ?k_11 ?a_minus ?l_12 ?c_12 ?k_12 ?a_times ?l_13 ?c_13 ?k_13 ?a_over ?l_14 ?c_14 ?k_14 ?a_check_stops ?l_15 ?c_15 ?k_15 ?a_first_met ?l_16 ?c_16 ?k_16 ?a_check_lights ?l_17 ?c_17 ?k_17 ?a_check_hold ?l_18 ?c_18 ?k_18 ?a__law_plus ?l_19 ?c_19 ?k_19 ?a__law_times ?l_20 ?c_20 ?k_20 ?a_total ?l_21 ?c_21 ?k_21 ?a_paid_of ?l_22 ?c_22 ?k_22 ?a_parts_of ?l_23 ?c_23 ?k_23 ?a_check_held ?l_24 ?c_24 ?k_24 ?a_power ?l_25 ?c_25 ?k_25 ?a_light_chance ?l_26 ?c_26 ?k_26 ?a_mean_rounds ?l_27 ?c_27 ?k_27 ?a_paid ?l_28 ?c_28 ?k_28 ?a_mean_of ?l_29 ?c_29 ?k_29 ?a_hits ?l_30 ?c_30 ?k_30 ?a_by_pattern ?l_31 ?c_31 ?k_31 ?a_span_chance ?l_32 ?c_32 ?k_32 ?a_by_hold ?l_33 ?c_33 ?k_33 ?a_share ?l_34 ?c_34 ?k_34 ?a_mean_held ?l_35 ?c_35 ?k_35 ?a_best_held ?l_36 ?c_36 ?k_36 ?a_streak ?l_37 ?c_37 ?k_37 ?a_mean_spins ?l_38 ?c_38 ?k_38 ?a_by_span ?l_39 ?c_39 ?k_39 ?a_span_mean ?l_40 ?c_40 ?k_40 ?a_mean_by_span ?l_41 ?c_41 ?k_41 ?a_law ?l_42 ?c_42 ?k_42
    (case z_abs => k_is)
    (case z_all => k_is)
    (case z_enumerate => k_is)
    (case z_int => k_is)
    (case z_len => k_is)
    (case z_list => k_is)
    (case z_max => k_is)
    (case z_min => k_is)
    (case z_range => k_is)
    (case z_set => k_is)
    (case z_sorted => k_is)
    (case z_sum => k_is)
    (case z_zip => k_is)
    (case z_gcd => k_is)
    (case q_ANY => k_is)
    (case q_LEAST_LIGHTS => k_is)
    (case q_MOST_COINS => k_is)
    (case q_MOST_LENGTH => k_is)
    (case q_MOST_LIGHTS => k_is)
    (case q_MOST_PAYS => k_is)
    (case q_MOST_PLACES => k_is)
    (case q_MOST_ROUNDS => k_is)
    (case q_MOST_ROW => k_is)
    (case q_MOST_SPINS => k_is)
    (case q_MOST_STRIPS => k_is)
    (case q_NOUGHT_held => k_is)
    (case l_NOUGHT_held_1 => k_is)
    (case q_NOUGHT_memory => k_is)
    (case l_NOUGHT_memory_1 => k_is)
    (case q_ONE_held => k_is)
    (case l_ONE_held_1 => k_is)
    (case q_ONE_memory => k_is)
    (case l_ONE_memory_1 => k_is)
    (case q_SIGNS => k_is)
    (case a_is_fraction => k_is)
    (case l_0 => k_is)
    (case c_0 => k_is)
    (case k_0 => k_is)
    (case a_fraction => k_is)
    (case l_1 => k_is)
    (case c_1 => k_is)
    (case k_1 => k_is)
    (case a_is_less => k_is)
    (case l_2 => k_is)
    (case c_2 => k_is)
    (case k_2 => k_is)
    (case a_check_machine => k_is)
    (case l_3 => k_is)
    (case c_3 => k_is)
    (case k_3 => k_is)
    (case a_is_met => k_is)
    (case l_4 => k_is)
    (case c_4 => k_is)
    (case k_4 => k_is)
    (case a_stops_of => k_is)
    (case l_5 => k_is)
    (case c_5 => k_is)
    (case k_5 => k_is)
    (case a_sets_of => k_is)
    (case l_6 => k_is)
    (case c_6 => k_is)
    (case k_6 => k_is)
    (case a_check_range => k_is)
    (case l_7 => k_is)
    (case c_7 => k_is)
    (case k_7 => k_is)
    (case a__law_draws => k_is)
    (case l_8 => k_is)
    (case c_8 => k_is)
    (case k_8 => k_is)
    (case a__law_mix => k_is)
    (case l_9 => k_is)
    (case c_9 => k_is)
    (case k_9 => k_is)
    (case a__law_low => k_is)
    (case l_10 => k_is)
    (case c_10 => k_is)
    (case k_10 => k_is)
    (case a_plus => k_is)
    (case l_11 => k_is)
    (case c_11 => k_is)
    (case k_11 => k_is)
    (case a_minus => k_is)
    (case l_12 => k_is)
    (case c_12 => k_is)
    (case k_12 => k_is)
    (case a_times => k_is)
    (case l_13 => k_is)
    (case c_13 => k_is)
    (case k_13 => k_is)
    (case a_over => k_is)
    (case l_14 => k_is)
    (case c_14 => k_is)
    (case k_14 => k_is)
    (case a_check_stops => k_is)
    (case l_15 => k_is)
    (case c_15 => k_is)
    (case k_15 => k_is)
    (case a_first_met => k_is)
    (case l_16 => k_is)
    (case c_16 => k_is)
    (case k_16 => k_is)
    (case a_check_lights => k_is)
    (case l_17 => k_is)
    (case c_17 => k_is)
    (case k_17 => k_is)
    (case a_check_hold => k_is)
    (case l_18 => k_is)
    (case c_18 => k_is)
    (case k_18 => k_is)
    (case a__law_plus => k_is)
    (case l_19 => k_is)
    (case c_19 => k_is)
    (case k_19 => k_is)
    (case a__law_times => k_is)
    (case l_20 => k_is)
    (case c_20 => k_is)
    (case k_20 => k_is)
    (case a_total => k_is)
    (case l_21 => k_is)
    (case c_21 => k_is)
    (case k_21 => k_is)
    (case a_paid_of => k_is)
    (case l_22 => k_is)
    (case c_22 => k_is)
    (case k_22 => k_is)
    (case a_parts_of => k_is)
    (case l_23 => k_is)
    (case c_23 => k_is)
    (case k_23 => k_is)
    (case a_check_held => k_is)
    (case l_24 => k_is)
    (case c_24 => k_is)
    (case k_24 => k_is)
    (case a_power => k_is)
    (case l_25 => k_is)
    (case c_25 => k_is)
    (case k_25 => k_is)
    (case a_light_chance => k_is)
    (case l_26 => k_is)
    (case c_26 => k_is)
    (case k_26 => k_is)
    (case a_mean_rounds => k_is)
    (case l_27 => k_is)
    (case c_27 => k_is)
    (case k_27 => k_is)
    (case a_paid => k_is)
    (case l_28 => k_is)
    (case c_28 => k_is)
    (case k_28 => k_is)
    (case a_mean_of => k_is)
    (case l_29 => k_is)
    (case c_29 => k_is)
    (case k_29 => k_is)
    (case a_hits => k_is)
    (case l_30 => k_is)
    (case c_30 => k_is)
    (case k_30 => k_is)
    (case a_by_pattern => k_is)
    (case l_31 => k_is)
    (case c_31 => k_is)
    (case k_31 => k_is)
    (case a_span_chance => k_is)
    (case l_32 => k_is)
    (case c_32 => k_is)
    (case k_32 => k_is)
    (case a_by_hold => k_is)
    (case l_33 => k_is)
    (case c_33 => k_is)
    (case k_33 => k_is)
    (case a_share => k_is)
    (case l_34 => k_is)
    (case c_34 => k_is)
    (case k_34 => k_is)
    (case a_mean_held => k_is)
    (case l_35 => k_is)
    (case c_35 => k_is)
    (case k_35 => k_is)
    (case a_best_held => k_is)
    (case l_36 => k_is)
    (case c_36 => k_is)
    (case k_36 => k_is)
    (case a_streak => k_is)
    (case l_37 => k_is)
    (case c_37 => k_is)
    (case k_37 => k_is)
    (case a_mean_spins => k_is)
    (case l_38 => k_is)
    (case c_38 => k_is)
    (case k_38 => k_is)
    (case a_by_span => k_is)
    (case l_39 => k_is)
    (case c_39 => k_is)
    (case k_39 => k_is)
    (case a_span_mean => k_is)
    (case l_40 => k_is)
    (case c_40 => k_is)
    (case k_40 => k_is)
    (case a_mean_by_span => k_is)
    (case l_41 => k_is)
    (case c_41 => k_is)
    (case k_41 => k_is)
    (case a_law => k_is)
    (case l_42 => k_is)
    (case c_42 => k_is)
    (case k_42 => k_is)
