import PyProof.Rows.All
import Wide.All
import OpenK.AllK
import Wide.FinOn
import HandS.ForMost
import HandS.Deep
import HandS.Flow
import HandS.Style
import HandS.TupAny
import HandS.Star
import HandS.TupMul
import KE.SortData
import HandS.ExcValue
import HandS.ExcOwn
import PyProof.Rows.SetFrom
import HandS.SetKeys
import PyProof.StrBlock2
import PyProof.Rows.StrCountLaw
import PySem.Challenge.RW_arcadeheld_k94_whole_bots_that_turn_roun
set_option Elab.async false
set_option linter.all false
set_option maxRecDepth 100000
/-! Values as data: a def's meaning as a plain Lean function over data, and the rules that carry it to the model. -/
namespace Vs
open PySem PySem.Spec PyProof.Rows L2

abbrev D := PyData
/-- no answer: the code comes to what is not told here; or an own error, by its number and what it bears -/
inductive Er where
  | stuck
  | exc (c : Nat) (a : D)
abbrev R (α : Type) := Except Er α
abbrev stk {α : Type} : R α := .error .stuck
def gd {α : Type} (r : R α) (q : α → Prop) (e : Nat → D → Prop) : Prop := match r with
  | .ok a => q a
  | .error .stuck => False
  | .error (.exc c a) => e c a
theorem gd_bind {α β : Type} {x : R α} {f : α → R β} {q : β → Prop} {e : Nat → D → Prop} : gd (x >>= f) q e ↔ gd x (fun a => gd (f a) q e) e := by
  cases x with
  | ok a => exact Iff.rfl
  | error er => cases er <;> exact Iff.rfl
theorem gd_ok {α : Type} {a : α} {q : α → Prop} {e : Nat → D → Prop} : gd (.ok a) q e ↔ q a := Iff.rfl
theorem gd_pure {α : Type} {a : α} {q : α → Prop} {e : Nat → D → Prop} : gd (pure a) q e ↔ q a := Iff.rfl
theorem gd_mono {α : Type} {x : R α} {q q' : α → Prop} {e : Nat → D → Prop} (h : gd x q e) (hq : ∀ a, q a → q' a) : gd x q' e := by
  cases x with
  | ok a => exact hq a h
  | error er => cases er <;> exact h
theorem gd_mono2 {α : Type} {x : R α} {q q' : α → Prop} {e e' : Nat → D → Prop} (h : gd x q e) (hq : ∀ a, q a → q' a) (he : ∀ c a, e c a → e' c a) : gd x q' e' := by
  cases x with
  | ok a => exact hq a h
  | error er =>
    cases er with
    | stuck => exact h
    | exc c a => exact he c a h

abbrev Env' := List (Option D)
def gv (ρ : Env') (i : Nat) : R D := match ρ[i]? with
  | some (some d) => .ok d
  | _ => stk

/-! ### data in the abstract heap -/
/-- a dict whose object is known -/
def dO (a : Addr) (o : Obj) : HO := .ext fun h => h.get? a = some o
def DcA (K : PySem.W.Frag) (G : Hp) (a : Addr) (o : Obj) : Prop := G a = some (dO a o) ∨ K.lookup a = some o
mutual
def hashD (w : World) : D → Int
  | .int i => hashInt i
  | .str x => hashStr w x
  | .tuple xs => reduceHash (Builtin.Tuple.tupleHashOf (hashAll w xs))
  | _ => 0
def hashAll (w : World) : List D → List Int
  | [] => []
  | d :: ds => hashD w d :: hashAll w ds
end
mutual
inductive Dt (w : World) (K : PySem.W.Frag) (G : Hp) : V → D → Prop
  | non : Dt w K G .non .none
  | bl (b : Bool) : Dt w K G (.bl b) (.bool b)
  | int (i : Int) : Dt w K G (.int i) (.int i)
  | str (x : Str) : Dt w K G (.str x) (.str x)
  | lst {a : Addr} {xs : List V} {ds : List D} : Rd G a (.lst xs) → DtAll w K G xs ds → Dt w K G (.ref a) (.list ds)
  | tup {a : Addr} {xs : List V} {ds : List D} : SqT K G a xs → DtAll w K G xs ds → Dt w K G (.ref a) (.tuple ds)
  | dct {a : Addr} {o : Obj} {es : Array DictEntry} {ep : Nat} {kvs : List (D × D)} : DcA K G a o → (a == sysModules) = false → o.ExactDict → o.data = .dict es ep → DtEs w K G es.toList kvs → (kvs.map (·.1)).Nodup → Dt w K G (.ref a) (.dict kvs)
  | scr {a : Addr} {xs : List V} {ds : List D} : SqL K G a xs → DtAll w K G xs ds → Dt w K G (.ref a) (.dict [(.none, .list ds), (.none, .none)])
inductive DtAll (w : World) (K : PySem.W.Frag) (G : Hp) : List V → List D → Prop
  | nil : DtAll w K G [] []
  | cons {v : V} {vs : List V} {d : D} {ds : List D} : Dt w K G v d → DtAll w K G vs ds → DtAll w K G (v :: vs) (d :: ds)
inductive DtEs (w : World) (K : PySem.W.Frag) (G : Hp) : List DictEntry → List (D × D) → Prop
  | nil : DtEs w K G [] []
  | cons {e : DictEntry} {kv vv : V} {dk dv : D} {es : List DictEntry} {kvs : List (D × D)} : RelV kv e.key → Dt w K G kv dk → e.hash = hashD w dk → RelV vv e.val → Dt w K G vv dv → DtEs w K G es kvs → DtEs w K G (e :: es) ((dk, dv) :: kvs)
end

/-- a part of the heap in another -/
def Sub (G H : Hp) : Prop := ∀ a o, G a = some o → H a = some o
theorem Sub.refl (G : Hp) : Sub G G := fun _ _ h => h
theorem Sub.trans {G H H' : Hp} (a : Sub G H) (b : Sub H H') : Sub G H' := fun c o h => b c o (a c o h)
theorem SqL.sub {K : PySem.W.Frag} {G G' : Hp} {a : Addr} {xs : List V} (s : Sub G G') (h : SqL K G a xs) : SqL K G' a xs := by
  rcases h with (h | ⟨o, h⟩) | h
  · exact .inl (.inl (s _ _ h))
  · exact .inl (.inr ⟨o, s _ _ h⟩)
  · exact .inr h
theorem Rd.sub {G G' : Hp} {a : Addr} {u : HO} (s : Sub G G') (h : Rd G a u) : Rd G' a u := by
  rcases h with h | ⟨o, h⟩
  · exact .inl (s _ _ h)
  · exact .inr ⟨o, s _ _ h⟩
theorem Rd.sq {K : PySem.W.Frag} {G : Hp} {a : Addr} {xs : List V} (h : Rd G a (.lst xs)) : SqL K G a xs := .inl h
theorem SqT.sub {K : PySem.W.Frag} {G G' : Hp} {a : Addr} {xs : List V} (s : Sub G G') (h : SqT K G a xs) : SqT K G' a xs := by
  rcases h with (h | ⟨o, h⟩) | h
  · exact .inl (.inl (s _ _ h))
  · exact .inl (.inr ⟨o, s _ _ h⟩)
  · exact .inr h
theorem DcA.sub {K : PySem.W.Frag} {G G' : Hp} {a : Addr} {o : Obj} (s : Sub G G') (h : DcA K G a o) : DcA K G' a o := h.imp (s _ _) id
section
variable {w : World} {K : PySem.W.Frag} {G G' : Hp}
mutual
theorem Dt.sub (s : Sub G G') : ∀ {v : V} {d : D}, Dt w K G v d → Dt w K G' v d
  | _, _, .non => .non
  | _, _, .bl b => .bl b
  | _, _, .int i => .int i
  | _, _, .str x => .str x
  | _, _, .lst h t => .lst (Rd.sub s h) (DtAll.sub s t)
  | _, _, .tup h t => .tup (SqT.sub s h) (DtAll.sub s t)
  | _, _, .dct h n x e t u => .dct (DcA.sub s h) n x e (DtEs.sub s t) u
  | _, _, .scr h t => .scr (SqL.sub s h) (DtAll.sub s t)
theorem DtAll.sub (s : Sub G G') : ∀ {vs : List V} {ds : List D}, DtAll w K G vs ds → DtAll w K G' vs ds
  | _, _, .nil => .nil
  | _, _, .cons h t => .cons (Dt.sub s h) (DtAll.sub s t)
theorem DtEs.sub (s : Sub G G') : ∀ {es : List DictEntry} {kvs : List (D × D)}, DtEs w K G es kvs → DtEs w K G' es kvs
  | _, _, .nil => .nil
  | _, _, .cons a b c d e t => .cons a (Dt.sub s b) c d (Dt.sub s e) (DtEs.sub s t)
end
theorem DtAll.length : ∀ {vs : List V} {ds : List D}, DtAll w K G vs ds → vs.length = ds.length
  | _, _, .nil => rfl
  | _, _, .cons _ t => by rw [List.length_cons, List.length_cons, t.length]
theorem DtAll.get : ∀ {vs : List V} {ds : List D} {i : Nat} {v : V}, DtAll w K G vs ds → vs[i]? = some v → ∃ d, ds[i]? = some d ∧ Dt w K G v d
  | _, _, _, _, .nil, h => by simp at h
  | _, _, 0, _, .cons h _, e => by simp at e; subst e; exact ⟨_, rfl, h⟩
  | _, _, i + 1, v, .cons _ t, e => by
    obtain ⟨d, h1, h2⟩ := DtAll.get (i := i) (v := v) t (by simpa using e)
    exact ⟨d, by simpa using h1, h2⟩
theorem DtAll.get' : ∀ {vs : List V} {ds : List D} {i : Nat} {d : D}, DtAll w K G vs ds → ds[i]? = some d → ∃ v, vs[i]? = some v ∧ Dt w K G v d
  | _, _, _, _, .nil, h => by simp at h
  | _, _, 0, _, .cons h _, e => by simp at e; subst e; exact ⟨_, rfl, h⟩
  | _, _, i + 1, v, .cons _ t, e => by
    obtain ⟨d, h1, h2⟩ := DtAll.get' (i := i) (d := v) t (by simpa using e)
    exact ⟨d, by simpa using h1, h2⟩
theorem DtAll.append : ∀ {vs vs' : List V} {ds ds' : List D}, DtAll w K G vs ds → DtAll w K G vs' ds' → DtAll w K G (vs ++ vs') (ds ++ ds')
  | _, _, _, _, .nil, s => s
  | _, _, _, _, .cons h t, s => .cons h (t.append s)
theorem DtAll.take : ∀ {vs : List V} {ds : List D} (n : Nat), DtAll w K G vs ds → DtAll w K G (vs.take n) (ds.take n)
  | _, _, 0, _ => .nil
  | _, _, _ + 1, .nil => .nil
  | _, _, n + 1, .cons h t => .cons h (t.take n)
theorem DtAll.drop : ∀ {vs : List V} {ds : List D} (n : Nat), DtAll w K G vs ds → DtAll w K G (vs.drop n) (ds.drop n)
  | _, _, 0, r => r
  | _, _, _ + 1, .nil => .nil
  | _, _, n + 1, .cons _ t => t.drop n
theorem DtAll.set {v : V} {d : D} (h : Dt w K G v d) : ∀ {vs : List V} {ds : List D} (i : Nat), DtAll w K G vs ds → DtAll w K G (vs.set i v) (ds.set i d)
  | _, _, _, .nil => .nil
  | _, _, 0, .cons _ t => .cons h t
  | _, _, i + 1, .cons q t => .cons q (DtAll.set h i t)
theorem DtAll.one {v : V} {d : D} (h : Dt w K G v d) : DtAll w K G [v] [d] := .cons h .nil
end

/-- the tracked heap grows, and the frozen part in it; what was tracked stays as it was, in both -/
structure Gr (G H G' H' : Hp) : Prop where
  sub : Sub G' H'
  keep : Sub H H'
  fix : ∀ a, H a ≠ none → G' a = G a
theorem Gr.refl {G H : Hp} (s : Sub G H) : Gr G H G H := ⟨s, Sub.refl _, fun _ _ => rfl⟩
theorem Gr.trans {G H G1 H1 G2 H2 : Hp} (a : Gr G H G1 H1) (b : Gr G1 H1 G2 H2) : Gr G H G2 H2 where
  sub := b.sub
  keep := a.keep.trans b.keep
  fix := fun x n => by
    rw [b.fix x fun z => ?_, a.fix x n]
    cases q : H x with
    | none => exact n q
    | some o => rw [a.keep x o q] at z; cases z
theorem Gr.up {G H G' H' : Hp} (g : Gr G H G' H') (s : Sub G H) : Sub G G' := fun a o h => by
  rw [g.fix a fun z => ?_]
  · exact h
  · rw [s a o h] at z; cases z
/-- a new object, frozen at once -/
theorem Gr.new {G H : Hp} {a : Addr} {o : HO} (s : Sub G H) (n : H a = none) : Gr G H (upd G a o) (upd H a o) where
  sub := fun b u h => by
    by_cases e : b = a
    · subst e; rw [upd_same] at h ⊢; exact h
    · rw [upd_ne e] at h ⊢; exact s b u h
  keep := fun b u h => by rw [upd_ne (ne_of_none h n)]; exact h
  fix := fun b h => upd_ne fun e => h (e ▸ n)
/-- a new object, not frozen -/
theorem Gr.own {G H : Hp} {a : Addr} {o : HO} (s : Sub G H) (n : H a = none) : Gr G H G (upd H a o) where
  sub := fun b u h => by rw [upd_ne (ne_of_none (s b u h) n)]; exact s b u h
  keep := fun b u h => by rw [upd_ne (ne_of_none h n)]; exact h
  fix := fun _ _ => rfl
/-- what is new is frozen -/
theorem Gr.frz {G H G' H' : Hp} {a : Addr} {o : HO} (g : Gr G H G' H') (n : H a = none) (h : H' a = some o) : Gr G H (upd G' a o) H' where
  sub := fun b u q => by
    by_cases e : b = a
    · subst e; rw [upd_same] at q; cases q; exact h
    · rw [upd_ne e] at q; exact g.sub b u q
  keep := g.keep
  fix := fun b q => by rw [upd_ne (fun e => q (by rw [e]; exact n))]; exact g.fix b q

theorem Gr.wr {G H G' H' : Hp} {a : Addr} {o : HO} (g : Gr G H G' H') (n : H a = none) (n' : G' a = none) : Gr G H G' (upd H' a o) where
  sub := fun b u q => by rw [upd_ne (ne_of_none q n')]; exact g.sub b u q
  keep := fun b u q => by rw [upd_ne (ne_of_none q n)]; exact g.keep b u q
  fix := g.fix
structure Bas where
  G : Hp
  H : Hp
/-- what stands at a of one's own: a list, a dict -/
def Own (w : World) (K : PySem.W.Frag) (G H : Hp) (a : Addr) (d : D) : Prop :=
  (∃ vs ds, d = .list ds ∧ H a = some (.lst vs) ∧ DtAll w K G vs ds) ∨
  ∃ (o : Obj) (es : Array DictEntry) (ep : Nat) (kvs : List (D × D)), d = .dict kvs ∧ H a = some (dO a o) ∧ (a == sysModules) = false ∧ o.ExactDict ∧ o.data = .dict es ep ∧ DtEs w K G es.toList kvs ∧ (kvs.map (·.1)).Nodup
theorem Own.there {w : World} {K : PySem.W.Frag} {G H : Hp} {a : Addr} {d : D} (o : Own w K G H a d) : ∃ u, H a = some u := by
  rcases o with ⟨_, _, _, h, _⟩ | ⟨_, _, _, _, _, h, _⟩
  · exact ⟨_, h⟩
  · exact ⟨_, h⟩
theorem Own.grow {w : World} {K : PySem.W.Frag} {G H G' H' : Hp} {a : Addr} {d : D} (o : Own w K G H a d) (s : Sub G G') (e : H' a = H a) : Own w K G' H' a d := by
  rcases o with ⟨vs, ds, e1, h, t⟩ | ⟨o, es, ep, kvs, e1, h, q⟩
  · exact .inl ⟨vs, ds, e1, e.trans h, t.sub s⟩
  · exact .inr ⟨o, es, ep, kvs, e1, e.trans h, q.1, q.2.1, q.2.2.1, q.2.2.2.1.sub s, q.2.2.2.2⟩
/-- frozen, it is data -/
theorem Own.dt {w : World} {K : PySem.W.Frag} {G H : Hp} {a : Addr} {d : D} {u : HO} (o : Own w K G H a d) (n : G a = none) (h : H a = some u) : Dt w K (upd G a u) (.ref a) d := by
  have s : Sub G (upd G a u) := fun b v q => by rw [upd_ne (ne_of_none q n)]; exact q
  rcases o with ⟨vs, ds, rfl, h1, t⟩ | ⟨o, es, ep, kvs, rfl, h1, q⟩
  · rw [h1] at h; cases h
    exact .lst (.inl upd_same) (t.sub s)
  · rw [h1] at h; cases h
    exact .dct (.inl upd_same) q.1 q.2.1 q.2.2.1 (q.2.2.2.1.sub s) q.2.2.2.2

/-- slots and heap as the data in ρ say; the slots in O are one's own (they may be written), the others frozen -/
structure Rp (w : World) (K : PySem.W.Frag) (B : Bas) (O : List Nat) (ρ : Env') (σ : L2.St) (G H : Hp) : Prop where
  len : σ.length = ρ.length
  gr : Gr B.G B.H G H
  dat : ∀ (i : Nat) (d : D), ρ[i]? = some (some d) → i ∉ O → ∃ v, σ[i]? = some (some v) ∧ Dt w K G v d
  own : ∀ (i : Nat) (d : D), ρ[i]? = some (some d) → i ∈ O → ∃ a, σ[i]? = some (some (.ref a)) ∧ Own w K G H a d ∧ G a = none ∧ B.H a = none
  sep : ∀ (i j : Nat) (a : Addr) (di dj : D), i ∈ O → j ∈ O → ρ[i]? = some (some di) → ρ[j]? = some (some dj) → σ[i]? = some (some (.ref a)) → σ[j]? = some (some (.ref a)) → i = j
section
variable {w : World} {K : PySem.W.Frag} {B : Bas} {O : List Nat} {ρ : Env'} {σ : L2.St} {G H G' H' : Hp}
theorem Rp.sub (r : Rp w K B O ρ σ G H) : Sub G H := r.gr.sub
theorem Rp.grow (r : Rp w K B O ρ σ G H) (g : Gr G H G' H') : Rp w K B O ρ σ G' H' where
  len := r.len
  gr := r.gr.trans g
  dat := fun i d e n => let ⟨v, h1, h2⟩ := r.dat i d e n; ⟨v, h1, h2.sub (g.up r.sub)⟩
  own := fun i d e n => by
    obtain ⟨a, h1, h2, h3, h4⟩ := r.own i d e n
    obtain ⟨u, hu⟩ := h2.there
    have ne : H a ≠ none := by rw [hu]; exact fun z => nomatch z
    exact ⟨a, h1, h2.grow (g.up r.sub) ((g.keep a u hu).trans hu.symm), (g.fix a ne).trans h3, h4⟩
  sep := r.sep
end
end Vs

set_option Elab.async false
set_option linter.all false
set_option maxRecDepth 100000
/-! Expressions: readings by data, names, constants, operators, comparisons, subscripts, slices, calls. -/
namespace Vs
open PySem PySem.Spec PyProof.Rows L2

/-- an expression that gives the datum f ρ -/
def tV (w : World) (K : PySem.W.Frag) (e : Nat → D → Prop) (O : List Nat) (f : Env' → R D) : TE := fun σ H Q => ∃ B ρ G, Rp w K B O ρ σ G H ∧
  gd (f ρ) (fun d => ∀ v G' H', Gr G H G' H' → Dt w K G' v d → Q v H') e
/-- .. that makes a new list or dict of one's own -/
def tO (w : World) (K : PySem.W.Frag) (e : Nat → D → Prop) (O : List Nat) (f : Env' → R D) : TE := fun σ H Q => ∃ B ρ G, Rp w K B O ρ σ G H ∧
  gd (f ρ) (fun d => ∀ a G' H', Gr G H G' H' → H a = none → G' a = none → Own w K G' H' a d → Q (.ref a) H') e
def tW (w : World) (K : PySem.W.Frag) (e : Nat → D → Prop) (O : List Nat) (f : Env' → R Bool) : TT := fun σ H Q => ∃ B ρ G, Rp w K B O ρ σ G H ∧
  gd (f ρ) (fun b => ∀ G' H', Gr G H G' H' → Q b H') e
def tA (w : World) (K : PySem.W.Frag) (e : Nat → D → Prop) (O : List Nat) (f : Env' → R (List D)) : TA := fun σ H Q => ∃ B ρ G, Rp w K B O ρ σ G H ∧
  gd (f ρ) (fun ds => ∀ vs G' H', Gr G H G' H' → DtAll w K G' vs ds → Q vs H') e

section
variable {X : Cx} {a b : Expr} {es : List Expr} {pos : Pos} {e : Nat → D → Prop} {O : List Nat} {fa fb : Env' → R D} {fs : Env' → R (List D)} {fw : Env' → R Bool}
theorem pe_imp {t t' : TE} (h : PE X a t) (i : ∀ σ H Q, t' σ H Q → t σ H Q) : PE X a t' := ⟨fun p s σ H Q I q => h.run p s σ H Q I (i σ H Q q)⟩
theorem pt_imp {t t' : TT} (h : PT X a t) (i : ∀ σ H Q, t' σ H Q → t σ H Q) : PT X a t' := ⟨fun p s σ H Q I q => h.run p s σ H Q I (i σ H Q q)⟩
theorem pw_imp {t t' : TT} (h : PW X a t) (i : ∀ σ H Q, t' σ H Q → t σ H Q) : PW X a t' := ⟨fun wh p s σ H Q I q => h.run wh p s σ H Q I (i σ H Q q)⟩
theorem pa_imp {t t' : TA} (h : PA X es t) (i : ∀ σ H Q, t' σ H Q → t σ H Q) : PA X es t' := ⟨fun po p s σ H Q I q => h.run po p s σ H Q I (i σ H Q q)⟩
theorem ps_imp {st : Stmt} {t t' : TS} (h : PS X st t) (i : ∀ Dn σ H, t' Dn σ H → t Dn σ H) : PS X st t' := ⟨fun p s σ H Q I q => h.run p s σ H Q I (i Q σ H q)⟩
theorem pss_imp {st : List Stmt} {t t' : TS} (h : PSs X st t) (i : ∀ Dn σ H, t' Dn σ H → t Dn σ H) : PSs X st t' := ⟨fun p s σ H Q I q => h.run p s σ H Q I (i Q σ H q)⟩
theorem opr_imp {f : Value → Value → Sem Value} {r r' : R2} (h : OpR X f r) (i : ∀ x y H Q, r' x y H Q → r x y H Q) : OpR X f r' := fun p s σ H x y v u Q I a b q => h p s σ H x y v u Q I a b (i x y H Q q)

/-- the meaning told otherwise -/
theorem v_eq {f f' : Env' → R D} (h : PE X a (tV X.w X.K e O f)) (q : f' = f) : PE X a (tV X.w X.K e O f') := q ▸ h

theorem Rp.here {w : World} {K : PySem.W.Frag} {B : Bas} {ρ : Env'} {σ : L2.St} {G H : Hp} (r : Rp w K B O ρ σ G H) : Gr G H G H := Gr.refl r.sub

/-- a name whose slot is not one's own -/
theorem v_nm (i : Nat) {x : Str} {p : Pos} (ho : i ∉ O := by decide) (hN : X.N[i]? = some x := by rfl) (hv : Vis X.env.scope x := by first | exact Or.inl rfl | exact Or.inr (Or.inl rfl) | exact Or.inr (Or.inr rfl)) (hd : (x == ("__debug__" : Str)) = false := by decide)
    (hc : (x == ("__classdict__" : Str)) = false := by decide) : PE X (.Name x p) (tV X.w X.K e O fun ρ => gv ρ i) := by
  refine pe_imp (pv i hN hv hd hc) fun σ H Q h => ?_
  obtain ⟨B, ρ, G, r, h⟩ := h
  have h : gd (gv ρ i) (fun d => ∀ v G' H', Gr G H G' H' → Dt X.w X.K G' v d → Q v H') e := h
  unfold gv at h
  cases q : ρ[i]? with
  | none => rw [q] at h; exact h.elim
  | some o =>
    cases o with
    | none => rw [q] at h; exact h.elim
    | some d =>
      rw [q] at h
      obtain ⟨v, e1, t⟩ := r.dat i d q ho
      exact ⟨v, e1, h v G H r.here t⟩
theorem v_of {d : D} {v : V} (h : PE X a (tC v)) (hd : ∀ G : Hp, Dt X.w X.K G v d) : PE X a (tV X.w X.K e O fun _ => .ok d) :=
  pe_imp h fun σ H Q ⟨B, ρ, G, r, h⟩ => h v G H r.here (hd G)
theorem v_int {i : Int} {j p} : PE X (.Constant (.int i) j p) (tV X.w X.K e O fun _ => .ok (.int i)) := v_of pe_int fun _ => .int i
theorem v_bl {i : Bool} {j p} : PE X (.Constant (.bool i) j p) (tV X.w X.K e O fun _ => .ok (.bool i)) := v_of pe_bl fun _ => .bl i
theorem v_non {j p} : PE X (.Constant .none j p) (tV X.w X.K e O fun _ => .ok .none) := v_of pe_non fun _ => .non
theorem v_str {i : Str} {j p} : PE X (.Constant (.str i) j p) (tV X.w X.K e O fun _ => .ok (.str i)) := v_of pe_str fun _ => .str i
/-- a constant of the module -/
structure Kon (w : World) (K : PySem.W.Frag) (mg : Str → Option Value) (x : Str) (d : D) : Prop where
  ex : ∃ (v : V) (u : Value), mg x = some u ∧ RelV v u ∧ ∀ G : Hp, Dt w K G v d
theorem v_kon {x : Str} {p : Pos} {d : D} (k : Kon X.w X.K X.mg x d) (hg : Gl X x := by rfl) (hd : (x == ("__debug__" : Str)) = false := by decide) : PE X (.Name x p) (tV X.w X.K e O fun _ => .ok d) := by
  obtain ⟨v, u, m, r, t⟩ := k.ex
  exact v_of (pe_glob hg m r hd) t

/-! ### operators -/
def r2 (w : World) (K : PySem.W.Frag) (g : D → D → R D) : R2 := fun x y H Q => ∃ G da db e, Sub G H ∧ Dt w K G x da ∧ Dt w K G y db ∧
  gd (g da db) (fun d => ∀ v G' H', Gr G H G' H' → Dt w K G' v d → Q v H') e
theorem r2_in {g : D → D → R D} {Q : VK} {G1 H1 G2 H2 : Hp} {x y : V} {da db : D} (g2 : Gr G1 H1 G2 H2) (s1 : Sub G1 H1) (d1 : Dt X.w X.K G1 x da) (d2 : Dt X.w X.K G2 y db)
    (h : gd (g da db) (fun d => ∀ v G' H', Gr G1 H1 G' H' → Dt X.w X.K G' v d → Q v H') e) : r2 X.w X.K g x y H2 Q :=
  ⟨G2, da, db, e, g2.sub, d1.sub (g2.up s1), d2, gd_mono h fun d q v G' H' g3 t => q v G' H' (g2.trans g3) t⟩
theorem two {g : D → D → R D} {σ : L2.St} {H : Hp} {Q : VK} (h : tV X.w X.K e O (fun ρ => fa ρ >>= fun x => fb ρ >>= fun y => g x y) σ H Q) :
    tV X.w X.K e O fa σ H fun x H1 => tV X.w X.K e O fb σ H1 fun y H2 => r2 X.w X.K g x y H2 Q := by
  obtain ⟨B, ρ, G, r, h⟩ := h
  refine ⟨B, ρ, G, r, gd_mono (gd_bind.mp h) fun da h v G1 H1 g1 t1 => ⟨B, ρ, G1, r.grow g1, gd_mono (gd_bind.mp h) fun db h u G2 H2 g2 t2 => ?_⟩⟩
  exact r2_in g2 g1.sub t1 t2 (gd_mono h fun d q v G' H' g3 t => q v G' H' (g1.trans g3) t)
theorem v_op {op : Operator} {g : D → D → R D} (ho : OpR X (binaryOp op) (r2 X.w X.K g)) (ha : PE X a (tV X.w X.K e O fa)) (hb : PE X b (tV X.w X.K e O fb)) :
    PE X (.BinOp a op b pos) (tV X.w X.K e O fun ρ => fa ρ >>= fun x => fb ρ >>= fun y => g x y) := pe_imp (pe_op ho ha hb) fun _ _ _ h => two h
theorem v_cmp {op : CmpOp} {g : D → D → R D} (ho : OpR X (compareOp op) (r2 X.w X.K g)) (ha : PE X a (tV X.w X.K e O fa)) (hb : PE X b (tV X.w X.K e O fb)) (hm : behindInMarks op b = false := by rfl) :
    PE X (.Compare a [op] [b] pos) (tV X.w X.K e O fun ρ => fa ρ >>= fun x => fb ρ >>= fun y => g x y) := pe_imp (pe_cmpR ho ha hb hm) fun _ _ _ h => two h
theorem v_ix {g : D → D → R D} (ho : IxR X (r2 X.w X.K g)) (ha : PE X a (tV X.w X.K e O fa)) (hb : PE X b (tV X.w X.K e O fb)) (hs : PlainIx b := by exact fun _ _ => rfl) :
    PE X (.Subscript a b pos) (tV X.w X.K e O fun ρ => fa ρ >>= fun x => fb ρ >>= fun y => g x y) := pe_imp (pe_ix ho ha hb hs) fun _ _ _ h => two h

/-! ### tests -/
def asB : D → R Bool
  | .bool b => .ok b
  | _ => stk
theorem asB_in {f : Env' → R D} {σ : L2.St} {H : Hp} {Q : Bool → Hp → Prop} (h : tW X.w X.K e O (fun ρ => f ρ >>= asB) σ H Q) : tV X.w X.K e O f σ H fun x H1 => ∃ c, x = .bl c ∧ Q c H1 := by
  obtain ⟨B, ρ, G, r, h⟩ := h
  refine ⟨B, ρ, G, r, gd_mono (gd_bind.mp h) fun d h v G' H' g t => ?_⟩
  cases t with
  | bl c => exact ⟨c, rfl, h G' H' g⟩
  | non => exact h.elim
  | int _ => exact h.elim
  | str _ => exact h.elim
  | lst _ _ => exact h.elim
  | tup _ _ => exact h.elim
  | dct _ _ _ _ _ _ => exact h.elim
  | scr _ _ => exact h.elim
/-- an expression that gives True or False, as a test -/
theorem w_val (h : PE X a (tV X.w X.K e O fa)) (he : ∀ whole, isTrue a X.env whole = (do let v ← whole; standAt a.pos; holding [v] (truthy v)) := by intro _; rfl) : PT X a (tW X.w X.K e O fun ρ => fa ρ >>= asB) :=
  pt_imp (pt_val h he) fun _ _ _ q => asB_in q
theorem w_cmp {op : CmpOp} {g : D → D → R D} (ho : OpR X (compareOp op) (r2 X.w X.K g)) (ha : PE X a (tV X.w X.K e O fa)) (hb : PE X b (tV X.w X.K e O fb)) (hm : behindInMarks op b = false := by rfl) :
    PT X (.Compare a [op] [b] pos) (tW X.w X.K e O fun ρ => (fa ρ >>= fun x => fb ρ >>= fun y => g x y) >>= asB) := by
  refine pt_imp (pt_cmpR ho ha hb hm) fun σ H Q h => ?_
  exact two (asB_in h)
theorem w_not (h : PT X a (tW X.w X.K e O fw)) : PT X (.UnaryOp .Not a pos) (tW X.w X.K e O fun ρ => fw ρ >>= fun c => .ok (!c)) :=
  pt_imp (pt_not h) fun σ H Q ⟨B, ρ, G, r, q⟩ => ⟨B, ρ, G, r, gd_mono (gd_bind.mp q) fun c z => z⟩
section
variable {rs : List Expr} {fu : Env' → R Bool}
theorem w_and1 (h : PT X a (tW X.w X.K e O fw)) : PW X (.BoolOp .And [a] pos) (tW X.w X.K e O fw) := pw_and1 h
theorem w_or1 (h : PT X a (tW X.w X.K e O fw)) : PW X (.BoolOp .Or [a] pos) (tW X.w X.K e O fw) := pw_or1 h
theorem w_and (h : PT X a (tW X.w X.K e O fw)) (h2 : PW X (.BoolOp .And (b :: rs) pos) (tW X.w X.K e O fu)) : PW X (.BoolOp .And (a :: b :: rs) pos) (tW X.w X.K e O fun ρ => fw ρ >>= fun c => if c then fu ρ else .ok false) := by
  refine pw_imp (pw_and h h2) fun σ H Q ⟨B, ρ, G, r, q⟩ => ⟨B, ρ, G, r, gd_mono (gd_bind.mp q) fun c z G1 H1 g1 => ?_⟩
  cases c with
  | true => exact ⟨B, ρ, G1, r.grow g1, gd_mono z fun c2 z2 G2 H2 g2 => z2 G2 H2 (g1.trans g2)⟩
  | false => exact z G1 H1 g1
theorem w_or (h : PT X a (tW X.w X.K e O fw)) (h2 : PW X (.BoolOp .Or (b :: rs) pos) (tW X.w X.K e O fu)) : PW X (.BoolOp .Or (a :: b :: rs) pos) (tW X.w X.K e O fun ρ => fw ρ >>= fun c => if c then .ok true else fu ρ) := by
  refine pw_imp (pw_or h h2) fun σ H Q ⟨B, ρ, G, r, q⟩ => ⟨B, ρ, G, r, gd_mono (gd_bind.mp q) fun c z G1 H1 g1 => ?_⟩
  cases c with
  | true => exact z G1 H1 g1
  | false => exact ⟨B, ρ, G1, r.grow g1, gd_mono z fun c2 z2 G2 H2 g2 => z2 G2 H2 (g1.trans g2)⟩
/-- .. as values, all but the last True or False -/
theorem v_one {op} (h : PE X a (tV X.w X.K e O fa)) : PE X (.BoolOp op [a] pos) (tV X.w X.K e O fa) := pe_one h
theorem v_and (h : PE X a (tV X.w X.K e O fa)) (h2 : PE X (.BoolOp .And (b :: rs) pos) (tV X.w X.K e O fb)) : PE X (.BoolOp .And (a :: b :: rs) pos) (tV X.w X.K e O fun ρ => (fa ρ >>= asB) >>= fun c => if c then fb ρ else .ok (.bool false)) := by
  refine pe_imp (pe_and h h2) fun σ H Q ⟨B, ρ, G, r, q⟩ => asB_in ⟨B, ρ, G, r, gd_mono (gd_bind.mp q) fun c z G1 H1 g1 => ?_⟩
  cases c with
  | true => exact ⟨B, ρ, G1, r.grow g1, gd_mono z fun d z2 v G2 H2 g2 t => z2 v G2 H2 (g1.trans g2) t⟩
  | false => exact z _ G1 H1 g1 (.bl false)
theorem v_or (h : PE X a (tV X.w X.K e O fa)) (h2 : PE X (.BoolOp .Or (b :: rs) pos) (tV X.w X.K e O fb)) : PE X (.BoolOp .Or (a :: b :: rs) pos) (tV X.w X.K e O fun ρ => (fa ρ >>= asB) >>= fun c => if c then .ok (.bool true) else fb ρ) := by
  refine pe_imp (pe_or h h2) fun σ H Q ⟨B, ρ, G, r, q⟩ => asB_in ⟨B, ρ, G, r, gd_mono (gd_bind.mp q) fun c z G1 H1 g1 => ?_⟩
  cases c with
  | true => exact z _ G1 H1 g1 (.bl true)
  | false => exact ⟨B, ρ, G1, r.grow g1, gd_mono z fun d z2 v G2 H2 g2 t => z2 v G2 H2 (g1.trans g2) t⟩
theorem v_not (h : PE X a (tV X.w X.K e O fa)) : PE X (.UnaryOp .Not a pos) (tV X.w X.K e O fun ρ => (fa ρ >>= asB) >>= fun c => .ok (.bool (!c))) := by
  refine pe_imp (pe_not h) fun σ H Q ⟨B, ρ, G, r, q⟩ => asB_in ⟨B, ρ, G, r, gd_mono (gd_bind.mp q) fun c z G1 H1 g1 => z _ G1 H1 g1 (.bl _)⟩
end
theorem v_if {c : Expr} (hc : PT X c (tW X.w X.K e O fw)) (ha : PE X a (tV X.w X.K e O fa)) (hb : PE X b (tV X.w X.K e O fb)) : PE X (.IfExp c a b pos) (tV X.w X.K e O fun ρ => fw ρ >>= fun k => if k then fa ρ else fb ρ) := by
  refine pe_imp (pe_ifExp hc ha hb) fun σ H Q ⟨B, ρ, G, r, q⟩ => ⟨B, ρ, G, r, gd_mono (gd_bind.mp q) fun k z G1 H1 g1 => ?_⟩
  cases k with
  | true => exact iteT ⟨B, ρ, G1, r.grow g1, gd_mono z fun d z2 v G2 H2 g2 t => z2 v G2 H2 (g1.trans g2) t⟩
  | false => exact iteF ⟨B, ρ, G1, r.grow g1, gd_mono z fun d z2 v G2 H2 g2 t => z2 v G2 H2 (g1.trans g2) t⟩

/-! ### what a slot of one's own says, where nothing of it is kept -/
def scalar : D → Bool
  | .none | .bool _ | .int _ | .str _ => true
  | _ => false
theorem Dt.scal {w : World} {K : PySem.W.Frag} {G G' : Hp} {v : V} {d : D} (t : Dt w K G v d) (h : scalar d = true) : Dt w K G' v d := by
  cases t with
  | non => exact .non
  | bl b => exact .bl b
  | int i => exact .int i
  | str x => exact .str x
  | lst _ _ => exact nomatch h
  | tup _ _ => exact nomatch h
  | dct _ _ _ _ _ _ => exact nomatch h
  | scr _ _ => exact nomatch h
/-- all slots frozen, for the time of one look -/
theorem Rp.allFrz {w : World} {K : PySem.W.Frag} {B : Bas} {ρ : Env'} {σ : L2.St} {G H : Hp} (r : Rp w K B O ρ σ G H) : ∃ G1, Sub G G1 ∧ Rp w K ⟨G1, H⟩ [] ρ σ G1 H := by
  -- every tracked list or dict is frozen
  refine ⟨H, r.sub, r.len, ⟨Sub.refl _, Sub.refl _, fun _ _ => rfl⟩, fun i d e _ => ?_, (fun _ _ _ z => nomatch z), (fun _ _ _ _ _ z => nomatch z)⟩
  by_cases hi : i ∈ O
  · obtain ⟨a, h1, h2, h3, h4⟩ := r.own i d e hi
    obtain ⟨u, hu⟩ := h2.there
    refine ⟨_, h1, (h2.dt h3 hu).sub fun b o q => ?_⟩
    by_cases hb : b = a
    · subst hb; rw [upd_same] at q; cases q; exact hu
    · rw [upd_ne hb] at q; exact r.sub b o q
  · obtain ⟨v, h1, h2⟩ := r.dat i d e hi
    exact ⟨v, h1, h2.sub r.sub⟩
def asS : D → R D
  | .none => .ok .none
  | .bool b => .ok (.bool b)
  | .int i => .ok (.int i)
  | .str x => .ok (.str x)
  | _ => stk
theorem asS_eq {d : D} {q : D → Prop} (h : gd (asS d) q e) : scalar d = true ∧ q d := by
  cases d <;> first | exact ⟨rfl, h⟩ | exact h.elim
theorem v_look (h : PE X a (tV X.w X.K e [] fa)) : PE X a (tV X.w X.K e O fun ρ => fa ρ >>= asS) := by
  refine pe_imp h fun σ H Q ⟨B, ρ, G, r, q⟩ => ?_
  obtain ⟨G1, s1, r1⟩ := r.allFrz
  refine ⟨_, ρ, G1, r1, gd_mono (gd_bind.mp q) fun d z v G2 H2 g2 t => ?_⟩
  obtain ⟨sc, z⟩ := asS_eq z
  exact z v G H2 ⟨r.sub.trans g2.keep, g2.keep, fun _ _ => rfl⟩ (t.scal sc)
theorem w_look (h : PT X a (tW X.w X.K e [] fw)) : PT X a (tW X.w X.K e O fw) := by
  refine pt_imp h fun σ H Q ⟨B, ρ, G, r, q⟩ => ?_
  obtain ⟨G1, s1, r1⟩ := r.allFrz
  exact ⟨_, ρ, G1, r1, gd_mono q fun d z G2 H2 g2 => z G H2 ⟨r.sub.trans g2.keep, g2.keep, fun _ _ => rfl⟩⟩

/-! ### argument lists, displays -/
theorem a_nil : PA X [] (tA X.w X.K e O fun _ => .ok []) := pa_imp pa_nil fun σ H Q ⟨B, ρ, G, r, q⟩ => q [] G H r.here .nil
theorem a_cons (ha : PE X a (tV X.w X.K e O fa)) (hs : PA X es (tA X.w X.K e O fs)) (h : starEach (a :: es) X.env = (false, eval a X.env) :: starEach es X.env := by rfl) :
    PA X (a :: es) (tA X.w X.K e O fun ρ => fa ρ >>= fun x => fs ρ >>= fun xs => .ok (x :: xs)) :=
  pa_imp (pa_cons ha hs h) fun σ H Q ⟨B, ρ, G, r, q⟩ => ⟨B, ρ, G, r, gd_mono (gd_bind.mp q) fun x q v G1 H1 g1 t1 => ⟨B, ρ, G1, r.grow g1, gd_mono (gd_bind.mp q) fun xs q vs G2 H2 g2 t2 =>
    q (v :: vs) G2 H2 (g1.trans g2) (.cons (t1.sub (g2.up g1.sub)) t2)⟩⟩
def lenOk (n : Nat) : R Unit := if n ≤ sizeLine then .ok () else stk
theorem lenOk_in {n : Nat} {q : Unit → Prop} (h : gd (lenOk n) q e) : n ≤ sizeLine ∧ q () := by
  unfold lenOk at h
  split at h
  · rename_i hn; exact ⟨hn, h⟩
  · exact h.elim
theorem v_tup {k} (hs : PA X es (tA X.w X.K e O fs)) : PE X (.Tuple es k pos) (tV X.w X.K e O fun ρ => fs ρ >>= fun xs => lenOk xs.length >>= fun _ => .ok (.tuple xs)) :=
  pe_imp (pe_tup hs) fun σ H Q ⟨B, ρ, G, r, q⟩ => ⟨B, ρ, G, r, gd_mono (gd_bind.mp q) fun xs q vs G1 H1 g1 t => by
    obtain ⟨hl, q⟩ := lenOk_in (gd_bind.mp q)
    refine ⟨by rw [t.length]; exact hl, fun p np => ?_⟩
    have g2 := Gr.new (o := .tup vs) g1.sub np
    exact q _ _ _ (g1.trans g2) (.tup (.inl (.inl upd_same)) (t.sub (g2.up g1.sub)))⟩
theorem o_lst (hs : PA X es (tA X.w X.K e O fs)) : PE X (.List es pos) (tO X.w X.K e O fun ρ => fs ρ >>= fun xs => lenOk xs.length >>= fun _ => .ok (.list xs)) :=
  pe_imp (pe_lst hs) fun σ H Q ⟨B, ρ, G, r, q⟩ => ⟨B, ρ, G, r, gd_mono (gd_bind.mp q) fun xs q vs G1 H1 g1 t => by
    obtain ⟨hl, q⟩ := lenOk_in (gd_bind.mp q)
    refine ⟨by rw [t.length]; exact hl, fun p np => ?_⟩
    have hn : H p = none := by
      cases z : H p with
      | none => rfl
      | some o => rw [g1.keep p o z] at np; cases np
    refine q p G1 _ (g1.trans (Gr.own g1.sub np)) hn ?_ (.inl ⟨vs, xs, rfl, upd_same, t⟩)
    cases z : G1 p with
    | none => rfl
    | some o => rw [g1.sub p o z] at np; cases np⟩
theorem v_own (h : PE X a (tO X.w X.K e O fa)) : PE X a (tV X.w X.K e O fa) := by
  refine pe_imp h fun σ H Q ⟨B, ρ, G, r, q⟩ => ⟨B, ρ, G, r, gd_mono q fun d z p G1 H1 g1 n1 n2 o => ?_⟩
  obtain ⟨u, hu⟩ := o.there
  exact z (.ref p) _ H1 (g1.frz n1 hu) (o.dt n2 hu)
theorem v_lst (hs : PA X es (tA X.w X.K e O fs)) : PE X (.List es pos) (tV X.w X.K e O fun ρ => fs ρ >>= fun xs => lenOk xs.length >>= fun _ => .ok (.list xs)) := v_own (o_lst hs)

/-! ### slices -/
def asI : D → R Int
  | .int i => .ok i
  | _ => stk
def rS (w : World) (K : PySem.W.Frag) (g : D → Option Int → Option Int → R D) : V → Option Int → Option Int → Hp → VK → Prop := fun x lo hi H Q => ∃ G da e, Sub G H ∧ Dt w K G x da ∧
  gd (g da lo hi) (fun d => ∀ v G' H', Gr G H G' H' → Dt w K G' v d → Q v H') e
def tP (w : World) (K : PySem.W.Frag) (e : Nat → D → Prop) (O : List Nat) (f : Env' → R (Option Int)) : TO := fun σ H Q => ∃ B ρ G, Rp w K B O ρ σ G H ∧
  gd (f ρ) (fun o => ∀ G' H', Gr G H G' H' → Q o H') e
theorem po_imp {o : Option Expr} {t t' : TO} (h : PO X o t) (i : ∀ σ H Q, t' σ H Q → t σ H Q) : PO X o t' := ⟨fun p s σ H Q I q => h.run p s σ H Q I (i σ H Q q)⟩
theorem p_no : PO X none (tP X.w X.K e O fun _ => .ok none) := po_imp po_none fun σ H Q ⟨B, ρ, G, r, q⟩ => q G H r.here
theorem asI_in {d : D} {v : V} {G : Hp} {q : Int → Prop} (t : Dt X.w X.K G v d) (h : gd (asI d) q e) : ∃ i, v = .int i ∧ q i := by
  cases t with
  | int i => exact ⟨i, rfl, h⟩
  | non => exact h.elim
  | bl _ => exact h.elim
  | str _ => exact h.elim
  | lst _ _ => exact h.elim
  | tup _ _ => exact h.elim
  | dct _ _ _ _ _ _ => exact h.elim
  | scr _ _ => exact h.elim
theorem p_so (h : PE X a (tV X.w X.K e O fa)) : PO X (some a) (tP X.w X.K e O fun ρ => fa ρ >>= fun d => asI d >>= fun i => .ok (some i)) :=
  po_imp (po_some h) fun σ H Q ⟨B, ρ, G, r, q⟩ => ⟨B, ρ, G, r, gd_mono (gd_bind.mp q) fun d z v G1 H1 g1 t => by
    obtain ⟨i, rfl, z⟩ := asI_in t (gd_bind.mp z)
    exact ⟨i, rfl, z G1 H1 g1⟩⟩
theorem v_sl {lo hi : Option Expr} {fl fh : Env' → R (Option Int)} {p2 : Pos} {g : D → Option Int → Option Int → R D} (hr : SlR X (rS X.w X.K g)) (ha : PE X a (tV X.w X.K e O fa)) (hl : PO X lo (tP X.w X.K e O fl)) (hh : PO X hi (tP X.w X.K e O fh)) :
    PE X (.Subscript a (.Slice lo hi none p2) pos) (tV X.w X.K e O fun ρ => fa ρ >>= fun x => fl ρ >>= fun l => fh ρ >>= fun h => g x l h) :=
  pe_imp (pe_slice hr ha hl hh) fun σ H Q ⟨B, ρ, G, r, q⟩ => ⟨B, ρ, G, r, gd_mono (gd_bind.mp q) fun x q v G1 H1 g1 t1 => ⟨B, ρ, G1, r.grow g1, gd_mono (gd_bind.mp q) fun l q G2 H2 g2 => ⟨B, ρ, G2, (r.grow g1).grow g2,
    gd_mono (gd_bind.mp q) fun h q G3 H3 g3 => ⟨G3, x, e, g3.sub, t1.sub ((g2.trans g3).up g1.sub), gd_mono q fun d q v G' H' g4 t => q v G' H' (((g1.trans g2).trans g3).trans g4) t⟩⟩⟩⟩

/-! ### calls of built-ins by value -/
def rC (w : World) (K : PySem.W.Frag) (g : List D → R D) : List V → Hp → VK → Prop := fun xs H Q => ∃ G ds e, Sub G H ∧ DtAll w K G xs ds ∧
  gd (g ds) (fun d => ∀ v G' H', Gr G H G' H' → Dt w K G' v d → Q v H') e
def rCo (w : World) (K : PySem.W.Frag) (g : List D → R D) : List V → Hp → VK → Prop := fun xs H Q => ∃ G ds e, Sub G H ∧ DtAll w K G xs ds ∧
  gd (g ds) (fun d => ∀ a G' H', Gr G H G' H' → H a = none → G' a = none → Own w K G' H' a d → Q (.ref a) H') e
theorem callr_imp {f : Value} {r r' : List V → Hp → VK → Prop} (h : CallR X f r) (i : ∀ x H Q, r' x H Q → r x H Q) : CallR X f r' := fun p s σ H x u Q I a q => h p s σ H x u Q I a (i x H Q q)
theorem args {g : List D → R D} {σ : L2.St} {H : Hp} {Q : VK} (h : tV X.w X.K e O (fun ρ => fs ρ >>= g) σ H Q) : tA X.w X.K e O fs σ H fun vs H1 => rC X.w X.K g vs H1 Q := by
  obtain ⟨B, ρ, G, r, h⟩ := h
  exact ⟨B, ρ, G, r, gd_mono (gd_bind.mp h) fun ds h vs G1 H1 g1 t => ⟨G1, ds, e, g1.sub, t, gd_mono h fun d q v G' H' g2 t => q v G' H' (g1.trans g2) t⟩⟩
theorem argsO {g : List D → R D} {σ : L2.St} {H : Hp} {Q : VK} (h : tO X.w X.K e O (fun ρ => fs ρ >>= g) σ H Q) : tA X.w X.K e O fs σ H fun vs H1 => rCo X.w X.K g vs H1 Q := by
  obtain ⟨B, ρ, G, r, h⟩ := h
  refine ⟨B, ρ, G, r, gd_mono (gd_bind.mp h) fun ds h vs G1 H1 g1 t => ⟨G1, ds, e, g1.sub, t, gd_mono h fun d q a G' H' g2 n t => q a G' H' (g1.trans g2) ?_ t⟩⟩
  cases z : H a with
  | none => rfl
  | some o => rw [g1.keep a o z] at n; cases n
section
variable {x : Str} {p : Pos} {id T : String} {g : List D → R D}
theorem v_cb (hc : CallR X (.builtin id) (rC X.w X.K g)) (hm : X.mg x = none) (hs : PA X (a :: es) (tA X.w X.K e O fs)) (hv : bootBuiltins x = some (.builtin id) := by decide +kernel) (hg : Gl X x := by rfl) (hn : x ≠ "__name__" := by decide) (hdb : (x == ("__debug__" : Str)) = false := by decide)
    (he : starEach (a :: es) X.env = (false, eval a X.env) :: starEach es X.env := by rfl) (hpl : (backTo pos (starEach es X.env)).any (·.1) = false := by rfl) : PE X (.Call (.Name x p) (a :: es) [] pos) (tV X.w X.K e O fun ρ => fs ρ >>= g) :=
  pe_imp (pe_callB hc hg hm hv hs hn hdb he hpl) fun _ _ _ h => args h
theorem o_cb (hc : CallR X (.builtin id) (rCo X.w X.K g)) (hm : X.mg x = none) (hs : PA X (a :: es) (tA X.w X.K e O fs)) (hv : bootBuiltins x = some (.builtin id) := by decide +kernel) (hg : Gl X x := by rfl) (hn : x ≠ "__name__" := by decide) (hdb : (x == ("__debug__" : Str)) = false := by decide)
    (he : starEach (a :: es) X.env = (false, eval a X.env) :: starEach es X.env := by rfl) (hpl : (backTo pos (starEach es X.env)).any (·.1) = false := by rfl) : PE X (.Call (.Name x p) (a :: es) [] pos) (tO X.w X.K e O fun ρ => fs ρ >>= g) :=
  pe_imp (pe_callB hc hg hm hv hs hn hdb he hpl) fun _ _ _ h => argsO h
theorem v_ct (hc : CallR X (.type T) (rC X.w X.K g)) (hm : X.mg x = none) (hs : PA X (a :: es) (tA X.w X.K e O fs)) (hv : bootBuiltins x = some (.type T) := by decide +kernel) (hg : Gl X x := by rfl) (hn : x ≠ "__name__" := by decide) (hdb : (x == ("__debug__" : Str)) = false := by decide)
    (he : starEach (a :: es) X.env = (false, eval a X.env) :: starEach es X.env := by rfl) (hpl : (backTo pos (starEach es X.env)).any (·.1) = false := by rfl) : PE X (.Call (.Name x p) (a :: es) [] pos) (tV X.w X.K e O fun ρ => fs ρ >>= g) :=
  pe_imp (pe_callTy hc hg hm hv hs hn hdb he hpl) fun _ _ _ h => args h
theorem o_ct (hc : CallR X (.type T) (rCo X.w X.K g)) (hm : X.mg x = none) (hs : PA X (a :: es) (tA X.w X.K e O fs)) (hv : bootBuiltins x = some (.type T) := by decide +kernel) (hg : Gl X x := by rfl) (hn : x ≠ "__name__" := by decide) (hdb : (x == ("__debug__" : Str)) = false := by decide)
    (he : starEach (a :: es) X.env = (false, eval a X.env) :: starEach es X.env := by rfl) (hpl : (backTo pos (starEach es X.env)).any (·.1) = false := by rfl) : PE X (.Call (.Name x p) (a :: es) [] pos) (tO X.w X.K e O fun ρ => fs ρ >>= g) :=
  pe_imp (pe_callTy hc hg hm hv hs hn hdb he hpl) fun _ _ _ h => argsO h
end

/-! ### calls of defs -/
/-- the promise of a def: from frozen data it gives f's datum, frozen (fr: a new list or dict of one's own) -/
def Back (w : World) (K : PySem.W.Frag) (fr : Bool) (G H G' H' : Hp) (v : V) (d : D) : Prop := Gr G H G' H' ∧
  match fr with
  | true => ∃ a, v = .ref a ∧ H a = none ∧ G' a = none ∧ Own w K G' H' a d
  | false => Dt w K G' v d
def fnD (n : Nat) (f : List D → R D) (ds : List D) : R D := if ds.length = n then f ds else stk
def spD (w : World) (K : PySem.W.Frag) (cl : Nat → Addr) (n : Nat) (fr : Bool) (f : List D → R D) : Sp := fun vs H Q E => ∃ ds G, Sub G H ∧ DtAll w K G vs ds ∧
  gd (fnD n f ds) (fun d => ∀ v G' H', Back w K fr G H G' H' v d → Q v H') fun c d => ∀ v G' H' dd, Gr G H G' H' → Dt w K G' v d → H' dd = some (.xd [("at", v)]) → E (.ref (cl c)) (some dd) H'
/-- the global x is such a def -/
structure Cal (P : Program) (w : World) (K : PySem.W.Frag) (mg : Str → Option Value) (base : Heap) (CX : CXT) (cl : Nat → Addr) (k : Nat) (x : Str) (n : Nat) (fr : Bool) (f : List D → R D) : Prop where
  ex : ∃ (a : Addr) (fd : FuncData) (ps : List Str), FnOk P w K mg base CX k a fd ps (spD w K cl n fr f) ∧ mg x = some (.ref a) ∧ PySem.W.keepIn K (.ref a) = true ∧ Binds K fd ps []
section
variable {CX : CXT} {cl : Nat → Addr} {k j n : Nat} {x : Str} {p : Pos} {f : List D → R D} {E : XK}
/-- what is wished of an error, as the callee's E -/
def Wish (e : Nat → D → Prop) (w : World) (K : PySem.W.Frag) (cl : Nat → Addr) (E : XK) : Prop := ∀ c d, e c d → ∀ v G' H' dd, Dt w K G' v d → H' dd = some (.xd [("at", v)]) → E (.ref (cl c)) (some dd) H'
theorem v_fn (C : Cal X.prog X.w X.K X.mg X.base CX cl k x n false f) (hr : Room j X.A) (hx : Passes CX X E) (hw : Wish e X.w X.K cl E) (hs : PA X (a :: es) (tA X.w X.K e O fs)) (hk : k ≤ j := by decide) (hg : Gl X x := by rfl) (hdb : (x == ("__debug__" : Str)) = false := by decide)
    (he : starEach (a :: es) X.env = (false, eval a X.env) :: starEach es X.env := by rfl) (hpl : (backTo pos (starEach es X.env)).any (·.1) = false := by rfl) : PE X (.Call (.Name x p) (a :: es) [] pos) (tV X.w X.K e O fun ρ => fs ρ >>= fnD n f) := by
  obtain ⟨fa, fd, ps, F, m, kp, b⟩ := C.ex
  refine pe_imp (pe_call F (hr.mono hk) hg m kp b .nil hx hs hdb he hpl) fun σ H Q ⟨B, ρ, G, r, q⟩ => ⟨B, ρ, G, r, gd_mono (gd_bind.mp q) fun ds q vs G1 H1 g1 t => ?_⟩
  refine ⟨ds, G1, g1.sub, by rw [List.append_nil]; exact t, gd_mono2 q (fun d q v G2 H2 bk => q v G2 H2 (g1.trans bk.1) bk.2) fun c d h v G' H' dd _ t' h' => hw c d h v G' H' dd t' h'⟩
theorem o_fn (C : Cal X.prog X.w X.K X.mg X.base CX cl k x n true f) (hr : Room j X.A) (hx : Passes CX X E) (hw : Wish e X.w X.K cl E) (hs : PA X (a :: es) (tA X.w X.K e O fs)) (hk : k ≤ j := by decide) (hg : Gl X x := by rfl) (hdb : (x == ("__debug__" : Str)) = false := by decide)
    (he : starEach (a :: es) X.env = (false, eval a X.env) :: starEach es X.env := by rfl) (hpl : (backTo pos (starEach es X.env)).any (·.1) = false := by rfl) : PE X (.Call (.Name x p) (a :: es) [] pos) (tO X.w X.K e O fun ρ => fs ρ >>= fnD n f) := by
  obtain ⟨fa, fd, ps, F, m, kp, b⟩ := C.ex
  refine pe_imp (pe_call F (hr.mono hk) hg m kp b .nil hx hs hdb he hpl) fun σ H Q ⟨B, ρ, G, r, q⟩ => ⟨B, ρ, G, r, gd_mono (gd_bind.mp q) fun ds q vs G1 H1 g1 t => ?_⟩
  refine ⟨ds, G1, g1.sub, by rw [List.append_nil]; exact t, gd_mono2 q (fun d q v G2 H2 bk => ?_) fun c d h v G' H' dd _ t' h' => hw c d h v G' H' dd t' h'⟩
  obtain ⟨g2, a, rfl, n1, n2, o⟩ := bk
  refine q a G2 H2 (g1.trans g2) ?_ n2 o
  cases z : H a with
  | none => rfl
  | some u => rw [g1.keep a u z] at n1; cases n1
end
end
end Vs

set_option Elab.async false
set_option linter.all false
set_option maxRecDepth 100000
/-! Targets, walks, statements, loops, comprehensions, a def's rule. -/
namespace Vs
open PySem PySem.Spec PyProof.Rows L2

/-! ### slots stored, frozen -/
section
variable {w : World} {K : PySem.W.Frag} {B : Bas} {O O' : List Nat} {ρ : Env'} {σ : L2.St} {G H : Hp} {i : Nat} {d : D} {v : V}
theorem get_set {α : Type} {l : List α} {i j : Nat} {x y : α} (h : (l.set i x)[j]? = some y) : (j = i ∧ y = x ∧ i < l.length) ∨ (j ≠ i ∧ l[j]? = some y) := by
  by_cases e : j = i
  · subst e
    by_cases hl : j < l.length
    · rw [List.getElem?_set_self hl] at h
      exact .inl ⟨rfl, (Option.some.inj h).symm, hl⟩
    · rw [List.getElem?_eq_none (by rw [List.length_set]; omega)] at h
      cases h
  · rw [List.getElem?_set_ne (Ne.symm e)] at h
    exact .inr ⟨e, h⟩
/-- the slot i gets frozen data -/
theorem Rp.put (r : Rp w K B O ρ σ G H) (t : Dt w K G v d) (h1 : ∀ j ∈ O', j ∈ O ∧ j ≠ i) (h2 : ∀ j ∈ O, j = i ∨ j ∈ O') : Rp w K B O' (ρ.set i (some d)) (σ.set i (some v)) G H where
  len := by rw [List.length_set, List.length_set]; exact r.len
  gr := r.gr
  dat := fun j dj e n => by
    rcases get_set e with ⟨rfl, e2, hl⟩ | ⟨ne, e2⟩
    · cases e2
      exact ⟨v, List.getElem?_set_self (by rw [r.len]; exact hl), t⟩
    · obtain ⟨u, q1, q2⟩ := r.dat j dj e2 fun hj => (h2 j hj).elim ne n
      exact ⟨u, by rw [List.getElem?_set_ne (Ne.symm ne)]; exact q1, q2⟩
  own := fun j dj e hj => by
    obtain ⟨ho, ne⟩ := h1 j hj
    rcases get_set e with ⟨e2, _, _⟩ | ⟨_, e2⟩
    · exact absurd e2 ne
    · obtain ⟨a, q1, q2⟩ := r.own j dj e2 ho
      exact ⟨a, by rw [List.getElem?_set_ne (Ne.symm ne)]; exact q1, q2⟩
  sep := fun j k a dj dk hj hk e1 e2 s1 s2 => by
    obtain ⟨o1, n1⟩ := h1 j hj
    obtain ⟨o2, n2⟩ := h1 k hk
    rw [List.getElem?_set_ne (Ne.symm n1)] at e1 s1
    rw [List.getElem?_set_ne (Ne.symm n2)] at e2 s2
    exact r.sep j k a dj dk o1 o2 e1 e2 s1 s2
/-- the slot i gets a new object of one's own -/
theorem Rp.putO {G' H' : Hp} {a : Addr} (r : Rp w K B O ρ σ G H) (g : Gr G H G' H') (n1 : H a = none) (n2 : G' a = none) (o : Own w K G' H' a d) (h0 : i ∈ O') (h1 : ∀ j ∈ O', j = i ∨ j ∈ O) (h2 : ∀ j ∈ O, j = i ∨ j ∈ O') :
    Rp w K B O' (ρ.set i (some d)) (σ.set i (some (.ref a))) G' H' where
  len := by rw [List.length_set, List.length_set]; exact r.len
  gr := r.gr.trans g
  dat := fun j dj e n => by
    rcases get_set e with ⟨rfl, e2, hl⟩ | ⟨ne, e2⟩
    · exact absurd h0 n
    · obtain ⟨u, q1, q2⟩ := (r.grow g).dat j dj e2 fun hj => (h2 j hj).elim ne n
      exact ⟨u, by rw [List.getElem?_set_ne (Ne.symm ne)]; exact q1, q2⟩
  own := fun j dj e hj => by
    rcases get_set e with ⟨rfl, e2, hl⟩ | ⟨ne, e2⟩
    · cases e2
      refine ⟨a, List.getElem?_set_self (by rw [r.len]; exact hl), o, n2, ?_⟩
      cases z : B.H a with
      | none => rfl
      | some u => rw [r.gr.keep a u z] at n1; cases n1
    · obtain ⟨b, q1, q2⟩ := (r.grow g).own j dj e2 ((h1 j hj).resolve_left ne)
      exact ⟨b, by rw [List.getElem?_set_ne (Ne.symm ne)]; exact q1, q2⟩
  sep := fun j k b dj dk hj hk e1 e2 s1 s2 => by
    have apart : ∀ (k : Nat) (dk : D), k ∈ O → ρ[k]? = some (some dk) → σ[k]? ≠ some (some (.ref a)) := fun k dk hk e z => by
      obtain ⟨c, q1, q2, _⟩ := r.own k dk e hk
      rw [z] at q1; cases q1
      obtain ⟨u, hu⟩ := q2.there
      rw [hu] at n1; cases n1
    rcases get_set e1 with ⟨z1, _, hl⟩ | ⟨ne1, f1⟩
    · rw [z1, List.getElem?_set_self (by rw [r.len]; exact hl)] at s1
      cases s1
      rcases get_set e2 with ⟨z2, _, _⟩ | ⟨ne2, f2⟩
      · rw [z1, z2]
      · rw [List.getElem?_set_ne (Ne.symm ne2)] at s2
        exact absurd s2 (apart k dk ((h1 k hk).resolve_left ne2) f2)
    · rw [List.getElem?_set_ne (Ne.symm ne1)] at s1
      rcases get_set e2 with ⟨z2, _, hl⟩ | ⟨ne2, f2⟩
      · rw [z2, List.getElem?_set_self (by rw [r.len]; exact hl)] at s2
        cases s2
        exact absurd s1 (apart j dj ((h1 j hj).resolve_left ne1) f1)
      · rw [List.getElem?_set_ne (Ne.symm ne2)] at s2
        exact r.sep j k b dj dk ((h1 j hj).resolve_left ne1) ((h1 k hk).resolve_left ne2) f1 f2 s1 s2
/-- an object of one's own is written -/
theorem Rp.wr {o : HO} {a : Addr} {d0 : D} (r : Rp w K B O ρ σ G H) (hi : i ∈ O) (e : ρ[i]? = some (some d0)) (s : σ[i]? = some (some (.ref a))) (q : Own w K G (upd H a o) a d) : Rp w K B O (ρ.set i (some d)) σ G (upd H a o) := by
  have sp := r.own i d0 e hi
  obtain ⟨a', s', o0, ng, nb⟩ := sp
  rw [s] at s'; cases s'
  have hl : i < ρ.length := (List.getElem?_eq_some_iff.mp e).1
  refine ⟨by rw [List.length_set]; exact r.len, ⟨fun b u z => ?_, fun b u z => ?_, r.gr.fix⟩, fun j dj ej n => ?_, fun j dj ej hj => ?_, fun j k b dj dk hj hk e1 e2 s1 s2 => ?_⟩
  · rw [upd_ne (ne_of_none z ng)]; exact r.sub b u z
  · rw [upd_ne (ne_of_none z nb)]; exact r.gr.keep b u z
  · rcases get_set ej with ⟨rfl, _, _⟩ | ⟨ne, ej⟩
    · exact absurd hi n
    · exact r.dat j dj ej n
  · rcases get_set ej with ⟨rfl, e2, _⟩ | ⟨ne, ej⟩
    · cases e2; exact ⟨a, s, q, ng, nb⟩
    · obtain ⟨b, q1, q2, q3⟩ := r.own j dj ej hj
      have nb' : b ≠ a := fun z => by subst z; exact ne (r.sep j i b dj d0 hj hi ej e q1 s)
      exact ⟨b, q1, q2.grow (Sub.refl _) (upd_ne nb'), q3⟩
  · have at_ : ∀ {k : Nat} {dk : D}, (ρ.set i (some d))[k]? = some (some dk) → ∃ dk', ρ[k]? = some (some dk') := fun {k dk} z => by
      rcases get_set z with ⟨rfl, _, _⟩ | ⟨_, z⟩
      · exact ⟨_, e⟩
      · exact ⟨_, z⟩
    obtain ⟨x1, e1⟩ := at_ e1
    obtain ⟨x2, e2⟩ := at_ e2
    exact r.sep j k b x1 x2 hj hk e1 e2 s1 s2
/-- one slot is frozen -/
theorem Rp.frz1 (r : Rp w K B O ρ σ G H) (i : Nat) : ∃ G', Sub G G' ∧ Rp w K B (O.filter fun j => decide (j ≠ i)) ρ σ G' H := by
  have mem : ∀ {j}, j ∈ (O.filter fun j => decide (j ≠ i)) ↔ j ∈ O ∧ j ≠ i := fun {j} => by rw [List.mem_filter, decide_eq_true_eq]
  by_cases hi : i ∈ O
  · cases e : ρ[i]? with
    | none => exact ⟨G, Sub.refl _, r.len, r.gr, fun j dj ej n => r.dat j dj ej fun hj => n (mem.mpr ⟨hj, fun z => by subst z; rw [e] at ej; cases ej⟩), fun j dj ej hj => r.own j dj ej (mem.mp hj).1, fun j k b dj dk hj hk => r.sep j k b dj dk (mem.mp hj).1 (mem.mp hk).1⟩
    | some od =>
      cases od with
      | none => exact ⟨G, Sub.refl _, r.len, r.gr, fun j dj ej n => r.dat j dj ej fun hj => n (mem.mpr ⟨hj, fun z => by subst z; rw [e] at ej; cases ej⟩), fun j dj ej hj => r.own j dj ej (mem.mp hj).1, fun j k b dj dk hj hk => r.sep j k b dj dk (mem.mp hj).1 (mem.mp hk).1⟩
      | some d0 =>
        obtain ⟨a, s, o, ng, nb⟩ := r.own i d0 e hi
        obtain ⟨u, hu⟩ := o.there
        have sg : Sub G (upd G a u) := fun b x z => by rw [upd_ne (ne_of_none z ng)]; exact z
        refine ⟨upd G a u, sg, r.len, ⟨fun b x z => ?_, r.gr.keep, fun b z => ?_⟩, fun j dj ej n => ?_, fun j dj ej hj => ?_, fun j k b dj dk hj hk => r.sep j k b dj dk (mem.mp hj).1 (mem.mp hk).1⟩
        · by_cases hb : b = a
          · subst hb; rw [upd_same] at z; cases z; exact hu
          · rw [upd_ne hb] at z; exact r.sub b x z
        · rw [upd_ne fun q => z (by rw [q]; exact nb)]; exact r.gr.fix b z
        · by_cases hj : j = i
          · subst hj; rw [e] at ej; cases ej; exact ⟨_, s, o.dt ng hu⟩
          · obtain ⟨x, q1, q2⟩ := r.dat j dj ej fun z => n (mem.mpr ⟨z, hj⟩)
            exact ⟨x, q1, q2.sub sg⟩
        · obtain ⟨hjO, hji⟩ := mem.mp hj
          obtain ⟨b, q1, q2, q3, q4⟩ := r.own j dj ej hjO
          have ne : b ≠ a := fun z => by subst z; exact hji (r.sep j i b dj d0 hjO hi ej e q1 s)
          exact ⟨b, q1, q2.grow sg rfl, by rw [upd_ne ne]; exact q3, q4⟩
  · exact ⟨G, Sub.refl _, r.len, r.gr, fun j dj ej n => r.dat j dj ej fun hj => n (mem.mpr ⟨hj, fun z => hi (z ▸ hj)⟩), fun j dj ej hj => r.own j dj ej (mem.mp hj).1, fun j k b dj dk hj hk => r.sep j k b dj dk (mem.mp hj).1 (mem.mp hk).1⟩
/-- an object that is neither frozen nor a slot's -/
theorem Rp.out {a : Addr} {o : HO} (r : Rp w K B O ρ σ G H) (n : G a = none) (nb : B.H a = none) (ap : ∀ (i : Nat) (d : D), i ∈ O → ρ[i]? = some (some d) → σ[i]? ≠ some (some (.ref a))) : Rp w K B O ρ σ G (upd H a o) where
  len := r.len
  gr := ⟨fun b u z => by rw [upd_ne (ne_of_none z n)]; exact r.sub b u z, fun b u z => by rw [upd_ne (ne_of_none z nb)]; exact r.gr.keep b u z, r.gr.fix⟩
  dat := r.dat
  own := fun i d e hi => by
    obtain ⟨b, q1, q2, q3⟩ := r.own i d e hi
    exact ⟨b, q1, q2.grow (Sub.refl _) (upd_ne fun z => ap i d hi e (by rw [← z]; exact q1)), q3⟩
  sep := r.sep
/-- what is known of O is a matter of its members -/
theorem Rp.re (r : Rp w K B O ρ σ G H) (h1 : ∀ j ∈ O', j ∈ O) (h2 : ∀ j ∈ O, j ∈ O') : Rp w K B O' ρ σ G H :=
  ⟨r.len, r.gr, fun j dj e n => r.dat j dj e fun z => n (h2 j z), fun j dj e hj => r.own j dj e (h1 j hj), fun j k b dj dk hj hk => r.sep j k b dj dk (h1 j hj) (h1 k hk)⟩
theorem Rp.frzTo (r : Rp w K B O ρ σ G H) (h1 : ∀ j ∈ O', j ∈ O) : ∃ G', Sub G G' ∧ Rp w K B O' ρ σ G' H := by
  have step : ∀ (l : List Nat) (O1 : List Nat) (G1 : Hp), Sub G G1 → Rp w K B O1 ρ σ G1 H → (∀ j ∈ O1, j ∈ O' ∨ j ∈ l) → (∀ j ∈ O', j ∈ O1) → (∀ j ∈ l, j ∉ O') → ∃ G', Sub G G' ∧ Rp w K B O' ρ σ G' H := by
    intro l
    induction l with
    | nil => intro O1 G1 s1 r1 a b _; exact ⟨G1, s1, r1.re b fun j hj => (a j hj).resolve_right (by simp)⟩
    | cons i l ih =>
      intro O1 G1 s1 r1 a b c
      obtain ⟨G2, s2, r2⟩ := r1.frz1 i
      refine ih _ G2 (s1.trans s2) r2 (fun j hj => ?_) (fun j hj => ?_) fun j hj => c j (List.mem_cons_of_mem _ hj)
      · obtain ⟨x, y⟩ := List.mem_filter.mp hj
        have y : j ≠ i := of_decide_eq_true y
        rcases a j x with z | z
        · exact .inl z
        · exact .inr ((List.mem_cons.mp z).resolve_left y)
      · exact List.mem_filter.mpr ⟨b j hj, decide_eq_true fun z => c i List.mem_cons_self (z ▸ hj)⟩
  refine step (O.filter fun j => decide (j ∉ O')) O G (Sub.refl _) r (fun j hj => ?_) h1 fun j hj => of_decide_eq_true (List.mem_filter.mp hj).2
  by_cases z : j ∈ O'
  · exact .inl z
  · exact .inr (List.mem_filter.mpr ⟨hj, decide_eq_true z⟩)
end

/-! ### statements -/
inductive Out where
  | nx (ρ : Env')
  | rt (d : D)
/-- what is wanted behind a statement -/
def Post (w : World) (K : PySem.W.Frag) (B : Bas) (O : List Nat) (fr : Bool) (G : Hp) (Dn : Ends) : Out → Prop
  | .nx ρ => ∀ σ G' H', Sub G G' → Rp w K B O ρ σ G' H' → Dn.nx σ H'
  | .rt d => ∀ v G' H', Back w K fr B.G B.H G' H' v d → Dn.rt v H'
def sV (w : World) (K : PySem.W.Frag) (e : Nat → D → Prop) (O O' : List Nat) (fr : Bool) (f : Env' → R Out) : TS := fun Dn σ H => ∃ B ρ G, Rp w K B O ρ σ G H ∧ gd (f ρ) (Post w K B O' fr G Dn) e
theorem Post.up {w : World} {K : PySem.W.Frag} {B : Bas} {O : List Nat} {fr : Bool} {G G' : Hp} {Dn : Ends} {o : Out} (s : Sub G G') (h : Post w K B O fr G Dn o) : Post w K B O fr G' Dn o := by
  cases o with
  | nx ρ => exact fun σ G2 H2 s2 r => h σ G2 H2 (s.trans s2) r
  | rt d => exact h
def seqD (f g : Env' → R Out) : Env' → R Out := fun ρ => f ρ >>= fun o => match o with
  | .nx ρ' => g ρ'
  | .rt d => .ok (.rt d)
section
variable {X : Cx} {a b : Expr} {st : Stmt} {sts : List Stmt} {pos : Pos} {e : Nat → D → Prop} {O O1 O' : List Nat} {fr : Bool} {fa : Env' → R D} {f g : Env' → R Out} {fw : Env' → R Bool} {i : Nat}
theorem s_nil : PSs X [] (sV X.w X.K e O O fr fun ρ => .ok (.nx ρ)) := pss_imp pss_nil fun Dn σ H ⟨B, ρ, G, r, q⟩ => q σ G H (Sub.refl _) r
theorem s_cons (h1 : PS X st (sV X.w X.K e O O1 fr f)) (h2 : PSs X sts (sV X.w X.K e O1 O' fr g)) : PSs X (st :: sts) (sV X.w X.K e O O' fr (seqD f g)) := by
  refine pss_imp (pss_cons h1 h2) fun Dn σ H ⟨B, ρ, G, r, q⟩ => ⟨B, ρ, G, r, gd_mono (gd_bind.mp q) fun o q => ?_⟩
  cases o with
  | nx ρ' => exact fun σ' G' H' s' r' => ⟨B, ρ', G', r', gd_mono q fun o q => q.up s'⟩
  | rt d => exact q
theorem s_one (h1 : PS X st (sV X.w X.K e O O' fr f)) : PSs X [st] (sV X.w X.K e O O' fr f) := pss_one h1
/-- slots frozen ahead of a block; behind it -/
theorem s_frz (h : PSs X sts (sV X.w X.K e O1 O' fr f)) (h1 : ∀ j ∈ O1, j ∈ O := by decide) : PSs X sts (sV X.w X.K e O O' fr f) := by
  refine pss_imp h fun Dn σ H ⟨B, ρ, G, r, q⟩ => ?_
  obtain ⟨G', s', r'⟩ := r.frzTo h1
  exact ⟨B, ρ, G', r', gd_mono q fun o q => q.up s'⟩
theorem s_frzE (h : PSs X sts (sV X.w X.K e O O1 fr f)) (h1 : ∀ j ∈ O', j ∈ O1 := by decide) : PSs X sts (sV X.w X.K e O O' fr f) := by
  refine pss_imp h fun Dn σ H ⟨B, ρ, G, r, q⟩ => ⟨B, ρ, G, r, gd_mono q fun o q => ?_⟩
  cases o with
  | nx ρ' =>
    intro σ' G' H' s' r'
    obtain ⟨G2, s2, r2⟩ := r'.frzTo h1
    exact q σ' G2 H' (s'.trans s2) r2
  | rt d => exact q
theorem s_frz1 (h : PS X st (sV X.w X.K e O1 O' fr f)) (h1 : ∀ j ∈ O1, j ∈ O := by decide) : PS X st (sV X.w X.K e O O' fr f) := by
  refine ps_imp h fun Dn σ H ⟨B, ρ, G, r, q⟩ => ?_
  obtain ⟨G', s', r'⟩ := r.frzTo h1
  exact ⟨B, ρ, G', r', gd_mono q fun o q => q.up s'⟩
/-- a way that is not gone -/
theorem s_nev : PS X st (sV X.w X.K e O O' fr fun _ => stk) := ps_imp ps_never fun Dn σ H ⟨B, ρ, G, r, q⟩ => q
theorem s_nevs : PSs X sts (sV X.w X.K e O O' fr fun _ => stk) := pss_imp pss_never fun Dn σ H ⟨B, ρ, G, r, q⟩ => q
theorem s_doc {x j p p'} : PS X (.Expr (.Constant (.str x) j p) p') (sV X.w X.K e O O fr fun ρ => .ok (.nx ρ)) := ps_imp ps_doc fun Dn σ H ⟨B, ρ, G, r, q⟩ => q σ G H (Sub.refl _) r
theorem s_ex (h : PE X a (tV X.w X.K e O fa)) (hs : swapsWith a none pos.line X.env = pure false := by rfl) : PS X (.Expr a pos) (sV X.w X.K e O O fr fun ρ => fa ρ >>= fun _ => .ok (.nx ρ)) :=
  ps_imp (ps_expr h hs) fun Dn σ H ⟨B, ρ, G, r, q⟩ => ⟨B, ρ, G, r, gd_mono (gd_bind.mp q) fun d q v G1 H1 g1 t => q σ G1 H1 (g1.up r.sub) (r.grow g1)⟩
theorem s_ret (h : PE X a (tV X.w X.K e O fa)) : PS X (.Return (some a) pos) (sV X.w X.K e O O' false fun ρ => fa ρ >>= fun d => .ok (.rt d)) :=
  ps_imp (ps_ret h) fun Dn σ H ⟨B, ρ, G, r, q⟩ => ⟨B, ρ, G, r, gd_mono (gd_bind.mp q) fun d q v G1 H1 g1 t => q v G1 H1 ⟨r.gr.trans g1, t⟩⟩
theorem s_retO (h : PE X a (tO X.w X.K e O fa)) : PS X (.Return (some a) pos) (sV X.w X.K e O O' true fun ρ => fa ρ >>= fun d => .ok (.rt d)) := by
  refine ps_imp (ps_ret h) fun Dn σ H ⟨B, ρ, G, r, q⟩ => ⟨B, ρ, G, r, gd_mono (gd_bind.mp q) fun d q p G1 H1 g1 n1 n2 o => q (.ref p) G1 H1 ⟨r.gr.trans g1, p, rfl, ?_, n2, o⟩⟩
  cases z : B.H p with
  | none => rfl
  | some u => rw [r.gr.keep p u z] at n1; cases n1
/-- return x, x one's own -/
theorem s_retS (i : Nat) {x : Str} {p : Pos} (hi : i ∈ O := by decide) (hN : X.N[i]? = some x := by rfl) (hv : Vis X.env.scope x := by first | exact Or.inl rfl | exact Or.inr (Or.inl rfl) | exact Or.inr (Or.inr rfl)) (hd : (x == ("__debug__" : Str)) = false := by decide)
    (hc : (x == ("__classdict__" : Str)) = false := by decide) : PS X (.Return (some (.Name x p)) pos) (sV X.w X.K e O O' true fun ρ => gv ρ i >>= fun d => .ok (.rt d)) := by
  refine ps_imp (ps_ret (pv i hN hv hd hc)) fun Dn σ H ⟨B, ρ, G, r, q⟩ => ?_
  have q : gd (gv ρ i) _ e := gd_bind.mp q
  unfold gv at q
  cases z : ρ[i]? with
  | none => rw [z] at q; exact q.elim
  | some o =>
    cases o with
    | none => rw [z] at q; exact q.elim
    | some d =>
      rw [z] at q
      obtain ⟨p, s1, o, n1, n2⟩ := r.own i d z hi
      exact ⟨_, s1, q (.ref p) G H ⟨r.gr, p, rfl, n2, n1, o⟩⟩
theorem s_retN : PS X (.Return none pos) (sV X.w X.K e O O' false fun _ => .ok (.rt .none)) := ps_imp ps_retN fun Dn σ H ⟨B, ρ, G, r, q⟩ => q .non G H ⟨r.gr, .non⟩
theorem s_if {c : Expr} {ys ns : List Stmt} (hc : PT X c (tW X.w X.K e O fw)) (hy : PSs X ys (sV X.w X.K e O O' fr f)) (hn : PSs X ns (sV X.w X.K e O O' fr g)) : PS X (.If c ys ns pos) (sV X.w X.K e O O' fr fun ρ => fw ρ >>= fun k => if k then f ρ else g ρ) := by
  refine ps_imp (ps_if hc hy hn) fun Dn σ H ⟨B, ρ, G, r, q⟩ => ⟨B, ρ, G, r, gd_mono (gd_bind.mp q) fun k q G1 H1 g1 => ?_⟩
  cases k with
  | true => exact iteT ⟨B, ρ, G1, r.grow g1, gd_mono q fun o q => q.up (g1.up r.sub)⟩
  | false => exact iteF ⟨B, ρ, G1, r.grow g1, gd_mono q fun o q => q.up (g1.up r.sub)⟩
def setD (i : Nat) (d : D) (ρ : Env') : R Out := .ok (.nx (ρ.set i (some d)))
theorem s_set (i : Nat) {x : Str} {p : Pos} (hN : X.N.Nodup) (h : PE X a (tV X.w X.K e O fa)) (h1 : ∀ j ∈ O', j ∈ O ∧ j ≠ i := by decide) (h2 : ∀ j ∈ O, j = i ∨ j ∈ O' := by decide) (hi : X.N[i]? = some x := by rfl) (hx : Loc X.env.scope x := by first | exact Or.inl rfl | exact Or.inr rfl) (hs : swapsWith a (some (.Name x p)) pos.line X.env = pure false := by rfl)
    (hf : X.fn x = true ∨ X.env.scope.names.lookup x = some .local := by first | exact .inl rfl | exact .inr rfl) : PS X (.Assign [.Name x p] a pos) (sV X.w X.K e O O' fr fun ρ => fa ρ >>= fun d => setD i d ρ) :=
  ps_imp (L2.ps_set hN hi hx h hs hf) fun Dn σ H ⟨B, ρ, G, r, q⟩ => ⟨B, ρ, G, r, gd_mono (gd_bind.mp q) fun d q v G1 H1 g1 t => q _ G1 H1 (g1.up r.sub) ((r.grow g1).put t h1 h2)⟩
theorem s_setO (i : Nat) {x : Str} {p : Pos} (hN : X.N.Nodup) (h : PE X a (tO X.w X.K e O fa)) (h0 : i ∈ O' := by decide) (h1 : ∀ j ∈ O', j = i ∨ j ∈ O := by decide) (h2 : ∀ j ∈ O, j = i ∨ j ∈ O' := by decide) (hi : X.N[i]? = some x := by rfl) (hx : Loc X.env.scope x := by first | exact Or.inl rfl | exact Or.inr rfl) (hs : swapsWith a (some (.Name x p)) pos.line X.env = pure false := by rfl)
    (hf : X.fn x = true ∨ X.env.scope.names.lookup x = some .local := by first | exact .inl rfl | exact .inr rfl) : PS X (.Assign [.Name x p] a pos) (sV X.w X.K e O O' fr fun ρ => fa ρ >>= fun d => setD i d ρ) :=
  ps_imp (L2.ps_set hN hi hx h hs hf) fun Dn σ H ⟨B, ρ, G, r, q⟩ => ⟨B, ρ, G, r, gd_mono (gd_bind.mp q) fun d q p G1 H1 g1 n1 n2 o => q _ G1 H1 (g1.up r.sub) (r.putO g1 n1 n2 o h0 h1 h2)⟩
end

/-! ### targets -/
/-- what a store into the slots vs leaves -/
structure Tg (vs O : List Nat) (ρ ρ' : Env') (σ σ' : L2.St) : Prop where
  off : ∀ j, j ∉ vs → σ'[j]? = σ[j]?
  len : σ'.length = σ.length
  own : ∀ j ∈ O, ρ'[j]? = ρ[j]? ∧ σ'[j]? = σ[j]?
/-- a target: where a datum goes; vs: the slots that it stores -/
def gT (w : World) (K : PySem.W.Frag) (e : Nat → D → Prop) (O : List Nat) (vs : List Nat) (tg : D → Env' → R Env') : TG := fun v σ H Q => ∃ B ρ G d, Rp w K B O ρ σ G H ∧ Dt w K G v d ∧
  gd (tg d ρ) (fun ρ' => ∀ σ', Tg vs O ρ ρ' σ σ' → Rp w K B O ρ' σ' G H → Q σ' H) e
def gTs (w : World) (K : PySem.W.Frag) (e : Nat → D → Prop) (O : List Nat) (vs : List Nat) (tg : List D → Env' → R Env') : TGs := fun us σ H Q => ∃ B ρ G ds, Rp w K B O ρ σ G H ∧ DtAll w K G us ds ∧
  gd (tg ds ρ) (fun ρ' => ∀ σ', Tg vs O ρ ρ' σ σ' → Rp w K B O ρ' σ' G H → Q σ' H) e
def tgN (i : Nat) : D → Env' → R Env' := fun d ρ => .ok (ρ.set i (some d))
def tsN : List D → Env' → R Env' := fun ds ρ => match ds with
  | [] => .ok ρ
  | _ => stk
def tsC (tg : D → Env' → R Env') (tgs : List D → Env' → R Env') : List D → Env' → R Env' := fun ds ρ => match ds with
  | d :: ds => tg d ρ >>= fun ρ1 => tgs ds ρ1
  | [] => stk
section
variable {X : Cx} {a : Expr} {as : List Expr} {pos : Pos} {e : Nat → D → Prop} {O vs ws : List Nat} {tg : D → Env' → R Env'} {tgs : List D → Env' → R Env'}
theorem pg_imp {t t' : TG} (h : PG X a t) (i : ∀ v σ H Q, t' v σ H Q → t v σ H Q) : PG X a t' := ⟨fun p s σ H v u Q I r q => h.run p s σ H v u Q I r (i v σ H Q q)⟩
theorem pgs_imp {t t' : TGs} (h : PGs X as t) (i : ∀ v σ H Q, t' v σ H Q → t v σ H Q) : PGs X as t' := ⟨fun p s σ H v u Q I r q => h.run p s σ H v u Q I r (i v σ H Q q)⟩
theorem g_nm (i : Nat) {x : Str} {p : Pos} (hN : X.N.Nodup) (ho : i ∉ O := by decide) (hi : X.N[i]? = some x := by rfl) (hx : Loc X.env.scope x := by first | exact Or.inl rfl | exact Or.inr rfl)
    (hf : X.fn x = true ∨ X.env.scope.names.lookup x = some .local := by first | exact .inl rfl | exact .inr rfl) : PG X (.Name x p) (gT X.w X.K e O [i] (tgN i)) :=
  pg_imp (pg_name hN hi hx hf) fun v σ H Q ⟨B, ρ, G, d, r, t, q⟩ => q _ ⟨fun j hj => List.getElem?_set_ne (fun z => hj (by rw [z]; exact List.mem_singleton_self _)), List.length_set .., fun j hj => have ne : i ≠ j := fun z => ho (by rw [z]; exact hj); ⟨List.getElem?_set_ne ne, List.getElem?_set_ne ne⟩⟩ (r.put t (fun j hj => ⟨hj, fun z => ho (by rw [← z]; exact hj)⟩) fun j hj => .inr hj)
theorem gs_nil : PGs X [] (gTs X.w X.K e O [] tsN) := by
  refine pgs_imp pgs_nil fun us σ H Q ⟨B, ρ, G, ds, r, t, q⟩ => ?_
  cases t with
  | nil => exact ⟨rfl, q σ ⟨fun _ _ => rfl, rfl, fun _ _ => ⟨rfl, rfl⟩⟩ r⟩
  | cons _ _ => exact q.elim
theorem gs_cons (h1 : PG X a (gT X.w X.K e O vs tg)) (h2 : PGs X as (gTs X.w X.K e O ws tgs)) (hs : (assignEach (a :: as) X.env).map (·.2) = assign a X.env :: (assignEach as X.env).map (·.2) := by rfl) :
    PGs X (a :: as) (gTs X.w X.K e O (vs ++ ws) (tsC tg tgs)) := by
  refine pgs_imp (pgs_cons h1 h2 hs) fun us σ H Q ⟨B, ρ, G, ds, r, t, q⟩ => ?_
  cases t with
  | nil => exact q.elim
  | cons t1 t2 =>
    refine ⟨_, _, rfl, B, ρ, G, _, r, t1, gd_mono (gd_bind.mp q) fun ρ1 q σ1 k1 r1 => ⟨B, ρ1, G, _, r1, t2, gd_mono q fun ρ2 q σ2 k2 r2 => q σ2 ⟨fun j hj => ?_, k2.len.trans k1.len, fun j hj => ⟨(k2.own j hj).1.trans (k1.own j hj).1, (k2.own j hj).2.trans (k1.own j hj).2⟩⟩ r2⟩⟩
    rw [k2.off j fun z => hj (List.mem_append_right _ z), k1.off j fun z => hj (List.mem_append_left _ z)]
def unT (n : Nat) (tgs : List D → Env' → R Env') (d : D) (ρ : Env') : R Env' := match d with
  | .tuple ds => if ds.length = n then tgs ds ρ else stk
  | _ => stk
theorem g_tup {k n : Nat} (hc : X.calm = true) (h : PGs X as (gTs X.w X.K e O vs tgs)) (hn : (assignEach as X.env).length = n := by rfl) (hst : (assignEach as X.env).findIdx? (·.1) = none := by rfl) : PG X (.Tuple as k pos) (gT X.w X.K e O vs (unT n tgs)) := by
  refine pg_imp (pg_tup hc h hn hst) fun v σ H Q ⟨B, ρ, G, d, r, t, q⟩ => ?_
  cases t with
  | tup s1 t1 =>
    unfold unT at q
    simp only at q
    split at q
    · rename_i hl
      exact ⟨_, _, rfl, SqT.sub r.sub s1, by rw [t1.length]; exact hl, B, ρ, G, _, r, t1, q⟩
    · exact q.elim
  | non => exact q.elim
  | bl _ => exact q.elim
  | int _ => exact q.elim
  | str _ => exact q.elim
  | lst _ _ => exact q.elim
  | dct _ _ _ _ _ _ => exact q.elim
  | scr _ _ => exact q.elim
/-- target = value, any target -/
theorem s_tg {b : Expr} {fa : Env' → R D} {fr : Bool} (h : PE X b (tV X.w X.K e O fa)) (hg : PG X a (gT X.w X.K e O vs tg)) (hs : swapsWithSole [a] b pos.line X.env = pure false := by rfl) (hw : swappedStores [a] b X.env = pure none := by rfl)
    (h1 : (assignEach [a] X.env).map (·.2) = [assign a X.env] := by rfl) : PS X (.Assign [a] b pos) (sV X.w X.K e O O fr fun ρ => fa ρ >>= fun d => tg d ρ >>= fun ρ' => .ok (.nx ρ')) :=
  ps_imp (ps_asg h hg hs hw h1) fun Dn σ H ⟨B, ρ, G, r, q⟩ => ⟨B, ρ, G, r, gd_mono (gd_bind.mp q) fun d q v G1 H1 g1 t => ⟨B, ρ, G1, d, r.grow g1, t, gd_mono (gd_bind.mp q) fun ρ1 q σ1 k1 r1 => q σ1 G1 H1 (g1.up r.sub) r1⟩⟩
/-- a, b = x, y with plain names -/
theorem s_par {i j : Nat} {x y : Str} {b c : Expr} {fs : Env' → R (List D)} {px py pt : Pos} {kt k2 pt2} {fr : Bool} (hc : X.calm = true) (hN : X.N.Nodup) (ha : PA X [b, c] (tA X.w X.K e O fs)) (hoi : i ∉ O := by decide) (hoj : j ∉ O := by decide) (hi : X.N[i]? = some x := by rfl) (hj : X.N[j]? = some y := by rfl) (hij : i ≠ j := by decide)
    (hx : X.env.scope.names.lookup x = some .local := by rfl) (hy : X.env.scope.names.lookup y = some .local := by rfl)
    (hw : swappedStores [.Tuple [.Name x px, .Name y py] kt pt] (.Tuple [b, c] k2 pt2) X.env = pure (some [x, y]) := by rfl)
    (hs : swapsWithSole [.Tuple [.Name x px, .Name y py] kt pt] (.Tuple [b, c] k2 pt2) pos.line X.env = pure false := by rfl) :
    PS X (.Assign [.Tuple [.Name x px, .Name y py] kt pt] (.Tuple [b, c] k2 pt2) pos) (sV X.w X.K e O O fr fun ρ => fs ρ >>= fun ds => match ds with | [d1, d2] => .ok (.nx ((ρ.set i (some d1)).set j (some d2))) | _ => stk) := by
  refine ps_imp (L2.ps_par hc hN hi hj hij hx hy ha hw hs) fun Dn σ H ⟨B, ρ, G, r, q⟩ => ⟨B, ρ, G, r, gd_mono (gd_bind.mp q) fun ds q vs G1 H1 g1 t => ?_⟩
  cases t with
  | nil => exact q.elim
  | cons t1 t =>
    cases t with
    | nil => exact q.elim
    | cons t2 t =>
      cases t with
      | cons _ _ => exact q.elim
      | nil =>
        refine ⟨_, _, rfl, q _ G1 H1 (g1.up r.sub) ?_⟩
        exact ((r.grow g1).put t1 (fun j hj => ⟨hj, fun z => hoi (by rw [← z]; exact hj)⟩) fun j hj => .inr hj).put t2 (fun j hj => ⟨hj, fun z => hoj (by rw [← z]; exact hj)⟩) fun j hj => .inr hj
end

/-! ### what is walked -/
/-- J walks the data ds from where the frozen part is G0 -/
structure Wk (w : World) (K : PySem.W.Frag) (J : It) (G0 : Hp) (ds : List D) : Prop where
  go : ∀ (i : Nat) (G H : Hp), Sub G0 G → Sub G H → i < ds.length → J.go i H
  stop : ∀ (G H : Hp), Sub G0 G → Sub G H → J.stop ds.length H
  yld : ∀ (i : Nat) (d : D) (G H : Hp) (x : V) (H' : Hp), Sub G0 G → Sub G H → ds[i]? = some d → J.yld i H x H' → ∃ G', Gr G H G' H' ∧ Dt w K G' x d
def iV (w : World) (K : PySem.W.Frag) (e : Nat → D → Prop) (O : List Nat) (f : Env' → R (List D)) : TI := fun σ H Q => ∃ B ρ G, Rp w K B O ρ σ G H ∧
  gd (f ρ) (fun ds => ∀ J G' H', Gr G H G' H' → Wk w K J G' ds → Q J H') e
def itL : D → R (List D)
  | .list ds => .ok ds
  | _ => stk
def itT : D → R (List D)
  | .tuple ds => .ok ds
  | _ => stk
def itS : D → R (List D)
  | .str x => .ok (x.cps.toList.map fun c => .str ⟨#[c]⟩)
  | _ => stk
def rgD (lo : Int) (n : Nat) : List D := (List.range n).map fun (i : Nat) => .int (lo + i)
def enD (i : Nat) : List D → List D
  | [] => []
  | d :: ds => .tuple [.int (i : Nat), d] :: enD (i + 1) ds
theorem enD_get : ∀ (ds : List D) (k i : Nat) (d : D), (enD k ds)[i]? = some d → ∃ x, ds[i]? = some x ∧ d = .tuple [.int ((k + i : Nat) : Int), x]
  | [], _, _, _, h => by simp [enD] at h
  | x :: ds, k, 0, d, h => ⟨x, rfl, by simp [enD] at h; rw [← h]; rfl⟩
  | x :: ds, k, i + 1, d, h => by
    obtain ⟨y, h1, h2⟩ := enD_get ds (k + 1) i d (by simpa [enD] using h)
    exact ⟨y, h1, by rw [h2, show k + 1 + i = k + (i + 1) by omega]⟩
theorem enD_len : ∀ (ds : List D) (k : Nat), (enD k ds).length = ds.length
  | [], _ => rfl
  | _ :: ds, k => by rw [enD, List.length_cons, List.length_cons, enD_len ds]
section
variable {X : Cx} {a b tgt : Expr} {pos p : Pos} {e : Nat → D → Prop} {O : List Nat} {fa fb : Env' → R D} {fs : Env' → R (List D)}
theorem pi_imp {t t' : TI} (h : PI X tgt a t) (i : ∀ σ H Q, t' σ H Q → t σ H Q) : PI X tgt a t' := ⟨fun p s σ H Q I q => h.run p s σ H Q I (i σ H Q q)⟩
theorem wk_list {w : World} {K : PySem.W.Frag} {G : Hp} {a : Addr} {xs : List V} {ds : List D} (h : Rd G a (.lst xs)) (t : DtAll w K G xs ds) : Wk w K (Itl K a) G ds where
  go := fun i G' H s1 s2 hi => by
    have sq : SqL K H a xs := Rd.sq (Rd.sub s2 (Rd.sub s1 h))
    have hx : i < xs.length := by rw [t.length]; exact hi
    exact ⟨xs, xs[i], sq, List.getElem?_eq_getElem hx⟩
  stop := fun G' H s1 s2 => ⟨xs, Rd.sq (Rd.sub s2 (Rd.sub s1 h)), by rw [t.length]; exact Nat.le_refl _⟩
  yld := fun i d G' H x H' s1 s2 hd y => by
    obtain ⟨rfl, y⟩ := y
    have e1 := y xs (Rd.sq (Rd.sub s2 (Rd.sub s1 h)))
    obtain ⟨d', e2, t2⟩ := t.get e1
    rw [hd] at e2; cases e2
    exact ⟨G', Gr.refl s2, t2.sub s1⟩
theorem wk_tup {w : World} {K : PySem.W.Frag} {G : Hp} {a : Addr} {xs : List V} {ds : List D} (h : SqT K G a xs) (t : DtAll w K G xs ds) : Wk w K (Itt K a) G ds where
  go := fun i G' H s1 s2 hi => by
    have sq : SqT K H a xs := SqT.sub s2 (SqT.sub s1 h)
    have hx : i < xs.length := by rw [t.length]; exact hi
    exact ⟨xs, xs[i], sq, List.getElem?_eq_getElem hx⟩
  stop := fun G' H s1 s2 => ⟨xs, SqT.sub s2 (SqT.sub s1 h), by rw [t.length]; exact Nat.le_refl _⟩
  yld := fun i d G' H x H' s1 s2 hd y => by
    obtain ⟨rfl, y⟩ := y
    have e1 := y xs (SqT.sub s2 (SqT.sub s1 h))
    obtain ⟨d', e2, t2⟩ := t.get e1
    rw [hd] at e2; cases e2
    exact ⟨G', Gr.refl s2, t2.sub s1⟩
theorem wk_rng {w : World} {K : PySem.W.Frag} {G : Hp} {lo : Int} {n : Nat} : Wk w K (Itr lo n) G (rgD lo n) where
  go := fun i G' H s1 s2 hi => by
    rw [rgD, List.length_map, List.length_range] at hi
    exact hi
  stop := fun G' H s1 s2 => by
    show n ≤ _
    rw [rgD, List.length_map, List.length_range]
    exact Nat.le_refl _
  yld := fun i d G' H x H' s1 s2 hd y => by
    obtain ⟨rfl, rfl⟩ := y
    refine ⟨G', Gr.refl s2, ?_⟩
    rw [rgD, List.getElem?_map] at hd
    cases q : (List.range n)[i]? with
    | none => rw [q] at hd; cases hd
    | some k =>
      rw [q] at hd
      have e1 : k = i := by
        rw [List.getElem?_eq_some_iff] at q
        obtain ⟨h1, h2⟩ := q
        rw [List.getElem_range] at h2
        exact h2.symm
      subst e1
      cases hd
      exact .int _
theorem wk_en {w : World} {K : PySem.W.Frag} {G : Hp} {a : Addr} {xs : List V} {ds : List D} (h : Rd G a (.lst xs)) (t : DtAll w K G xs ds) : Wk w K (Ite K a) G (enD 0 ds) where
  go := fun i G' H s1 s2 hi => by
    have sq : SqL K H a xs := Rd.sq (Rd.sub s2 (Rd.sub s1 h))
    have hx : i < xs.length := by rw [t.length]; rw [enD_len] at hi; exact hi
    exact ⟨xs, xs[i], sq, List.getElem?_eq_getElem hx⟩
  stop := fun G' H s1 s2 => ⟨xs, Rd.sq (Rd.sub s2 (Rd.sub s1 h)), by rw [t.length, enD_len]; exact Nat.le_refl _⟩
  yld := fun i d G' H x H' s1 s2 hd y => by
    obtain ⟨T, z, rfl, nT, rfl, y⟩ := y
    have e1 := y xs (Rd.sq (Rd.sub s2 (Rd.sub s1 h)))
    obtain ⟨d', e2, t2⟩ := t.get e1
    obtain ⟨x, e3, rfl⟩ := enD_get ds 0 i d hd
    rw [e3] at e2; cases e2
    have g2 := Gr.new (o := .tup [.int (i : Nat), z]) s2 nT
    refine ⟨_, g2, .tup (.inl (.inl upd_same)) (.cons ?_ (.cons ((t2.sub s1).sub (g2.up s2)) .nil))⟩
    rw [Nat.zero_add]
    exact .int _
theorem wk_str {w : World} {K : PySem.W.Frag} {G : Hp} {x : Str} : Wk w K (Its x) G (x.cps.toList.map fun c => .str ⟨#[c]⟩) where
  go := fun i G' H s1 s2 hi => by
    rw [List.length_map, Array.length_toList] at hi
    exact hi
  stop := fun G' H s1 s2 => by
    show x.cps.size ≤ _
    rw [List.length_map, Array.length_toList]
    exact Nat.le_refl _
  yld := fun i d G' H v H' s1 s2 hd y => by
    obtain ⟨rfl, c, h1, rfl⟩ := y
    refine ⟨G', Gr.refl s2, ?_⟩
    rw [List.getElem?_map, Array.getElem?_toList, h1] at hd
    cases hd
    exact .str _
theorem i_lst (h : PE X a (tV X.w X.K e O fa)) : PI X tgt a (iV X.w X.K e O fun ρ => fa ρ >>= itL) := by
  refine pi_imp (pi_list h) fun σ H Q ⟨B, ρ, G, r, q⟩ => ⟨B, ρ, G, r, gd_mono (gd_bind.mp q) fun d q v G1 H1 g1 t => ?_⟩
  cases t with
  | lst s1 t1 => exact ⟨_, rfl, ⟨_, Rd.sq (Rd.sub g1.sub s1)⟩, q _ G1 H1 g1 (wk_list s1 t1)⟩
  | non => exact q.elim
  | bl _ => exact q.elim
  | int _ => exact q.elim
  | str _ => exact q.elim
  | tup _ _ => exact q.elim
  | dct _ _ _ _ _ _ => exact q.elim
  | scr _ _ => exact q.elim
theorem i_tup (h : PE X a (tV X.w X.K e O fa)) : PI X tgt a (iV X.w X.K e O fun ρ => fa ρ >>= itT) := by
  refine pi_imp (pi_tup h) fun σ H Q ⟨B, ρ, G, r, q⟩ => ⟨B, ρ, G, r, gd_mono (gd_bind.mp q) fun d q v G1 H1 g1 t => ?_⟩
  cases t with
  | tup s1 t1 => exact ⟨_, rfl, ⟨_, SqT.sub g1.sub s1⟩, q _ G1 H1 g1 (wk_tup s1 t1)⟩
  | non => exact q.elim
  | bl _ => exact q.elim
  | int _ => exact q.elim
  | str _ => exact q.elim
  | lst _ _ => exact q.elim
  | dct _ _ _ _ _ _ => exact q.elim
  | scr _ _ => exact q.elim
theorem i_str (h : PE X a (tV X.w X.K e O fa)) : PI X tgt a (iV X.w X.K e O fun ρ => fa ρ >>= itS) := by
  refine pi_imp (pi_str h) fun σ H Q ⟨B, ρ, G, r, q⟩ => ⟨B, ρ, G, r, gd_mono (gd_bind.mp q) fun d q v G1 H1 g1 t => ?_⟩
  cases t with
  | str x => exact ⟨_, rfl, q _ G1 H1 g1 wk_str⟩
  | non => exact q.elim
  | bl _ => exact q.elim
  | int _ => exact q.elim
  | lst _ _ => exact q.elim
  | tup _ _ => exact q.elim
  | dct _ _ _ _ _ _ => exact q.elim
  | scr _ _ => exact q.elim
def rg1 : List D → R (List D)
  | [.int n] => if -(2 ^ 62) ≤ n ∧ n < 2 ^ 62 then .ok (rgD 0 n.toNat) else stk
  | _ => stk
def rg2 : List D → R (List D)
  | [.int m, .int n] => if (-(2 ^ 62) ≤ m ∧ m < 2 ^ 62) ∧ -(2 ^ 62) ≤ n ∧ n < 2 ^ 62 then .ok (rgD m (n - m).toNat) else stk
  | _ => stk
theorem i_rg1 (hm : X.mg "range" = none) (h : PA X [a] (tA X.w X.K e O fs)) (hg : Gl X "range" := by rfl) (hs : starEach [a] X.env = [(false, eval a X.env)] := by rfl) : PI X tgt (.Call (.Name "range" p) [a] [] pos) (iV X.w X.K e O fun ρ => fs ρ >>= rg1) := by
  refine pi_imp (pi_range1 hg hm h hs) fun σ H Q ⟨B, ρ, G, r, q⟩ => ⟨B, ρ, G, r, gd_mono (gd_bind.mp q) fun ds q vs G1 H1 g1 t => ?_⟩
  unfold rg1 at q
  split at q
  · cases t with
    | cons t1 t2 =>
      cases t2
      cases t1
      split at q
      · rename_i hb
        exact ⟨_, rfl, hb.1, hb.2, q _ G1 H1 g1 wk_rng⟩
      · exact q.elim
  · exact q.elim
theorem i_rg2 (hm : X.mg "range" = none) (h : PA X [a, b] (tA X.w X.K e O fs)) (hg : Gl X "range" := by rfl) (hs : starEach [a, b] X.env = [(false, eval a X.env), (false, eval b X.env)] := by rfl) (hs2 : starEach [b] X.env = [(false, eval b X.env)] := by rfl) :
    PI X tgt (.Call (.Name "range" p) [a, b] [] pos) (iV X.w X.K e O fun ρ => fs ρ >>= rg2) := by
  refine pi_imp (pi_range2 hg hm h hs hs2) fun σ H Q ⟨B, ρ, G, r, q⟩ => ⟨B, ρ, G, r, gd_mono (gd_bind.mp q) fun ds q vs G1 H1 g1 t => ?_⟩
  unfold rg2 at q
  split at q
  · cases t with
    | cons t1 t2 =>
      cases t2 with
      | cons t2 t3 =>
        cases t3
        cases t1
        cases t2
        split at q
        · rename_i hb
          exact ⟨_, _, rfl, ⟨hb.1.1, hb.1.2, hb.2.1, hb.2.2⟩, q _ G1 H1 g1 wk_rng⟩
        · exact q.elim
  · exact q.elim
def en1 : List D → R (List D)
  | [.list ds] => .ok (enD 0 ds)
  | _ => stk
theorem i_en {elts : List Expr} {kk : Nat} {tp : Pos} (hm : X.mg "enumerate" = none) (h : PA X [a] (tA X.w X.K e O fs)) (hg : Gl X "enumerate" := by rfl) (hs : starEach [a] X.env = [(false, eval a X.env)] := by rfl) : PI X (.Tuple elts kk tp) (.Call (.Name "enumerate" p) [a] [] pos) (iV X.w X.K e O fun ρ => fs ρ >>= en1) := by
  refine pi_imp (pi_enum hg hm h hs) fun σ H Q ⟨B, ρ, G, r, q⟩ => ⟨B, ρ, G, r, gd_mono (gd_bind.mp q) fun ds q vs G1 H1 g1 t => ?_⟩
  unfold en1 at q
  split at q
  · cases t with
    | cons t1 t2 =>
      cases t2
      cases t1 with
      | lst s1 t1 => exact ⟨_, _, rfl, Rd.sq (Rd.sub g1.sub s1), q _ G1 H1 g1 (wk_en s1 t1)⟩
  · exact q.elim
end

/-! ### loops -/
def forD (tg : D → Env' → R Env') (fb : Env' → R Out) : List D → Env' → R Out
  | [], ρ => .ok (.nx ρ)
  | d :: ds, ρ => tg d ρ >>= fun ρ1 => fb ρ1 >>= fun o => match o with
    | .nx ρ2 => forD tg fb ds ρ2
    | .rt r => .ok (.rt r)
def whileD (fw : Env' → R Bool) (fb : Env' → R Out) : Nat → Env' → R Out
  | 0, _ => stk
  | n + 1, ρ => fw ρ >>= fun c => if c then fb ρ >>= fun o => match o with
      | .nx ρ2 => whileD fw fb n ρ2
      | .rt r => .ok (.rt r)
    else .ok (.nx ρ)
section
variable {X : Cx} {tgt iter c : Expr} {body : List Stmt} {pos : Pos} {e : Nat → D → Prop} {O vs : List Nat} {fr : Bool} {fi : Env' → R (List D)} {tg : D → Env' → R Env'} {fb : Env' → R Out} {fw : Env' → R Bool}
theorem s_for (hp : PassesOwn (model X.prog X.w) X.A X.env X.xe) (hc : X.calm = true) (hi : PI X tgt iter (iV X.w X.K e O fi)) (hg : PG X tgt (gT X.w X.K e O vs tg)) (hb : PSs X body (sV X.w X.K e O O fr fb)) (hs : ∀ x, foldedSetIterable iter X.env x = pure x := by intro _; rfl) :
    PS X (.For tgt iter body [] pos) (sV X.w X.K e O O fr fun ρ => fi ρ >>= fun ds => forD tg fb ds ρ) := by
  refine ps_imp (ps_for hp hc hi hg hb hs) fun Dn σ H ⟨B, ρ, G, r, q⟩ => ⟨B, ρ, G, r, gd_mono (gd_bind.mp q) fun ds q J G1 H1 g1 wk => ?_⟩
  refine ⟨fun i m σ H => m = ds.length - i ∧ i ≤ ds.length ∧ ∃ ρ G, Rp X.w X.K B O ρ σ G H ∧ Sub G1 G ∧ gd (forD tg fb (ds.drop i) ρ) (Post X.w X.K B O fr G Dn) e, ⟨ds.length, rfl, Nat.zero_le _, ρ, G1, r.grow g1, Sub.refl _, gd_mono q fun o q => q.up (g1.up r.sub)⟩, fun i m σ H hW => ?_⟩
  obtain ⟨rfl, hi, ρ1, G2, r1, s1, q1⟩ := hW
  by_cases hl : i < ds.length
  · refine .inr ⟨wk.go i G2 H s1 r1.sub hl, fun σ' H' => ∃ ρ2 G3, Rp X.w X.K B O ρ2 σ' G3 H' ∧ Sub G1 G3 ∧ gd (forD tg fb (ds.drop (i + 1)) ρ2) (Post X.w X.K B O fr G3 Dn) e, fun σ' H' ⟨ρ2, G3, r2, s2, q2⟩ => ⟨ds.length - (i + 1), by omega, rfl, hl, ρ2, G3, r2, s2, q2⟩, fun x H' y => ?_⟩
    rw [List.drop_eq_getElem_cons hl] at q1
    obtain ⟨G3, g3, t3⟩ := wk.yld i ds[i] G2 H x H' s1 r1.sub (List.getElem?_eq_getElem hl) y
    have s3 : Sub G1 G3 := s1.trans (g3.up r1.sub)
    refine ⟨B, ρ1, G3, ds[i], r1.grow g3, t3, gd_mono (gd_bind.mp q1) fun ρ2 q2 σ2 _ r2 => ⟨B, ρ2, G3, r2, gd_mono (gd_bind.mp q2) fun o q3 => ?_⟩⟩
    cases o with
    | nx ρ3 => exact fun σ4 G4 H4 s4 r4 => ⟨ρ3, G4, r4, s3.trans s4, gd_mono q3 fun o q => q.up ((g3.up r1.sub).trans s4)⟩
    | rt d => exact q3
  · have e1 : i = ds.length := by omega
    subst e1
    rw [List.drop_length] at q1
    exact .inl ⟨wk.stop G2 H s1 r1.sub, q1 σ G2 H (Sub.refl _) r1⟩
theorem s_while (n : Nat) (hp : PassesOwn (model X.prog X.w) X.A X.env X.xe) (hc : PT X c (tW X.w X.K e O fw)) (hb : PSs X body (sV X.w X.K e O O fr fb)) : PS X (.While c body [] pos) (sV X.w X.K e O O fr (whileD fw fb n)) := by
  refine ps_imp (ps_while hp hc hb) fun Dn σ H ⟨B, ρ, G, r, q⟩ => ?_
  refine ⟨fun m σ H => ∃ ρ G, Rp X.w X.K B O ρ σ G H ∧ gd (whileD fw fb m ρ) (Post X.w X.K B O fr G Dn) e, ⟨n, ρ, G, r, q⟩, fun m σ H hW => ?_⟩
  obtain ⟨ρ1, G1, r1, q1⟩ := hW
  cases m with
  | zero => exact q1.elim
  | succ m =>
    refine ⟨B, ρ1, G1, r1, gd_mono (gd_bind.mp q1) fun k q2 G2 H2 g2 => ?_⟩
    cases k with
    | true =>
      refine iteT ⟨fun σ' H' => ∃ ρ2 G3, Rp X.w X.K B O ρ2 σ' G3 H' ∧ gd (whileD fw fb m ρ2) (Post X.w X.K B O fr G3 Dn) e, fun σ' H' ⟨ρ2, G3, r2, q3⟩ => ⟨m, Nat.lt_succ_self _, ρ2, G3, r2, q3⟩, B, ρ1, G2, r1.grow g2, gd_mono (gd_bind.mp q2) fun o q3 => ?_⟩
      cases o with
      | nx ρ3 => exact fun σ4 G4 H4 s4 r4 => ⟨ρ3, G4, r4, gd_mono q3 fun o q => q.up ((g2.up r1.sub).trans s4)⟩
      | rt d => exact q3
    | false => exact iteF (q2 σ G2 H2 (g2.up r1.sub) (r1.grow g2))
end

/-! ### comprehensions -/
def noX {α : Type} : R α → R α
  | .ok a => .ok a
  | .error _ => stk
def wipeD (ρ : Env') : List Nat → Env'
  | [] => ρ
  | v :: vs => (wipeD ρ vs).set v none
def lcD (tg : D → Env' → R Env') (ft : Env' → R Bool) (fe : Env' → R D) (ρ : Env') : List D → R (List D)
  | [] => .ok []
  | d :: ds => tg d ρ >>= fun ρ1 => ft ρ1 >>= fun b => if b then fe ρ1 >>= fun y => lcD tg ft fe ρ ds >>= fun ys => .ok (y :: ys) else lcD tg ft fe ρ ds
abbrev noE : Nat → D → Prop := fun _ _ => False
theorem wipeD_len (ρ : Env') : ∀ vs, (wipeD ρ vs).length = ρ.length
  | [] => rfl
  | v :: vs => by rw [wipeD, List.length_set, wipeD_len ρ vs]
theorem wipeD_some {ρ : Env'} {i : Nat} {d : D} : ∀ {vs : List Nat}, (wipeD ρ vs)[i]? = some (some d) → ρ[i]? = some (some d) ∧ i ∉ vs
  | [], h => ⟨h, by simp⟩
  | v :: vs, h => by
    rcases get_set (show ((wipeD ρ vs).set v none)[i]? = some (some d) from h) with ⟨_, z, _⟩ | ⟨ne, z⟩
    · cases z
    · obtain ⟨h1, h2⟩ := wipeD_some z
      exact ⟨h1, fun q => (List.mem_cons.mp q).elim ne h2⟩
theorem wipe_get {σ : L2.St} {i : Nat} : ∀ {vs : List Nat}, i ∉ vs → (wipe σ vs)[i]? = σ[i]?
  | [], _ => rfl
  | v :: vs, h => by
    show ((wipe σ vs).set v none)[i]? = _
    rw [List.getElem?_set_ne fun z => h (by rw [z]; exact List.mem_cons_self)]
    exact wipe_get fun z => h (List.mem_cons_of_mem _ z)
theorem wipe_at {σ : L2.St} {i : Nat} (hl : i < σ.length) : ∀ {vs : List Nat}, i ∈ vs → (wipe σ vs)[i]? = some none
  | v :: vs, h => by
    show ((wipe σ vs).set v none)[i]? = _
    by_cases e : i = v
    · subst e
      exact List.getElem?_set_self (by rw [wipe_length]; exact hl)
    · rw [List.getElem?_set_ne (Ne.symm e)]
      exact wipe_at hl ((List.mem_cons.mp h).resolve_left e)
theorem wipe_same {σ σ' : L2.St} {vs ws : List Nat} (hl : σ'.length = σ.length) (h : ∀ j, j ∉ ws → σ'[j]? = σ[j]?) (hw : ∀ j ∈ ws, j ∈ vs) : wipe σ' vs = wipe σ vs := by
  apply List.ext_getElem?
  intro i
  by_cases hi : i ∈ vs
  · by_cases hlt : i < σ.length
    · rw [wipe_at hlt hi, wipe_at (by rw [hl]; exact hlt) hi]
    · rw [List.getElem?_eq_none (by rw [wipe_length]; omega), List.getElem?_eq_none (by rw [wipe_length]; omega)]
  · rw [wipe_get hi, wipe_get hi]
    exact h i fun z => hi (hw i z)
theorem wipe_wipe (σ : L2.St) (vs : List Nat) : wipe (wipe σ vs) vs = wipe σ vs := by
  apply List.ext_getElem?
  intro i
  by_cases hi : i ∈ vs
  · by_cases hlt : i < σ.length
    · rw [wipe_at hlt hi, wipe_at (by rw [wipe_length]; exact hlt) hi]
    · rw [List.getElem?_eq_none (by rw [wipe_length, wipe_length]; omega), List.getElem?_eq_none (by rw [wipe_length]; omega)]
  · rw [wipe_get hi]
theorem Rp.wipe {w : World} {K : PySem.W.Frag} {B : Bas} {O : List Nat} {ρ : Env'} {σ : L2.St} {G H : Hp} (r : Rp w K B O ρ σ G H) (vs : List Nat) : Rp w K B O (wipeD ρ vs) (L2.wipe σ vs) G H where
  len := by rw [wipe_length, wipeD_len]; exact r.len
  gr := r.gr
  dat := fun i d e n => by
    obtain ⟨h1, h2⟩ := wipeD_some e
    obtain ⟨v, q1, q2⟩ := r.dat i d h1 n
    exact ⟨v, by rw [wipe_get h2]; exact q1, q2⟩
  own := fun i d e n => by
    obtain ⟨h1, h2⟩ := wipeD_some e
    obtain ⟨a, q1, q2⟩ := r.own i d h1 n
    exact ⟨a, by rw [wipe_get h2]; exact q1, q2⟩
  sep := fun i j a di dj hi hj e1 e2 s1 s2 => by
    obtain ⟨h1, h2⟩ := wipeD_some e1
    obtain ⟨h3, h4⟩ := wipeD_some e2
    rw [wipe_get h2] at s1
    rw [wipe_get h4] at s2
    exact r.sep i j a di dj hi hj h1 h3 s1 s2
theorem noX_in {α : Type} {x : R α} {q : α → Prop} {e : Nat → D → Prop} (h : gd (noX x) q e) : ∃ a, x = .ok a ∧ q a := by
  cases x with
  | ok a => exact ⟨a, rfl, h⟩
  | error er => cases er <;> exact h.elim
theorem bind_ok {α β : Type} {x : R α} {f : α → R β} {b : β} (h : (x >>= f) = .ok b) : ∃ a, x = .ok a ∧ f a = .ok b := by
  cases x with
  | ok a => exact ⟨a, rfl, h⟩
  | error er => cases h
theorem gd_of {α : Type} {x : R α} {a : α} {q : α → Prop} {e : Nat → D → Prop} (h : x = .ok a) (hq : q a) : gd x q e := by rw [h]; exact hq
theorem lcD_len {tg : D → Env' → R Env'} {ft : Env' → R Bool} {fe : Env' → R D} {ρ : Env'} : ∀ {ds ys : List D}, lcD tg ft fe ρ ds = .ok ys → ys.length ≤ ds.length
  | [], ys, h => by cases h; exact Nat.le_refl _
  | d :: ds, ys, h => by
    obtain ⟨ρ1, h1, h⟩ := bind_ok (show (tg d ρ >>= fun ρ1 => ft ρ1 >>= fun b => if b then fe ρ1 >>= fun y => lcD tg ft fe ρ ds >>= fun ys => .ok (y :: ys) else lcD tg ft fe ρ ds) = .ok ys from h)
    obtain ⟨b, h2, h⟩ := bind_ok h
    cases b with
    | true =>
      obtain ⟨y, h3, h⟩ := bind_ok (show (fe ρ1 >>= fun y => lcD tg ft fe ρ ds >>= fun ys => .ok (y :: ys)) = .ok ys from h)
      obtain ⟨zs, h4, h⟩ := bind_ok h
      cases h
      have := lcD_len h4
      rw [List.length_cons, List.length_cons]
      omega
    | false =>
      have := lcD_len (show lcD tg ft fe ρ ds = .ok ys from h)
      rw [List.length_cons]
      omega

section
variable {X : Cx} {elt tgt iter : Expr} {ifs : List Expr} {scope : Scope} {own : List (Str × Nat)} {pos : Pos} {e : Nat → D → Prop} {O vs : List Nat} {fi : Env' → R (List D)} {tg : D → Env' → R Env'} {ft : Env' → R Bool} {fe : Env' → R D}
/-- the tests of a clause -/
theorem pts_imp {t t' : TT} (h : PTs X ifs t) (i : ∀ σ H Q, t' σ H Q → t σ H Q) : PTs X ifs t' := ⟨fun p s σ H Q I q => h.run p s σ H Q I (i σ H Q q)⟩
theorem t_no : PTs X [] (tW X.w X.K e O fun _ => .ok true) := pts_imp pts_nil fun σ H Q ⟨B, ρ, G, r, q⟩ => q G H r.here
theorem t_one {c : Expr} {fw : Env' → R Bool} (h : PT X c (tW X.w X.K e O fw)) : PTs X [c] (tW X.w X.K e O fw) := pts_one h
/-- the meaning of a comprehension -/
def compD (vs : List Nat) (fi : Env' → R (List D)) (tg : D → Env' → R Env') (ft : Env' → R Bool) (fe : Env' → R D) : Env' → R D := fun ρ => fi ρ >>= fun ds => lenOk ds.length >>= fun _ => noX (lcD tg ft fe (wipeD ρ vs) ds) >>= fun ys => .ok (.list ys)
theorem lc_in {w : World} {K : PySem.W.Frag} {σ : L2.St} {H : Hp} {Q : VK} {ws : List Nat} (hv : ∀ j ∈ ws, j ∈ vs)
    (h : tO w K e O (compD vs fi tg ft fe) σ H Q) : tLc (iV w K e O fi) (gT w K noE O ws tg) (tW w K noE O ft) (tV w K noE O fe) vs σ H Q := by
  obtain ⟨B, ρ, G, r, q⟩ := h
  refine ⟨B, ρ, G, r, gd_mono (gd_bind.mp q) fun ds q J G1 H1 g1 wk A nA => ?_⟩
  obtain ⟨hlen, q⟩ := lenOk_in (gd_bind.mp q)
  obtain ⟨ys, eys, q⟩ := noX_in (gd_bind.mp q)
  have r1 := r.grow g1
  have nA0 : H A = none := by
    cases z : H A with
    | none => rfl
    | some o => rw [g1.keep A o z] at nA; cases nA
  have nG1 : G1 A = none := by
    cases z : G1 A with
    | none => rfl
    | some o => rw [g1.sub A o z] at nA; cases nA
  have gA := Gr.own (o := .lst []) g1.sub nA
  have nB : B.H A = none := by
    cases z : B.H A with
    | none => rfl
    | some o => rw [r.gr.keep A o z] at nA0; cases nA0
  have ap : ∀ (i : Nat) (d : D), i ∈ O → (wipeD ρ vs)[i]? = some (some d) → (wipe σ vs)[i]? ≠ some (some (.ref A)) := fun i d hi e z => by
    obtain ⟨b, q1, q2, _⟩ := (r1.wipe vs).own i d e hi
    rw [z] at q1; cases q1
    obtain ⟨u, hu⟩ := q2.there
    rw [hu] at nA; cases nA
  refine ⟨fun i m H' => m = ds.length - i ∧ i ≤ ds.length ∧ ∃ G' acc dacc rest, Rp w K B O (wipeD ρ vs) (wipe σ vs) G' H' ∧ Gr G1 H1 G' H' ∧ G' A = none ∧ H' A = some (.lst acc) ∧ DtAll w K G' acc dacc ∧ lcD tg ft fe (wipeD ρ vs) (ds.drop i) = .ok rest ∧ dacc ++ rest = ys ∧ dacc.length ≤ i, ⟨ds.length, rfl, Nat.zero_le _, G1, [], [], ys, (r1.grow gA).wipe vs, gA, nG1, upd_same, .nil, eys, rfl, Nat.le_refl _⟩, fun i m H' hW => ?_⟩
  obtain ⟨rfl, hi, G', acc, dacc, rest, r', g', nG, hA, tA, eR, eY, hdl⟩ := hW
  by_cases hl : i < ds.length
  · refine .inr ⟨wk.go i G' H' (g'.up g1.sub) g'.sub hl, fun H2 => ∃ G2 acc dacc rest, Rp w K B O (wipeD ρ vs) (wipe σ vs) G2 H2 ∧ Gr G1 H1 G2 H2 ∧ G2 A = none ∧ H2 A = some (.lst acc) ∧ DtAll w K G2 acc dacc ∧ lcD tg ft fe (wipeD ρ vs) (ds.drop (i + 1)) = .ok rest ∧ dacc ++ rest = ys ∧ dacc.length ≤ i + 1, fun H2 h2 => ⟨ds.length - (i + 1), by omega, rfl, hl, h2⟩, fun x H2 y => ?_⟩
    obtain ⟨G2, g2, t2⟩ := wk.yld i ds[i] G' H' x H2 (g'.up g1.sub) g'.sub (List.getElem?_eq_getElem hl) y
    rw [List.drop_eq_getElem_cons hl] at eR
    obtain ⟨ρ1, e1, eR⟩ := bind_ok (show (tg ds[i] (wipeD ρ vs) >>= fun ρ1 => ft ρ1 >>= fun b => if b then fe ρ1 >>= fun y => lcD tg ft fe (wipeD ρ vs) (ds.drop (i + 1)) >>= fun ys => .ok (y :: ys) else lcD tg ft fe (wipeD ρ vs) (ds.drop (i + 1))) = .ok rest from eR)
    obtain ⟨b, e2, eR⟩ := bind_ok eR
    have neA : H' A ≠ none := by rw [hA]; exact fun z => nomatch z
    refine ⟨B, wipeD ρ vs, G2, ds[i], r'.grow g2, t2, gd_of e1 fun σ2 k2 r2 => ⟨?_, B, ρ1, G2, r2, gd_of e2 fun G3 H3 g3 => ?_⟩⟩
    · have := wipe_same (vs := vs) k2.len k2.off hv
      rw [this, wipe_wipe]
    · have g23 := g2.trans g3
      cases b with
      | false =>
        refine iteF ⟨G3, acc, dacc, rest, r'.grow g23, g'.trans g23, (g23.fix A neA).trans nG, g23.keep A _ hA, tA.sub (g23.up g'.sub), eR, eY, by omega⟩
      | true =>
        obtain ⟨y1, e3, eR⟩ := bind_ok (show (fe ρ1 >>= fun y => lcD tg ft fe (wipeD ρ vs) (ds.drop (i + 1)) >>= fun ys => .ok (y :: ys)) = .ok rest from eR)
        obtain ⟨zs, e4, eR⟩ := bind_ok eR
        cases eR
        refine iteT ⟨B, ρ1, G3, r2.grow g3, gd_of e3 fun u G4 H4 g4 t4 => ?_⟩
        have g24 := g23.trans g4
        have hA4 := g24.keep A _ hA
        have nG4 : G4 A = none := (g24.fix A neA).trans nG
        refine ⟨acc, hA4, by rw [tA.length]; omega, G4, acc ++ [u], dacc ++ [y1], zs, ?_, ?_, nG4, upd_same, (tA.sub (g24.up g'.sub)).append (.one t4), e4, by rw [List.append_assoc]; exact eY, by rw [List.length_append, List.length_singleton]; omega⟩
        · exact (r'.grow g24).out nG4 nB ap
        · exact (g'.trans g24).wr nA nG4
  · have ei : i = ds.length := by omega
    subst ei
    rw [List.drop_length] at eR
    cases eR
    rw [List.append_nil] at eY
    subst eY
    exact .inl ⟨wk.stop G' H' (g'.up g1.sub) g'.sub, q A G' H' (g1.trans g') nA0 nG (.inl ⟨acc, dacc, rfl, hA, tA⟩)⟩
end
end Vs

set_option Elab.async false
set_option linter.all false
set_option maxRecDepth 100000
/-! Comprehensions as expressions, lists of one's own written, the rule for a def. -/
namespace Vs
open PySem PySem.Spec PyProof.Rows L2

section
variable {X : Cx} {elt tgt iter tgt1 iter1 : Expr} {ifs ifs1 : List Expr} {scope : Scope} {own : List (Str × Nat)} {pos : Pos} {e : Nat → D → Prop} {O O' vs vs1 ws ws1 : List Nat} {fi fi1 : Env' → R (List D)} {tg tg1 : D → Env' → R Env'} {ft ft1 : Env' → R Bool} {fe : Env' → R D} {fr : Bool}
abbrev Blk (X : Cx) (scope : Scope) (φ : Cx → Prop) : Prop := ∀ (s : Shared) (H : Hp) (C : Addr) (cl : List (Str × Addr)) (fp : List Addr), φ (X.blk s H scope (compEnvC scope cl C X.env) fp)
theorem tlc_eq (hv : vs = own.map (·.2)) {wi : TI} {g : TG} {tt : TT} {te : TE} : tLc wi g tt te (own.map (·.2)) = tLc wi g tt te vs := by rw [hv]
theorem o_lc (own : List (Str × Nat)) (hc : X.calm = true) (hN : X.N.Nodup) (hi : PI X tgt iter (iV X.w X.K e O fi)) (ok : BlkOk X.N X.env.scope scope own) (hg : Blk X scope fun Y => PG Y tgt (gT Y.w Y.K noE O ws tg)) (ht : Blk X scope fun Y => PTs Y ifs (tW Y.w Y.K noE O ft)) (he : Blk X scope fun Y => PE Y elt (tV Y.w Y.K noE O fe))
    (hv : ∀ j ∈ ws, j ∈ own.map (·.2) := by decide) (hs : ∀ x, foldedSetIterable iter X.env x = pure x := by intro _; rfl) : PE X (.ListComp elt [⟨tgt, iter, ifs, 0⟩] scope pos) (tO X.w X.K e O (compD (own.map (·.2)) fi tg ft fe)) :=
  pe_imp (pe_lc hc hN hi ok hg ht he hs) fun σ H Q h => lc_in hv h
/-- x = [..] on one line, x a local -/
theorem s_lc (own : List (Str × Nat)) (i : Nat) {y : Str} {py spos : Pos} (hc : X.calm = true) (hN : X.N.Nodup) (hsw : swapsWith (.ListComp elt [⟨tgt, iter, ifs, 0⟩] scope pos) (some (.Name y py)) spos.line X.env = pure true) (hi : PI X tgt iter (iV X.w X.K e O fi)) (ok : BlkOk X.N X.env.scope scope own) (hg : Blk X scope fun Y => PG Y tgt (gT Y.w Y.K noE O ws tg)) (ht : Blk X scope fun Y => PTs Y ifs (tW Y.w Y.K noE O ft)) (he : Blk X scope fun Y => PE Y elt (tV Y.w Y.K noE O fe))
    (h0 : i ∈ O' := by decide) (h1 : ∀ j ∈ O', j = i ∨ j ∈ O := by decide) (h2 : ∀ j ∈ O, j = i ∨ j ∈ O' := by decide) (hy : X.N[i]? = some y := by rfl) (hyl : X.env.scope.names.lookup y = some .local := by rfl) (hv : ∀ j ∈ ws, j ∈ own.map (·.2) := by decide) (hs : ∀ x, foldedSetIterable iter X.env x = pure x := by intro _; rfl) :
    PS X (.Assign [.Name y py] (.ListComp elt [⟨tgt, iter, ifs, 0⟩] scope pos) spos) (sV X.w X.K e O O' fr fun ρ => compD (own.map (·.2)) fi tg ft fe ρ >>= fun d => setD i d ρ) := by
  refine ps_imp (ps_setLc (g := gT X.w X.K noE O ws tg) (tt := tW X.w X.K noE O ft) (te := tV X.w X.K noE O fe) hc hN hy hyl hsw hi ok hg ht he hs) fun Dn σ H ⟨B, ρ, G, r, q⟩ => ?_
  exact lc_in (e := e) hv ⟨B, ρ, G, r, gd_mono (gd_bind.mp q) fun d q p G1 H1 g1 n1 n2 o => q _ G1 H1 (g1.up r.sub) (r.putO g1 n1 n2 o h0 h1 h2)⟩

def lcD2 (tg : D → Env' → R Env') (ft : Env' → R Bool) (fi1 : Env' → R (List D)) (vs1 : List Nat) (tg1 : D → Env' → R Env') (ft1 : Env' → R Bool) (fe : Env' → R D) (ρ : Env') : List D → R (List D)
  | [] => .ok []
  | d :: ds => tg d ρ >>= fun ρ1 => ft ρ1 >>= fun b => if b then fi1 ρ1 >>= fun ds1 => lcD tg1 ft1 fe (wipeD ρ1 vs1) ds1 >>= fun ys => lcD2 tg ft fi1 vs1 tg1 ft1 fe ρ ds >>= fun zs => .ok (ys ++ zs) else lcD2 tg ft fi1 vs1 tg1 ft1 fe ρ ds
def compD2 (vs vs1 : List Nat) (fi : Env' → R (List D)) (tg : D → Env' → R Env') (ft : Env' → R Bool) (fi1 : Env' → R (List D)) (tg1 : D → Env' → R Env') (ft1 : Env' → R Bool) (fe : Env' → R D) : Env' → R D :=
  fun ρ => fi ρ >>= fun ds => noX (lcD2 tg ft fi1 vs1 tg1 ft1 fe (wipeD ρ vs) ds) >>= fun ys => lenOk ys.length >>= fun _ => .ok (.list ys)
theorem lc2_in {w : World} {K : PySem.W.Frag} {σ : L2.St} {H : Hp} {Q : VK} (hv : ∀ j ∈ ws, j ∈ vs) (hv1 : ∀ j ∈ ws1, j ∈ vs1)
    (h : tO w K e O (compD2 vs vs1 fi tg ft fi1 tg1 ft1 fe) σ H Q) : tLc2 (iV w K e O fi) (gT w K noE O ws tg) (tW w K noE O ft) (iV w K noE O fi1) (gT w K noE O ws1 tg1) (tW w K noE O ft1) (tV w K noE O fe) vs vs1 σ H Q := by
  obtain ⟨B, ρ, G, r, q⟩ := h
  refine ⟨B, ρ, G, r, gd_mono (gd_bind.mp q) fun ds q J G1 H1 g1 wk A nA => ?_⟩
  obtain ⟨ys, eys, q⟩ := noX_in (gd_bind.mp q)
  obtain ⟨hlen, q⟩ := lenOk_in (gd_bind.mp q)
  have r1 := r.grow g1
  have nA0 : H A = none := by
    cases z : H A with
    | none => rfl
    | some o => rw [g1.keep A o z] at nA; cases nA
  have nG1 : G1 A = none := by
    cases z : G1 A with
    | none => rfl
    | some o => rw [g1.sub A o z] at nA; cases nA
  have gA := Gr.own (o := .lst []) g1.sub nA
  have nB : B.H A = none := by
    cases z : B.H A with
    | none => rfl
    | some o => rw [r.gr.keep A o z] at nA0; cases nA0
  have ap : ∀ (i : Nat) (d : D), i ∈ O → (wipeD ρ vs)[i]? = some (some d) → (wipe σ vs)[i]? ≠ some (some (.ref A)) := fun i d hi e z => by
    obtain ⟨b, q1, q2, _⟩ := (r1.wipe vs).own i d e hi
    rw [z] at q1; cases q1
    obtain ⟨u, hu⟩ := q2.there
    rw [hu] at nA; cases nA
  refine ⟨fun i m H' => m = ds.length - i ∧ i ≤ ds.length ∧ ∃ G' acc dacc rest, Rp w K B O (wipeD ρ vs) (wipe σ vs) G' H' ∧ Gr G1 H1 G' H' ∧ G' A = none ∧ H' A = some (.lst acc) ∧ DtAll w K G' acc dacc ∧ lcD2 tg ft fi1 vs1 tg1 ft1 fe (wipeD ρ vs) (ds.drop i) = .ok rest ∧ dacc ++ rest = ys, ⟨ds.length, rfl, Nat.zero_le _, G1, [], [], ys, (r1.grow gA).wipe vs, gA, nG1, upd_same, .nil, eys, rfl⟩, fun i m H' hW => ?_⟩
  obtain ⟨rfl, hi, G', acc, dacc, rest, r', g', nG, hA, tA, eR, eY⟩ := hW
  by_cases hl : i < ds.length
  · refine .inr ⟨wk.go i G' H' (g'.up g1.sub) g'.sub hl, fun H2 => ∃ G2 acc dacc rest, Rp w K B O (wipeD ρ vs) (wipe σ vs) G2 H2 ∧ Gr G1 H1 G2 H2 ∧ G2 A = none ∧ H2 A = some (.lst acc) ∧ DtAll w K G2 acc dacc ∧ lcD2 tg ft fi1 vs1 tg1 ft1 fe (wipeD ρ vs) (ds.drop (i + 1)) = .ok rest ∧ dacc ++ rest = ys, fun H2 h2 => ⟨ds.length - (i + 1), by omega, rfl, hl, h2⟩, fun x H2 y => ?_⟩
    obtain ⟨G2, g2, t2⟩ := wk.yld i ds[i] G' H' x H2 (g'.up g1.sub) g'.sub (List.getElem?_eq_getElem hl) y
    rw [List.drop_eq_getElem_cons hl] at eR
    obtain ⟨ρ1, e1, eR⟩ := bind_ok (show (tg ds[i] (wipeD ρ vs) >>= fun ρ1 => ft ρ1 >>= fun b => if b then fi1 ρ1 >>= fun ds1 => lcD tg1 ft1 fe (wipeD ρ1 vs1) ds1 >>= fun ys => lcD2 tg ft fi1 vs1 tg1 ft1 fe (wipeD ρ vs) (ds.drop (i + 1)) >>= fun zs => .ok (ys ++ zs) else lcD2 tg ft fi1 vs1 tg1 ft1 fe (wipeD ρ vs) (ds.drop (i + 1))) = .ok rest from eR)
    obtain ⟨b, e2, eR⟩ := bind_ok eR
    have neA : H' A ≠ none := by rw [hA]; exact fun z => nomatch z
    refine ⟨B, wipeD ρ vs, G2, ds[i], r'.grow g2, t2, gd_of e1 fun σ2 k2 r2 => ⟨?_, B, ρ1, G2, r2, gd_of e2 fun G3 H3 g3 => ?_⟩⟩
    · have := wipe_same (vs := vs) k2.len k2.off hv
      rw [this, wipe_wipe]
    · have g23 := g2.trans g3
      cases b with
      | false => exact iteF ⟨G3, acc, dacc, rest, r'.grow g23, g'.trans g23, (g23.fix A neA).trans nG, g23.keep A _ hA, tA.sub (g23.up g'.sub), eR, eY⟩
      | true =>
        obtain ⟨ds1, e3, eR⟩ := bind_ok (show (fi1 ρ1 >>= fun ds1 => lcD tg1 ft1 fe (wipeD ρ1 vs1) ds1 >>= fun ys => lcD2 tg ft fi1 vs1 tg1 ft1 fe (wipeD ρ vs) (ds.drop (i + 1)) >>= fun zs => .ok (ys ++ zs)) = .ok rest from eR)
        obtain ⟨ys1, e4, eR⟩ := bind_ok eR
        obtain ⟨zs, e5, eR⟩ := bind_ok eR
        cases eR
        have ap2 : ∀ (i : Nat) (d : D), i ∈ O → (wipeD ρ1 vs1)[i]? = some (some d) → (wipe σ2 vs1)[i]? ≠ some (some (.ref A)) := fun i d hi e z => by
          obtain ⟨z1, z2⟩ := k2.own i hi
          obtain ⟨e1, _⟩ := wipeD_some e
          obtain ⟨z3, _⟩ := wipe_some z
          exact ap i d hi (z1.symm.trans e1) (z2.symm.trans z3)
        refine iteT ⟨B, ρ1, G3, r2.grow g3, gd_of e3 fun J1 G4 H4 g4 wk1 => ?_⟩
        have g24 := g23.trans g4
        refine ⟨fun j k H5 => k = ds1.length - j ∧ j ≤ ds1.length ∧ ∃ G5 acc dacc rest1, Rp w K B O (wipeD ρ vs) (wipe σ vs) G5 H5 ∧ Rp w K B O (wipeD ρ1 vs1) (wipe σ2 vs1) G5 H5 ∧ Gr G1 H1 G5 H5 ∧ Sub G4 G5 ∧ G5 A = none ∧ H5 A = some (.lst acc) ∧ DtAll w K G5 acc dacc ∧ lcD tg1 ft1 fe (wipeD ρ1 vs1) (ds1.drop j) = .ok rest1 ∧ dacc ++ (rest1 ++ zs) = ys,
          ⟨ds1.length, rfl, Nat.zero_le _, G4, acc, dacc, ys1, r'.grow g24, ((r2.grow g3).grow g4).wipe vs1, g'.trans g24, Sub.refl _, (g24.fix A neA).trans nG, g24.keep A _ hA, tA.sub (g24.up g'.sub), e4, eY⟩, fun j k H5 hW => ?_⟩
        obtain ⟨rfl, hj, G5, acc5, dacc5, rest5, r5, r5', g5, s5, nG5, hA5, tA5, eR5, eY5⟩ := hW
        have neA5 : H5 A ≠ none := by rw [hA5]; exact fun z => nomatch z
        by_cases hl5 : j < ds1.length
        · refine .inr ⟨wk1.go j G5 H5 s5 r5.sub hl5, fun H6 => ∃ G6 acc dacc rest1, Rp w K B O (wipeD ρ vs) (wipe σ vs) G6 H6 ∧ Rp w K B O (wipeD ρ1 vs1) (wipe σ2 vs1) G6 H6 ∧ Gr G1 H1 G6 H6 ∧ Sub G4 G6 ∧ G6 A = none ∧ H6 A = some (.lst acc) ∧ DtAll w K G6 acc dacc ∧ lcD tg1 ft1 fe (wipeD ρ1 vs1) (ds1.drop (j + 1)) = .ok rest1 ∧ dacc ++ (rest1 ++ zs) = ys, fun H6 h6 => ⟨ds1.length - (j + 1), by omega, rfl, hl5, h6⟩, fun x6 H6 y6 => ?_⟩
          obtain ⟨G6, g6, t6⟩ := wk1.yld j ds1[j] G5 H5 x6 H6 s5 r5.sub (List.getElem?_eq_getElem hl5) y6
          rw [List.drop_eq_getElem_cons hl5] at eR5
          obtain ⟨ρ6, f1, eR5⟩ := bind_ok (show (tg1 ds1[j] (wipeD ρ1 vs1) >>= fun ρ1' => ft1 ρ1' >>= fun b => if b then fe ρ1' >>= fun y => lcD tg1 ft1 fe (wipeD ρ1 vs1) (ds1.drop (j + 1)) >>= fun ys => .ok (y :: ys) else lcD tg1 ft1 fe (wipeD ρ1 vs1) (ds1.drop (j + 1))) = .ok rest5 from eR5)
          obtain ⟨b6, f2, eR5⟩ := bind_ok eR5
          refine ⟨B, wipeD ρ1 vs1, G6, ds1[j], r5'.grow g6, t6, gd_of f1 fun σ6 k6 r6 => ⟨?_, B, ρ6, G6, r6, gd_of f2 fun G7 H7 g7 => ?_⟩⟩
          · have := wipe_same (vs := vs1) k6.len k6.off hv1
            rw [this, wipe_wipe]
          · have g67 := g6.trans g7
            cases b6 with
            | false => exact iteF ⟨G7, acc5, dacc5, rest5, r5.grow g67, r5'.grow g67, g5.trans g67, s5.trans (g67.up r5.sub), (g67.fix A neA5).trans nG5, g67.keep A _ hA5, tA5.sub (g67.up r5.sub), eR5, eY5⟩
            | true =>
              obtain ⟨y1, f3, eR5⟩ := bind_ok (show (fe ρ6 >>= fun y => lcD tg1 ft1 fe (wipeD ρ1 vs1) (ds1.drop (j + 1)) >>= fun ys => .ok (y :: ys)) = .ok rest5 from eR5)
              obtain ⟨us, f4, eR5⟩ := bind_ok eR5
              cases eR5
              refine iteT ⟨B, ρ6, G7, r6.grow g7, gd_of f3 fun u G8 H8 g8 t8 => ?_⟩
              have g68 := g67.trans g8
              have hA8 := g68.keep A _ hA5
              have nG8 : G8 A = none := (g68.fix A neA5).trans nG5
              have hle : dacc5.length < ys.length := by
                rw [← eY5]
                simp only [List.length_append, List.length_cons]
                omega
              refine ⟨acc5, hA8, by rw [tA5.length]; omega, G8, acc5 ++ [u], dacc5 ++ [y1], us, (r5.grow g68).out nG8 nB ap, (r5'.grow g68).out nG8 nB ap2, (g5.trans g68).wr nA nG8, s5.trans (g68.up r5.sub), nG8, upd_same, (tA5.sub (g68.up r5.sub)).append (.one t8), f4, ?_⟩
              rw [List.append_assoc]
              exact eY5
        · have ej : j = ds1.length := by omega
          subst ej
          rw [List.drop_length] at eR5
          cases eR5
          exact .inl ⟨wk1.stop G5 H5 s5 r5.sub, G5, acc5, dacc5, zs, r5, g5, nG5, hA5, tA5, e5, eY5⟩
  · have ei : i = ds.length := by omega
    subst ei
    rw [List.drop_length] at eR
    cases eR
    rw [List.append_nil] at eY
    subst eY
    exact .inl ⟨wk.stop G' H' (g'.up g1.sub) g'.sub, q A G' H' (g1.trans g') nA0 nG (.inl ⟨acc, dacc, rfl, hA, tA⟩)⟩
theorem o_lc2 (own : List (Str × Nat)) (vs1 : List Nat) (hc : X.calm = true) (hN : X.N.Nodup) (hi : PI X tgt iter (iV X.w X.K e O fi)) (ok : BlkOk X.N X.env.scope scope own) (hg : Blk X scope fun Y => PG Y tgt (gT Y.w Y.K noE O ws tg)) (ht : Blk X scope fun Y => PTs Y ifs (tW Y.w Y.K noE O ft))
    (hi1 : Blk X scope fun Y => PI Y tgt1 iter1 (iV Y.w Y.K noE O fi1)) (hg1 : Blk X scope fun Y => PG Y tgt1 (gT Y.w Y.K noE O ws1 tg1)) (ht1 : Blk X scope fun Y => PTs Y ifs1 (tW Y.w Y.K noE O ft1)) (he : Blk X scope fun Y => PE Y elt (tV Y.w Y.K noE O fe))
    (hvo : ∀ i ∈ vs1, i ∈ own.map (·.2) := by decide) (hv : ∀ j ∈ ws, j ∈ own.map (·.2) := by decide) (hv1 : ∀ j ∈ ws1, j ∈ vs1 := by decide) (hs : ∀ x, foldedSetIterable iter X.env x = pure x := by intro _; rfl) (hs1 : ∀ env x, foldedSetIterable iter1 env x = pure x := by intro _ _; rfl) :
    PE X (.ListComp elt [⟨tgt, iter, ifs, 0⟩, ⟨tgt1, iter1, ifs1, 0⟩] scope pos) (tO X.w X.K e O (compD2 (own.map (·.2)) vs1 fi tg ft fi1 tg1 ft1 fe)) :=
  pe_imp (pe_lc2 (g := gT X.w X.K noE O ws tg) (tt := tW X.w X.K noE O ft) (wi1 := iV X.w X.K noE O fi1) (g1 := gT X.w X.K noE O ws1 tg1) (tt1 := tW X.w X.K noE O ft1) (te := tV X.w X.K noE O fe) hc hN hi ok hvo hg ht hi1 hg1 ht1 he hs hs1) fun σ H Q h => lc2_in hv hv1 h
end

/-! ### lists of one's own written -/
section
variable {X : Cx} {a : Expr} {pos p apos cpos : Pos} {e : Nat → D → Prop} {O : List Nat} {fr : Bool} {fa : Env' → R D}
theorem gv_in {ρ : Env'} {i : Nat} {q : D → Prop} (h : gd (gv ρ i) q e) : ∃ d, ρ[i]? = some (some d) ∧ q d := by
  unfold gv at h
  cases z : ρ[i]? with
  | none => rw [z] at h; exact h.elim
  | some o =>
    cases o with
    | none => rw [z] at h; exact h.elim
    | some d => rw [z] at h; exact ⟨d, rfl, h⟩
def gl (ρ : Env') (i : Nat) : R (List D) := gv ρ i >>= itL
theorem gl_in {ρ : Env'} {i : Nat} {q : List D → Prop} (h : gd (gl ρ i) q e) : ∃ ds, ρ[i]? = some (some (.list ds)) ∧ q ds := by
  obtain ⟨d, e1, h⟩ := gv_in (gd_bind.mp h)
  cases d <;> first | exact ⟨_, e1, h⟩ | exact h.elim
def apD (i : Nat) (xs : List D) (d : D) (ρ : Env') : R Out := if xs.length < sizeLine then setD i (.list (xs ++ [d])) ρ else stk
/-- x.append(e), x one's own -/
theorem s_app (i : Nat) {x : Str} (h : PE X a (tV X.w X.K e O fa)) (hi : i ∈ O := by decide) (hN : X.N[i]? = some x := by rfl) (hv : Vis X.env.scope x := by first | exact Or.inl rfl | exact Or.inr (Or.inl rfl) | exact Or.inr (Or.inr rfl)) (hd : (x == ("__debug__" : Str)) = false := by decide) (hc : (x == ("__classdict__" : Str)) = false := by decide)
    (hbase : attributeBase (.Name x p) "append" X.env (eval (.Name x p) X.env) = eval (.Name x p) X.env := by rfl)
    (hfew : ((backTo cpos (starEach [a] X.env)).all (fun x => !x.1) && (backToKw cpos (keywordEach [] X.env)).all (fun x => x.1.isSome) && decide ([a].length + ([] : List Keyword).length + (if ([] : List Keyword).isEmpty then 0 else 1) < 30)) = true := by rfl)
    (hline : (apos.endLine == cpos.line) = true := by rfl) (hst : starEach [a] X.env = (false, eval a X.env) :: starEach [] X.env := by rfl) (hpl : (backTo cpos (starEach [] X.env)).any (·.1) = false := by rfl)
    (hs : swapsWith (.Call (.Attribute (.Name x p) "append" apos) [a] [] cpos) none pos.line X.env = pure false := by rfl) :
    PS X (.Expr (.Call (.Attribute (.Name x p) "append" apos) [a] [] cpos) pos) (sV X.w X.K e O O fr fun ρ => gl ρ i >>= fun xs => fa ρ >>= fun d => apD i xs d ρ) := by
  refine ps_imp (ps_expr (pe_bm PySem.F.plainAttrs_list PySem.F.slot_list_append PySem.F.type_list_append mt_append (pv i hN hv hd hc) (pa_cons h pa_nil hst) hbase hfew hline hst hpl) hs) fun Dn σ H ⟨B, ρ, G, r, q⟩ => ?_
  obtain ⟨xs, e0, q⟩ := gl_in (gd_bind.mp q)
  obtain ⟨A, s0, o, n1, n2⟩ := r.own i _ e0 hi
  rcases o with ⟨vs, ds, ed, hA, tA⟩ | ⟨_, _, _, _, ed, _⟩
  · cases ed
    refine ⟨.ref A, s0, .inl ⟨rfl, vs, SqL.of hA⟩, B, ρ, G, r, gd_mono (gd_bind.mp q) fun d q v G1 H1 g1 t => ?_⟩
    unfold apD at q
    split at q
    · rename_i hl
      have hA1 := g1.keep A _ hA
      refine ⟨A, vs, v, rfl, rfl, hA1, by rw [tA.length]; exact hl, q _ G1 _ (g1.up r.sub) ((r.grow g1).wr hi e0 s0 (.inl ⟨vs ++ [v], xs ++ [d], rfl, upd_same, (tA.sub (g1.up r.sub)).append (.one t)⟩))⟩
    · exact q.elim
  · cases ed
def exD (i : Nat) (xs : List D) (d : D) (ρ : Env') : R Out := match d with
  | .list ys => if xs.length + ys.length ≤ sizeLine then setD i (.list (xs ++ ys)) ρ else stk
  | _ => stk
/-- the item of a slot of one's own: a list's -/
def atD (xs : List D) (d : D) : R D := match d with
  | .int i => match atI xs i with
    | some y => .ok y
    | none => stk
  | _ => stk
end

/-! ### the rule for a def -/
def ret (fr : Bool) : Out → R D
  | .rt d => .ok d
  | .nx _ => if fr then stk else .ok .none
def arg0 (n : Nat) (ds : List D) : Env' := ds.map some ++ List.replicate (n - ds.length) none
theorem dtAll_start {w : World} {K : PySem.W.Frag} {G H : Hp} (s : Sub G H) {N : List Str} {vs : List V} {ds : List D} (t : DtAll w K G vs ds) : Rp w K ⟨G, H⟩ [] (arg0 N.length ds) (L2.start N vs) G H where
  len := by unfold L2.start arg0; simp only [List.length_append, List.length_map, List.length_replicate, t.length]
  gr := Gr.refl s
  dat := fun i d e _ => by
    unfold arg0 at e
    have hi : i < ds.length := by
      by_cases hi : i < ds.length
      · exact hi
      · rw [List.getElem?_append_right (by rw [List.length_map]; omega), List.getElem?_replicate] at e
        split at e <;> cases e
    rw [List.getElem?_append_left (by rw [List.length_map]; exact hi), List.getElem?_map] at e
    cases q : ds[i]? with
    | none => rw [q] at e; cases e
    | some d' =>
      rw [q] at e; cases e
      obtain ⟨v, h1, h2⟩ := t.get' q
      refine ⟨v, ?_, h2⟩
      unfold L2.start
      rw [List.getElem?_append_left (by rw [List.length_map, t.length]; exact hi), List.getElem?_map, h1]
      rfl
  own := fun _ _ _ z => by cases z
  sep := fun _ _ _ _ _ z => by cases z
section
variable {P : Program} {w : World} {K : PySem.W.Frag} {mg : Str → Option Value} {base : Heap} {cl : Nat → Addr} {x : Str} {st : Stmt} {a : Addr} {fd : FuncData} {N ps : List Str} {k n : Nat} {fr : Bool} {O' : List Nat} {fb : Env' → R Out}
/-- a def from which no error comes: its promise -/
theorem fnok_of (F : Fun K x x st a fd) (S : FnScope N ps (defScope st)) (hn : ps.length = n)
    (body : ∀ (cdv : Value) (A : Around) (outer : List Env) (s : Shared) (H : Hp) (E : XK), Room k (A.deeper (envOfC x (defScope st) s.heap.objs.size a cdv)) →
      PSs (cxOf CX0 P w K mg base N x (defScope st) a cdv A outer s H E).nox (defBody st) (sV w K noE [] O' fr fb)) :
    FnOk P w K mg base CX0 (k + 1) a fd ps (spD w K cl n fr (fun ds => noX (fb (arg0 N.length ds)) >>= ret fr)) := by
  refine F.ok S (fun vs H Q E h => ?_) (fun cdv A outer s H vs Q E hr h => ⟨_, body cdv A outer s H E hr, ?_⟩)
  · obtain ⟨ds, G, _, t, q⟩ := h
    unfold fnD at q
    split at q
    · rename_i hl
      rw [t.length, hl, hn]
    · exact q.elim
  · obtain ⟨ds, G, s1, t, q⟩ := h
    unfold fnD at q
    split at q
    · refine ⟨⟨G, H⟩, _, G, dtAll_start s1 t, ?_⟩
      obtain ⟨o, z, q⟩ := noX_in (gd_bind.mp q)
      rw [z]
      cases o with
      | rt d => exact q
      | nx ρ' =>
        intro σ' G' H' s' r'
        cases fr with
        | true => exact q.elim
        | false => exact q .non G' H' ⟨r'.gr, .non⟩
    · exact q.elim
theorem cal_of {g : Str} (F : Fun K x x st a fd) (m : mg g = some (.ref a)) (S : FnScope N ps (defScope st)) (b : Binds K fd ps []) (hn : ps.length = n)
    (body : ∀ (cdv : Value) (A : Around) (outer : List Env) (s : Shared) (H : Hp) (E : XK), Room k (A.deeper (envOfC x (defScope st) s.heap.objs.size a cdv)) →
      PSs (cxOf CX0 P w K mg base N x (defScope st) a cdv A outer s H E).nox (defBody st) (sV w K noE [] O' fr fb)) :
    Cal P w K mg base CX0 cl (k + 1) g n fr (fun ds => noX (fb (arg0 N.length ds)) >>= ret fr) :=
  ⟨a, fd, ps, fnok_of F S hn body, m, F.kp, b⟩
end
/-- the def under the global g -/
structure Gfn (K : PySem.W.Frag) (mg : Str → Option Value) (g x : Str) (st : Stmt) (ps : List Str) : Prop where
  ex : ∃ (a : Addr) (fd : FuncData), Fun K x x st a fd ∧ mg g = some (.ref a) ∧ Binds K fd ps []
end Vs

set_option Elab.async false
set_option linter.all false
set_option maxRecDepth 100000
/-! Operators on data. -/
namespace Vs
open PySem PySem.Spec PyProof.Rows L2

section
variable {X : Cx} {e : Nat → D → Prop}

/-! ### whole numbers -/
def arI (g : Int → Int → R D) : D → D → R D
  | .int i, .int j => g i j
  | _, _ => stk
theorem arI_in {w : World} {K : PySem.W.Frag} {g : Int → Int → R D} {G : Hp} {x y : V} {da db : D} {q : D → Prop} (t1 : Dt w K G x da) (t2 : Dt w K G y db) (h : gd (arI g da db) q e) : ∃ i j, x = .int i ∧ y = .int j ∧ gd (g i j) q e := by
  cases t1 with
  | int i =>
    cases t2 with
    | int j => exact ⟨i, j, rfl, rfl, h⟩
    | non => exact h.elim
    | bl _ => exact h.elim
    | str _ => exact h.elim
    | lst _ _ => exact h.elim
    | tup _ _ => exact h.elim
    | dct _ _ _ _ _ _ => exact h.elim
    | scr _ _ => exact h.elim
  | non => exact h.elim
  | bl _ => exact h.elim
  | str _ => exact h.elim
  | lst _ _ => exact h.elim
  | tup _ _ => exact h.elim
  | dct _ _ _ _ _ _ => exact h.elim
  | scr _ _ => exact h.elim
theorem op_i {f : Value → Value → Sem Value} {C : Int → Int → Prop} {c : Int → Int → V} {g : Int → Int → R D} (h : OpR X f (rI C c)) (hg : ∀ i j (q : D → Prop) (e : Nat → D → Prop), gd (g i j) q e → C i j ∧ ∃ d, q d ∧ ∀ G : Hp, Dt X.w X.K G (c i j) d) : OpR X f (r2 X.w X.K (arI g)) :=
  opr_imp h fun x y H Q ⟨G, da, db, e, s, t1, t2, q⟩ => by
    obtain ⟨i, j, rfl, rfl, q⟩ := arI_in t1 t2 q
    obtain ⟨hc, d, q, t⟩ := hg i j _ e q
    exact ⟨i, j, rfl, rfl, hc, q _ G H (Gr.refl s) (t G)⟩
theorem op_i0 {f : Value → Value → Sem Value} {c : Int → Int → V} {g : Int → Int → R D} (h : OpR X f (rI0 c)) (hg : ∀ i j, ∃ d, g i j = .ok d ∧ ∀ G : Hp, Dt X.w X.K G (c i j) d) : OpR X f (r2 X.w X.K (arI g)) :=
  opr_imp h fun x y H Q ⟨G, da, db, e, s, t1, t2, q⟩ => by
    obtain ⟨i, j, rfl, rfl, q⟩ := arI_in t1 t2 q
    obtain ⟨d, z, t⟩ := hg i j
    rw [z] at q
    exact ⟨i, j, rfl, rfl, q _ G H (Gr.refl s) (t G)⟩
def subI : D → D → R D := arI fun i j => .ok (.int (i - j))
theorem d_sub : OpR X (binaryOp .Sub) (r2 X.w X.K subI) := op_i0 op_sub fun i j => ⟨_, rfl, fun _ => .int _⟩
def fdivI : D → D → R D := arI fun i j => if 0 < j ∧ j < 1073741824 then .ok (.int (i / j)) else stk
theorem d_fdiv : OpR X (binaryOp .FloorDiv) (r2 X.w X.K fdivI) := op_i op_fdiv fun i j q e h => by
  split at h
  · rename_i hc; exact ⟨hc, _, h, fun _ => .int _⟩
  · exact h.elim
def modI : D → D → R D := arI fun i j => if 0 < j then .ok (.int (i % j)) else stk
theorem d_mod : OpR X (binaryOp .Mod) (r2 X.w X.K modI) := op_i op_mod fun i j q e h => by
  split at h
  · rename_i hc; exact ⟨hc, _, h, fun _ => .int _⟩
  · exact h.elim
def powI : D → D → R D := arI fun i j => if 0 ≤ j ∧ j ≤ 1000000 ∧ i.natAbs < 2 ^ 64 then .ok (.int (i ^ j.toNat)) else stk
theorem d_pow : OpR X (binaryOp .Pow) (r2 X.w X.K powI) := op_i op_pow fun i j q e h => by
  split at h
  · rename_i hc; exact ⟨hc, _, h, fun _ => .int _⟩
  · exact h.elim
/-- ints compared -/
def cmpI (p : Int → Int → Bool) : D → D → R D := arI fun i j => .ok (.bool (p i j))
theorem d_ltI : OpR X (compareOp .Lt) (r2 X.w X.K (cmpI fun i j => decide (i < j))) := op_i0 op_lt fun i j => ⟨_, rfl, fun _ => .bl _⟩
theorem d_leI : OpR X (compareOp .LtE) (r2 X.w X.K (cmpI fun i j => decide (i ≤ j))) := op_i0 op_le fun i j => ⟨_, rfl, fun _ => .bl _⟩
theorem d_gtI : OpR X (compareOp .Gt) (r2 X.w X.K (cmpI fun i j => decide (j < i))) := op_i0 op_gt fun i j => ⟨_, rfl, fun _ => .bl _⟩
theorem d_geI : OpR X (compareOp .GtE) (r2 X.w X.K (cmpI fun i j => decide (j ≤ i))) := op_i0 op_ge fun i j => ⟨_, rfl, fun _ => .bl _⟩
/-- a < b < c -/
theorem ch_in {a b c : Expr} {O : List Nat} {fa fb fc : Env' → R D} {p q : Int → Int → Bool} {σ : L2.St} {H : Hp} {Q : VK}
    (h : tV X.w X.K e O (fun ρ => fa ρ >>= fun x => fb ρ >>= fun y => asI x >>= fun i => asI y >>= fun j => if p i j then fc ρ >>= fun z => asI z >>= fun k => .ok (.bool (q j k)) else .ok (.bool false)) σ H Q) :
    tChain (rI0 fun i j => .bl (p i j)) (rI0 fun i j => .bl (q i j)) (tV X.w X.K e O fa) (tV X.w X.K e O fb) (tV X.w X.K e O fc) σ H Q := by
  obtain ⟨B, ρ, G, r, h⟩ := h
  refine ⟨B, ρ, G, r, gd_mono (gd_bind.mp h) fun da h v G1 H1 g1 t1 => ⟨B, ρ, G1, r.grow g1, gd_mono (gd_bind.mp h) fun db h u G2 H2 g2 t2 => ?_⟩⟩
  obtain ⟨i, rfl, h⟩ := asI_in t1 (gd_bind.mp h)
  obtain ⟨j, rfl, h⟩ := asI_in t2 (gd_bind.mp h)
  refine ⟨i, j, rfl, rfl, _, rfl, ?_⟩
  split at h
  · rename_i hp
    rw [hp]
    refine iteT ⟨B, ρ, G2, (r.grow g1).grow g2, gd_mono (gd_bind.mp h) fun dc h y G3 H3 g3 t3 => ?_⟩
    obtain ⟨k, rfl, h⟩ := asI_in t3 (gd_bind.mp h)
    exact ⟨j, k, rfl, rfl, h _ G3 H3 ((g1.trans g2).trans g3) (.bl _)⟩
  · rename_i hp
    rw [Bool.not_eq_true] at hp
    rw [hp]
    exact iteF (h _ G2 H2 (g1.trans g2) (.bl _))
abbrev chD (p q : Int → Int → Bool) (fa fb fc : Env' → R D) : Env' → R D := fun ρ => fa ρ >>= fun x => fb ρ >>= fun y => asI x >>= fun i => asI y >>= fun j => if p i j then fc ρ >>= fun z => asI z >>= fun k => .ok (.bool (q j k)) else .ok (.bool false)
theorem v_ch {op op' : CmpOp} {a b c : Expr} {pos : Pos} {O : List Nat} {fa fb fc : Env' → R D} {p q : Int → Int → Bool} (h1 : OpR X (compareOp op) (rI0 fun i j => .bl (p i j))) (h2 : OpR X (compareOp op') (rI0 fun i j => .bl (q i j))) (ha : PE X a (tV X.w X.K e O fa)) (hb : PE X b (tV X.w X.K e O fb)) (hc : PE X c (tV X.w X.K e O fc))
    (hm : lastMarks [op, op'] [b, c] = false := by with_unfolding_all rfl) : PE X (.Compare a [op, op'] [b, c] pos) (tV X.w X.K e O (chD p q fa fb fc)) := pe_imp (pe_chain h1 h2 ha hb hc hm) fun _ _ _ h => ch_in (a := a) (b := b) (c := c) h
theorem w_ch {op op' : CmpOp} {a b c : Expr} {pos : Pos} {O : List Nat} {fa fb fc : Env' → R D} {p q : Int → Int → Bool} (h1 : OpR X (compareOp op) (rI0 fun i j => .bl (p i j))) (h2 : OpR X (compareOp op') (rI0 fun i j => .bl (q i j))) (ha : PE X a (tV X.w X.K e O fa)) (hb : PE X b (tV X.w X.K e O fb)) (hc : PE X c (tV X.w X.K e O fc))
    (hm : lastMarks [op, op'] [b, c] = false := by with_unfolding_all rfl) : PT X (.Compare a [op, op'] [b, c] pos) (tW X.w X.K e O fun ρ => chD p q fa fb fc ρ >>= asB) := by
  refine pt_imp (pt_chain h1 h2 ha hb hc hm) fun σ H Q h => ?_
  obtain ⟨B, ρ, G, r, h⟩ := h
  refine ch_in (a := a) (b := b) (c := c) (e := e) ⟨B, ρ, G, r, gd_mono (gd_bind.mp h) fun d h v G1 H1 g1 t => ?_⟩
  cases t with
  | bl k => exact ⟨k, rfl, h G1 H1 g1⟩
  | non => exact h.elim
  | int _ => exact h.elim
  | str _ => exact h.elim
  | lst _ _ => exact h.elim
  | tup _ _ => exact h.elim
  | dct _ _ _ _ _ _ => exact h.elim
  | scr _ _ => exact h.elim

/-! ### lists as they stand -/
theorem lst_at {pins : List (Addr × Obj)} {σ : L2.St} {H : Hp} {s : Shared} {l : Addr} {xs : List V} (I : Inv X pins σ H s) (h : Rd H l (.lst xs)) : xs.length ≤ sizeLine ∧ ∃ (its : List Value) (n : Nat), Vals xs its ∧ s.heap.get? l = some { cls := .type "list", data := .seq its.toArray n } := by
  obtain ⟨z, us, m, rel, at0⟩ := h.ok I.hok
  exact ⟨z, us, m, rel, at0⟩
def rCatL : R2 := fun x y H Q => ∃ l b xs zs, x = .ref l ∧ y = .ref b ∧ Rd H l (.lst xs) ∧ Rd H b (.lst zs) ∧ xs.length + zs.length ≤ sizeLine ∧ ∀ p, H p = none → Q (.ref p) (upd H p (.lst (xs ++ zs)))
theorem cat_rd : OpR X (binaryOp .Add) rCatL := by
  intro pins s σ H x y v u Q I rx ry h
  obtain ⟨l, b, xs, zs, e1, e2, hl, hb, hz, q⟩ := h
  subst e1
  subst e2
  obtain rfl : v = Value.ref l := rx
  obtain rfl : u = Value.ref b := ry
  obtain ⟨_, us, m, r1, at1⟩ := lst_at I hl
  obtain ⟨_, ws, k, r2, at2⟩ := lst_at I hb
  have n1 := r1.length
  have n2 := r2.length
  refine PySem.P.add_list at1 at2 ?_ (by rw [List.size_toArray, List.size_toArray]; omega)
  have both : us.toArray ++ ws.toArray = (us ++ ws).toArray := by simp
  rw [both]
  exact ⟨.ref _, _, I.lnew (t' := s.toks) (r1.append r2) (by rw [List.length_append]; omega), rfl, q _ I.fresh⟩

/-! ### + -/
def addD (a b : D) : R D := match a, b with
  | .int i, .int j => .ok (.int (i + j))
  | .str x, .str y => if x.length + y.length ≤ sizeLine then .ok (.str (x ++ y)) else stk
  | .list xs, .list ys => if xs.length + ys.length ≤ sizeLine then .ok (.list (xs ++ ys)) else stk
  | _, _ => stk
theorem d_add : OpR X (binaryOp .Add) (r2 X.w X.K addD) := by
  intro pins s σ H x y v u Q I rx ry ⟨G, da, db, e, sb, t1, t2, q⟩
  unfold addD at q
  split at q
  · cases t1; cases t2
    exact op_add pins s σ H _ _ v u Q I rx ry ⟨_, _, rfl, rfl, q _ G H (Gr.refl sb) (.int _)⟩
  · cases t1; cases t2
    split at q
    · rename_i hl
      exact op_add_str pins s σ H _ _ v u Q I rx ry ⟨_, _, rfl, rfl, hl, q _ G H (Gr.refl sb) (.str _)⟩
    · exact q.elim
  · cases t1 with
    | lst s1 a1 =>
      cases t2 with
      | lst s2 a2 =>
        split at q
        · rename_i hl
          refine cat_rd pins s σ H _ _ v u Q I rx ry ⟨_, _, _, _, rfl, rfl, Rd.sub sb s1, Rd.sub sb s2, by rw [a1.length, a2.length]; exact hl, fun p np => ?_⟩
          exact q _ _ _ (Gr.new sb np) (.lst (.inl upd_same) ((a1.append a2).sub ((Gr.new sb np).up sb)))
        · exact q.elim
  · exact q.elim

/-! ### * -/
def mulI (a b : D) : R D := match a, b with
  | .int i, .int j => if (-(2 ^ 64) < i ∧ i < 2 ^ 64) ∨ (-(2 ^ 64) < j ∧ j < 2 ^ 64) then .ok (.int (i * j)) else stk
  | _, _ => stk
theorem d_mulI : OpR X (binaryOp .Mult) (r2 X.w X.K mulI) := by
  intro pins s σ H x y v u Q I rx ry ⟨G, da, db, e, sb, t1, t2, q⟩
  unfold mulI at q
  split at q
  · cases t1; cases t2
    split at q
    · rename_i hc
      exact op_mul pins s σ H _ _ v u Q I rx ry ⟨_, _, rfl, rfl, hc, q _ G H (Gr.refl sb) (.int _)⟩
    · exact q.elim
  · exact q.elim

/-! ### == -/
mutual
theorem Dt.dp {w : World} {K : PySem.W.Frag} {G H : Hp} (s : Sub G H) : ∀ {v : V} {d : D}, Dt w K G v d → d.canLay0 = true → Dp K H v d
  | _, _, .non, _ => .non
  | _, _, .bl b, _ => .bl b
  | _, _, .int i, _ => .int i
  | _, _, .str x, _ => .str x
  | _, _, .lst h t, c => .lst (Rd.sq (Rd.sub s h)) (DtAll.dp s t (by simpa [PyData.canLay0] using c))
  | _, _, .tup h t, c => .tup (SqT.sub s h) (DtAll.dp s t (by simpa [PyData.canLay0] using c))
  | _, _, .dct _ _ _ _ _ _, c => by simp [PyData.canLay0] at c
  | _, _, .scr _ _, c => by simp [PyData.canLay0] at c
theorem DtAll.dp {w : World} {K : PySem.W.Frag} {G H : Hp} (s : Sub G H) : ∀ {vs : List V} {ds : List D}, DtAll w K G vs ds → PyData.canLayAll0 ds = true → DpAll K H vs ds
  | _, _, .nil, _ => .nil
  | _, _, .cons h t, c => by
    rw [PyData.canLayAll0, Bool.and_eq_true] at c
    exact .cons (Dt.dp s h c.1) (DtAll.dp s t c.2)
end
theorem shaped_lay {d : D} (h : SeqAt.shaped d = true) : d.canLay0 = true := by
  unfold SeqAt.shaped at h
  rw [Bool.and_eq_true] at h
  exact h.1
def eqD (a b : D) : R D := match a, b with
  | .str x, .str y => .ok (.bool (decide (x = y)))
  | a, b => if SeqAt.shaped a = true ∧ SeqAt.shaped b = true then .ok (.bool (PyData.eqv a b)) else stk
def neD (a b : D) : R D := match a, b with
  | .str x, .str y => .ok (.bool (!decide (x = y)))
  | a, b => if SeqAt.shaped a = true ∧ SeqAt.shaped b = true then .ok (.bool (!PyData.eqv a b)) else stk
theorem dstr {i j : Str} : decide (V.str i = V.str j) = decide (i = j) := by
  rw [Bool.eq_iff_iff]
  simp
theorem d_eq (hu : X.A.units + 64 < cLine) : OpR X (compareOp .Eq) (r2 X.w X.K eqD) := by
  intro pins s σ H x y v u Q I rx ry ⟨G, da, db, e, sb, t1, t2, q⟩
  unfold eqD at q
  split at q
  · cases t1; cases t2
    exact op_eq pins s σ H _ _ v u Q I rx ry ⟨rfl, by rw [dstr]; exact q _ G H (Gr.refl sb) (.bl _)⟩
  · split at q
    · rename_i hc
      exact op_eqD hu pins s σ H _ _ v u Q I rx ry ⟨da, db, t1.dp sb (shaped_lay hc.1), t2.dp sb (shaped_lay hc.2), hc.1, hc.2, q _ G H (Gr.refl sb) (.bl _)⟩
    · exact q.elim
theorem d_ne (hu : X.A.units + 64 < cLine) : OpR X (compareOp .NotEq) (r2 X.w X.K neD) := by
  intro pins s σ H x y v u Q I rx ry ⟨G, da, db, e, sb, t1, t2, q⟩
  unfold neD at q
  split at q
  · cases t1; cases t2
    exact op_ne pins s σ H _ _ v u Q I rx ry ⟨rfl, by rw [dstr]; exact q _ G H (Gr.refl sb) (.bl _)⟩
  · split at q
    · rename_i hc
      exact op_neD hu pins s σ H _ _ v u Q I rx ry ⟨da, db, t1.dp sb (shaped_lay hc.1), t2.dp sb (shaped_lay hc.2), hc.1, hc.2, q _ G H (Gr.refl sb) (.bl _)⟩
    · exact q.elim
/-- is None -/
def isN (a b : D) : R D := match b with
  | .none => match a with
    | .none => .ok (.bool true)
    | _ => .ok (.bool false)
  | _ => stk
def notN (a b : D) : R D := match b with
  | .none => match a with
    | .none => .ok (.bool false)
    | _ => .ok (.bool true)
  | _ => stk
theorem non_dec {w : World} {K : PySem.W.Frag} {G : Hp} {v : V} {d : D} (t : Dt w K G v d) : decide (v = V.non) = match d with | .none => true | _ => false := by
  cases t <;> first | rfl | exact decide_eq_false (fun z => nomatch z)
theorem d_is : OpR X (compareOp .Is) (r2 X.w X.K isN) := opr_imp op_isN fun x y H Q ⟨G, da, db, e, sb, t1, t2, q⟩ => by
  unfold isN at q
  split at q
  · cases t2
    refine ⟨rfl, ?_⟩
    rw [non_dec t1]
    split at q
    · exact q _ G H (Gr.refl sb) (.bl _)
    · have q := q _ G H (Gr.refl sb) (.bl _)
      split
      · contradiction
      · exact q
  · exact q.elim
theorem d_isn : OpR X (compareOp .IsNot) (r2 X.w X.K notN) := opr_imp op_notN fun x y H Q ⟨G, da, db, e, sb, t1, t2, q⟩ => by
  unfold notN at q
  split at q
  · cases t2
    refine ⟨rfl, ?_⟩
    rw [non_dec t1]
    split at q
    · exact q _ G H (Gr.refl sb) (.bl _)
    · have q := q _ G H (Gr.refl sb) (.bl _)
      split
      · contradiction
      · exact q
  · exact q.elim
end
end Vs

set_option Elab.async false
set_option linter.all false
set_option maxRecDepth 100000
/-! in, subscripts, slices, built-ins on data. -/
namespace Vs
open PySem PySem.Spec PyProof.Rows L2

/-! ### dicts: keys -/
def atomK : D → Option Key
  | .int i => some (.inl i)
  | .str x => some (.inr x)
  | _ => none
def allAt (kvs : List (D × D)) : Bool := kvs.all fun p => (atomK p.1).isSome
def dfind (kvs : List (D × D)) (d : D) : Option D := (kvs.find? fun p => PyData.eqv p.1 d).map (·.2)
theorem atom_eqv {d d' : D} {k k' : Key} (h : atomK d = some k) (h' : atomK d' = some k') : PyData.eqv d d' = decide (k = k') := by
  cases d with
  | int i =>
    cases h
    cases d' with
    | int j => cases h'; rw [key_ll]; simp only [PyData.eqv]
    | str y => cases h'; rw [key_lr]; simp only [PyData.eqv]
    | _ => cases h'
  | str x =>
    cases h
    cases d' with
    | int j => cases h'; rw [key_rl]; simp only [PyData.eqv]
    | str y => cases h'; rw [key_rr]; simp only [PyData.eqv]; by_cases hh : x = y <;> simp [hh]
    | _ => cases h'
  | _ => cases h
theorem atom_V {w : World} {K : PySem.W.Frag} {G : Hp} {v : V} {d : D} {k : Key} (t : Dt w K G v d) (h : atomK d = some k) : v = kV k := by
  cases t with
  | int i => cases h; rfl
  | str x => cases h; rfl
  | non => cases h
  | bl _ => cases h
  | lst _ _ => cases h
  | tup _ _ => cases h
  | dct _ _ _ _ _ _ => cases h
  | scr _ _ => cases h
theorem atom_is {P : Program} {w : World} {K : PySem.W.Frag} {G : Hp} {v : V} {u : Value} {d : D} {k : Key} (r : RelV v u) (t : Dt w K G v d) (h : atomK d = some k) : (mixKind P w).is k u = true := by
  have e := atom_V t h
  subst e
  exact kV_is r
theorem atom_hash {w : World} {d : D} {k : Key} (h : atomK d = some k) : hashD w d = keyH w k := by
  cases d <;> cases h <;> simp only [hashD, keyH]
section
variable {P : Program} {w : World} {K : PySem.W.Frag} {G : Hp}
theorem es_keys : ∀ {es : List DictEntry} {kvs : List (D × D)}, DtEs w K G es kvs → allAt kvs = true → ∀ e ∈ es, ∃ k, (mixKind P w).is k e.key = true ∧ e.hash = (mixKind P w).hash k
  | _, _, .nil, _, e, he => by cases he
  | _, _, .cons (dk := dk) rk tk hh rv tv r, ha, e, he => by
    unfold allAt at ha
    rw [List.all_cons, Bool.and_eq_true] at ha
    rcases List.mem_cons.mp he with rfl | he
    · obtain ⟨k, hk⟩ := Option.isSome_iff_exists.mp ha.1
      exact ⟨k, atom_is rk tk hk, by rw [hh, atom_hash hk]; rfl⟩
    · exact es_keys r ha.2 e he
theorem es_find {d : D} {k : Key} (hd : atomK d = some k) : ∀ {es : List DictEntry} {kvs : List (D × D)}, DtEs w K G es kvs → allAt kvs = true →
    (match dfind kvs d with
    | some dv => ∃ u vv, (es.find? fun e => (mixKind P w).is k e.key).map (·.val) = some u ∧ RelV vv u ∧ Dt w K G vv dv
    | none => (es.find? fun e => (mixKind P w).is k e.key).map (·.val) = none)
  | _, _, .nil, _ => rfl
  | _, _, .cons (e := e) (dk := dk) (dv := dv) (vv := vv) (es := es) (kvs := kvs) rk tk hh rv tv r, ha => by
    unfold allAt at ha
    rw [List.all_cons, Bool.and_eq_true] at ha
    obtain ⟨k', hk'⟩ := Option.isSome_iff_exists.mp ha.1
    have e1 : PyData.eqv dk d = decide (k' = k) := atom_eqv hk' hd
    have e2 : (mixKind P w).is k e.key = decide (k = k') := KeyKind.is_eq_decide (atom_is rk tk hk') k
    unfold dfind
    rw [List.find?_cons, List.find?_cons, e1, e2]
    by_cases hkk : k' = k
    · subst hkk
      rw [decide_eq_true rfl]
      exact ⟨e.val, vv, rfl, rv, tv⟩
    · rw [decide_eq_false hkk, decide_eq_false (Ne.symm hkk)]
      exact es_find hd r ha.2
end
section
variable {X : Cx} {pins : List (Addr × Obj)} {σ : L2.St} {H G : Hp} {s : Shared} {a : Addr} {o : Obj}
theorem dc_at (I : Inv X pins σ H s) (sb : Sub G H) (h : DcA X.K G a o) : s.heap.get? a = some o := by
  rcases h with h | h
  · exact (I.hok a _ (sb a _ h)).1
  · exact I.kIn a o h
theorem dc_map {es : Array DictEntry} {ep : Nat} {kvs : List (D × D)} (I : Inv X pins σ H s) (sb : Sub G H) (h : DcA X.K G a o) (ho : o.ExactDict) (hd : o.data = .dict es ep) (t : DtEs X.w X.K G es.toList kvs) (ha : allAt kvs = true) :
    s.heap.MapOf (mixKind X.prog X.w) a (fun k => findBy (mixKind X.prog X.w).is es k) :=
  ⟨o, es, ep, dc_at I sb h, ho, hd, fun e he => es_keys t ha e (Array.mem_toList_iff.mpr he), fun _ => rfl⟩
theorem dc_find {P : Program} {w : World} {K : PySem.W.Frag} {es : Array DictEntry} {kvs : List (D × D)} {d : D} {k : Key} (hk : atomK d = some k) (t : DtEs w K G es.toList kvs) (ha : allAt kvs = true) :
    (match dfind kvs d with
    | some dv => ∃ u vv, findBy (mixKind P w).is es k = some u ∧ RelV vv u ∧ Dt w K G vv dv
    | none => findBy (mixKind P w).is es k = none) := by
  unfold findBy
  rw [← Array.find?_toList]
  exact es_find hk t ha
end

/-! ### in -/
def strIn (x y : Str) : Bool := match x.cps.toList with
  | [c] => decide (c ∈ y.cps.toList)
  | _ => !(Builtin.Str.occurrences y x 0 y.length 1).isEmpty
theorem strIn_eq (x y : Str) : (!(Builtin.Str.occurrences y x 0 y.length 1).isEmpty) = strIn x y := by
  unfold strIn
  split
  · rename_i c h
    have e : x = ⟨#[c]⟩ := by
      obtain ⟨l⟩ := x
      have : l = #[c] := by rw [← Array.toArray_toList (xs := l)]; exact congrArg List.toArray h
      rw [this]
    subst e
    exact PySem.StrLaws.found_one y c
  · rfl
def inB (x c : D) : R Bool := match c with
  | .list ds => if SeqAt.shaped x = true ∧ SeqAt.shaped (.list ds) = true then .ok (ds.any fun z => PyData.eqv z x) else stk
  | .tuple ds => if SeqAt.shaped x = true ∧ SeqAt.shaped (.tuple ds) = true then .ok (ds.any fun z => PyData.eqv z x) else stk
  | .str y => match x with
    | .str z => .ok (strIn z y)
    | _ => stk
  | .dict kvs => if allAt kvs = true ∧ (atomK x).isSome = true then .ok (dfind kvs x).isSome else stk
  | _ => stk
def inD (x c : D) : R D := inB x c >>= fun b => .ok (.bool b)
def ninD (x c : D) : R D := inB x c >>= fun b => .ok (.bool (!b))
section
variable {X : Cx}
theorem in_rule (hu : X.A.units + 65 < cLine) {pins : List (Addr × Obj)} {s : Shared} {σ : L2.St} {G H : Hp} {x y : V} {v u : Value} {da db : D} {q : Bool → Prop} {e : Nat → D → Prop} (I : Inv X pins σ H s) (rx : RelV x v) (ry : RelV y u) (sb : Sub G H) (t1 : Dt X.w X.K G x da) (t2 : Dt X.w X.K G y db) (h : gd (inB da db) q e) :
    ∃ b, q b ∧ (∀ (E : Value → Shared → Prop) (Q : Value → Shared → Prop), (∀ s', Inv X pins σ H s' → Q (.bool b) s') → wpAny (model X.prog X.w) X.A (compareOp .In v u) Q E s) ∧ ∀ (E : Value → Shared → Prop) (Q : Value → Shared → Prop), (∀ s', Inv X pins σ H s' → Q (.bool (!b)) s') → wpAny (model X.prog X.w) X.A (compareOp .NotIn v u) Q E s := by
  unfold inB at h
  split at h
  · split at h
    · rename_i hc
      obtain ⟨as, r1⟩ := Dp.reads I da x v (t1.dp sb (shaped_lay hc.1)) rx
      obtain ⟨bs, r2⟩ := Dp.reads I _ y u (t2.dp sb (shaped_lay hc.2)) ry
      exact ⟨_, h, fun E Q hq => SeqAt.in_list_reads r2 r1 (SeqAt.canLay_of_shaped hc.2) (SeqAt.canLay_of_shaped hc.1) (room_in_shaped hc.1 hu) (hq s I), fun E Q hq => SeqAt.notIn_list_reads r2 r1 (SeqAt.canLay_of_shaped hc.2) (SeqAt.canLay_of_shaped hc.1) (room_in_shaped hc.1 hu) (hq s I)⟩
    · exact h.elim
  · split at h
    · rename_i hc
      obtain ⟨as, r1⟩ := Dp.reads I da x v (t1.dp sb (shaped_lay hc.1)) rx
      obtain ⟨bs, r2⟩ := Dp.reads I _ y u (t2.dp sb (shaped_lay hc.2)) ry
      exact ⟨_, h, fun E Q hq => SeqAt.in_tuple_reads r2 r1 (SeqAt.canLay_of_shaped hc.2) (SeqAt.canLay_of_shaped hc.1) (room_in_shaped hc.1 hu) (hq s I), fun E Q hq => SeqAt.notIn_tuple_reads r2 r1 (SeqAt.canLay_of_shaped hc.2) (SeqAt.canLay_of_shaped hc.1) (room_in_shaped hc.1 hu) (hq s I)⟩
    · exact h.elim
  · split at h
    · cases t1
      cases t2
      obtain ⟨t, rfl⟩ := rx
      obtain ⟨t', rfl⟩ := ry
      refine ⟨_, h, fun E Q hq => PyProof.Rows.in_str ?_, fun E Q hq => PyProof.Rows.notIn_str ?_⟩
      · rw [strIn_eq]; exact hq s I
      · rw [strIn_eq]; exact hq s I
    · exact h.elim
  · rename_i kvs0
    split at h
    · rename_i hc
      obtain ⟨k, hk⟩ := Option.isSome_iff_exists.mp hc.2
      cases t2 with
      | scr _ _ => simp [allAt, atomK] at hc
      | dct s1 s2 s3 s4 s5 s6 =>
        rename_i a o es ep
        obtain rfl : u = Value.ref a := ry
        have m := dc_map I sb s1 s3 s4 s5 hc.1
        have f := dc_find (P := X.prog) hk s5 hc.1
        have e1 : (findBy (mixKind X.prog X.w).is es k).isSome = (dfind kvs0 da).isSome := by
          split at f
          · rename_i dv hf
            obtain ⟨u, vv, f1, _⟩ := f
            rw [f1, hf]
            rfl
          · rename_i hf
            rw [f, hf]
            rfl
        refine ⟨_, h, fun E Q hq => wpAny_in_of (atom_is rx t1 hk) s2 m ?_, fun E Q hq => wpAny_notIn_of (atom_is rx t1 hk) s2 m ?_⟩
        · rw [e1]; exact hq _ (I.tok _)
        · rw [e1]; exact hq _ (I.tok _)
    · exact h.elim
  · exact h.elim
theorem d_in (hu : X.A.units + 65 < cLine) : OpR X (compareOp .In) (r2 X.w X.K inD) := by
  intro pins s σ H x y v u Q I rx ry ⟨G, da, db, e, sb, t1, t2, q⟩
  obtain ⟨b, q, h1, _⟩ := in_rule hu I rx ry sb t1 t2 (gd_bind.mp q)
  exact h1 _ _ fun s' I' => ⟨.bl b, H, I', rfl, q _ G H (Gr.refl sb) (.bl b)⟩
theorem d_nin (hu : X.A.units + 65 < cLine) : OpR X (compareOp .NotIn) (r2 X.w X.K ninD) := by
  intro pins s σ H x y v u Q I rx ry ⟨G, da, db, e, sb, t1, t2, q⟩
  obtain ⟨b, q, _, h1⟩ := in_rule hu I rx ry sb t1 t2 (gd_bind.mp q)
  exact h1 _ _ fun s' I' => ⟨.bl (!b), H, I', rfl, q _ G H (Gr.refl sb) (.bl _)⟩

/-! ### subscripts -/
def opt {α : Type} : Option α → R α
  | some a => .ok a
  | none => stk
theorem opt_in {α : Type} {o : Option α} {q : α → Prop} {e : Nat → D → Prop} (h : gd (opt o) q e) : ∃ a, o = some a ∧ q a := by
  cases o with
  | none => exact h.elim
  | some a => exact ⟨a, rfl, h⟩
def ixD (c i : D) : R D := match c with
  | .dict [(.none, .list ds), (.none, .none)] => asI i >>= fun i => opt (atI ds i)
  | .list ds => asI i >>= fun i => opt (atI ds i)
  | .tuple ds => asI i >>= fun i => opt (atI ds i)
  | .str x => asI i >>= fun i => lenOk x.length >>= fun _ => opt (atI x.cps.toList i) >>= fun c => .ok (.str ⟨#[c]⟩)
  | .dict kvs => if allAt kvs = true ∧ (atomK i).isSome = true then opt (dfind kvs i) else stk
  | _ => stk
theorem atI_dt {w : World} {K : PySem.W.Frag} {G : Hp} {vs : List V} {ds : List D} {i : Int} {d : D} (t : DtAll w K G vs ds) (h : atI ds i = some d) : ∃ v, atI vs i = some v ∧ Dt w K G v d := by
  unfold atI at h ⊢
  rw [t.length]
  cases q : ixN ds.length i with
  | none => rw [q] at h; cases h
  | some j =>
    rw [q] at h
    exact t.get' h
theorem d_ix : IxR X (r2 X.w X.K ixD) := by
  intro value slice pins s σ H x y v u Q I rx ry ⟨G, da, db, e, sb, t1, t2, q⟩ hs
  unfold ixD at q
  split at q
  · obtain ⟨i, rfl, q⟩ := asI_in t2 (gd_bind.mp q)
    obtain ⟨d, ed, q⟩ := opt_in q
    cases t1 with
    | scr s1 a1 =>
      obtain ⟨z, ez, tz⟩ := atI_dt a1 ed
      exact ix_list value slice pins s σ H _ _ v u Q I rx ry ⟨_, _, i, z, rfl, rfl, SqL.sub sb s1, ez, q z G H (Gr.refl sb) tz⟩ hs
    | dct _ _ _ _ _ u => simp at u
  · obtain ⟨i, rfl, q⟩ := asI_in t2 (gd_bind.mp q)
    obtain ⟨d, ed, q⟩ := opt_in q
    cases t1 with
    | lst s1 a1 =>
      obtain ⟨z, ez, tz⟩ := atI_dt a1 ed
      exact ix_list value slice pins s σ H _ _ v u Q I rx ry ⟨_, _, i, z, rfl, rfl, Rd.sq (Rd.sub sb s1), ez, q z G H (Gr.refl sb) tz⟩ hs
  · obtain ⟨i, rfl, q⟩ := asI_in t2 (gd_bind.mp q)
    obtain ⟨d, ed, q⟩ := opt_in q
    cases t1 with
    | tup s1 a1 =>
      obtain ⟨z, ez, tz⟩ := atI_dt a1 ed
      exact ix_tup value slice pins s σ H _ _ v u Q I rx ry ⟨_, _, i, z, rfl, rfl, SqT.sub sb s1, ez, q z G H (Gr.refl sb) tz⟩ hs
  · obtain ⟨i, rfl, q⟩ := asI_in t2 (gd_bind.mp q)
    obtain ⟨hl, q⟩ := lenOk_in (gd_bind.mp q)
    obtain ⟨c, ec, q⟩ := opt_in (gd_bind.mp q)
    cases t1
    exact ix_str value slice pins s σ H _ _ v u Q I rx ry ⟨_, i, c, rfl, rfl, hl, ec, q _ G H (Gr.refl sb) (.str _)⟩ hs
  · split at q
    · rename_i hc
      obtain ⟨k, hk⟩ := Option.isSome_iff_exists.mp hc.2
      obtain ⟨d, ed, q⟩ := opt_in q
      cases t1 with
      | scr _ _ => simp [allAt, atomK] at hc
      | dct s1 s2 s3 s4 s5 s6 =>
        rename_i a o es ep
        obtain rfl : v = Value.ref a := rx
        have m := dc_map I sb s1 s3 s4 s5 hc.1
        have f := dc_find (P := X.prog) hk s5 hc.1
        rw [ed] at f
        obtain ⟨u0, vv, f1, f2, f3⟩ := f
        exact tail_any m.typeIs slot_dict_getitem.lookup (wpAny_getItem_of (atom_is ry t2 hk) m f1 ⟨vv, H, I.tok _, f2, q vv G H (Gr.refl sb) f3⟩) hs
    · exact q.elim
  · exact q.elim

/-! ### slices -/
def cutA {α : Type} (xs : List α) (lo hi : Option Int) : List α := (xs.drop (HT.sIx xs.length 0 lo)).take (HT.sIx xs.length xs.length hi - HT.sIx xs.length 0 lo)
theorem cutV_eq (xs : List V) (lo hi : Option Int) : cutV xs lo hi = cutA xs lo hi := rfl
theorem cut_dt {w : World} {K : PySem.W.Frag} {G : Hp} {vs : List V} {ds : List D} {lo hi : Option Int} (t : DtAll w K G vs ds) : DtAll w K G (cutV vs lo hi) (cutA ds lo hi) := by
  unfold cutV cutA
  rw [t.length]
  exact (t.drop _).take _
def slD (c : D) (lo hi : Option Int) : R D := match c with
  | .list ds => .ok (.list (cutA ds lo hi))
  | .str x => lenOk x.length >>= fun _ => .ok (.str (cutS x lo hi))
  | _ => stk
theorem d_sl : SlR X (rS X.w X.K slD) := by
  intro pins s σ H x v vl vu lo hi sl Q I rx hs pl pu ⟨G, da, e, sb, t, q⟩
  unfold slD at q
  split at q
  · cases t with
    | lst s1 a1 => exact sl_list pins s σ H _ v vl vu lo hi sl Q I rx hs pl pu ⟨_, _, rfl, Rd.sq (Rd.sub sb s1), fun p np => q _ _ _ (Gr.new sb np) (.lst (.inl upd_same) ((cut_dt a1).sub ((Gr.new sb np).up sb)))⟩
  · obtain ⟨hl, q⟩ := lenOk_in (gd_bind.mp q)
    cases t
    exact sl_str pins s σ H _ v vl vu lo hi sl Q I rx hs pl pu ⟨_, rfl, hl, q _ G H (Gr.refl sb) (.str _)⟩
  · exact q.elim

/-! ### built-ins -/
def lenD : List D → R D
  | [.dict [(.none, .list ds), (.none, .none)]] => .ok (.int ds.length)
  | [.list ds] => .ok (.int ds.length)
  | [.tuple ds] => .ok (.int ds.length)
  | [.str x] => lenOk x.length >>= fun _ => .ok (.int x.length)
  | _ => stk
theorem c_len : CallR X (.builtin "len") (rC X.w X.K lenD) := callr_imp ((call_len_seq).or call_len_str) fun xs H Q ⟨G, ds, e, sb, t, q⟩ => by
  unfold lenD at q
  split at q
  · cases t with
    | cons t1 t2 =>
      cases t2
      cases t1 with
      | scr s1 a1 => exact .inl ⟨_, _, rfl, .inl (SqL.sub sb s1), by rw [a1.length]; exact q _ G H (Gr.refl sb) (.int _)⟩
      | dct _ _ _ _ _ u => simp at u
  · cases t with
    | cons t1 t2 =>
      cases t2
      cases t1 with
      | lst s1 a1 => exact .inl ⟨_, _, rfl, .inl (Rd.sq (Rd.sub sb s1)), by rw [a1.length]; exact q _ G H (Gr.refl sb) (.int _)⟩
  · cases t with
    | cons t1 t2 =>
      cases t2
      cases t1 with
      | tup s1 a1 => exact .inl ⟨_, _, rfl, .inr (SqT.sub sb s1), by rw [a1.length]; exact q _ G H (Gr.refl sb) (.int _)⟩
  · obtain ⟨hl, q⟩ := lenOk_in (gd_bind.mp q)
    cases t with
    | cons t1 t2 =>
      cases t2
      cases t1
      exact .inr ⟨_, rfl, hl, q _ G H (Gr.refl sb) (.int _)⟩
  · exact q.elim
def absD : List D → R D
  | [.int i] => .ok (.int (if i < 0 then -i else i))
  | _ => stk
theorem c_abs : CallR X (.builtin "abs") (rC X.w X.K absD) := callr_imp call_abs fun xs H Q ⟨G, ds, e, sb, t, q⟩ => by
  unfold absD at q
  split at q
  · cases t with
    | cons t1 t2 =>
      cases t2
      cases t1
      exact ⟨_, rfl, q _ G H (Gr.refl sb) (.int _)⟩
  · exact q.elim
def intD : List D → R D
  | [.int i] => .ok (.int i)
  | [.bool b] => .ok (.int (if b then 1 else 0))
  | _ => stk
theorem c_int : CallR X (.type "int") (rC X.w X.K intD) := callr_imp call_int1 fun xs H Q ⟨G, ds, e, sb, t, q⟩ => by
  unfold intD at q
  split at q
  · cases t with
    | cons t1 t2 =>
      cases t2
      cases t1
      exact .inl ⟨_, rfl, q _ G H (Gr.refl sb) (.int _)⟩
  · cases t with
    | cons t1 t2 =>
      cases t2
      cases t1
      exact .inr ⟨_, rfl, q _ G H (Gr.refl sb) (.int _)⟩
  · exact q.elim
def ints? : List D → Option (List Int)
  | [] => some []
  | .int i :: r => (ints? r).map (i :: ·)
  | _ :: _ => none
theorem ints_dt {w : World} {K : PySem.W.Frag} {G : Hp} : ∀ {vs : List V} {ds : List D} {ns : List Int}, DtAll w K G vs ds → ints? ds = some ns → vs = ns.map V.int ∧ ds = ns.map .int
  | _, _, _, .nil, h => by cases h; exact ⟨rfl, rfl⟩
  | _, _, ns, .cons (d := d) t1 t2, h => by
    cases t1 with
    | int i =>
      simp only [ints?] at h
      obtain ⟨ms, h1, h2⟩ := Option.map_eq_some_iff.mp h
      subst h2
      obtain ⟨e1, e2⟩ := ints_dt t2 h1
      exact ⟨by rw [e1]; rfl, by rw [e2]; rfl⟩
    | non => cases h
    | bl _ => cases h
    | str _ => cases h
    | lst _ _ => cases h
    | tup _ _ => cases h
    | dct _ _ _ _ _ _ => cases h
    | scr _ _ => cases h
theorem ints_map : ∀ ns : List Int, ints? (ns.map .int) = some ns
  | [] => rfl
  | n :: ns => by rw [List.map_cons, ints?, ints_map ns]; rfl
def maxL : List Int → Int
  | [] => 0
  | x :: r => r.foldl max x
def minL : List Int → Int
  | [] => 0
  | x :: r => r.foldl min x
theorem foldl_max_le (r : List Int) : ∀ x : Int, x ≤ r.foldl max x ∧ (∀ y ∈ r, y ≤ r.foldl max x) ∧ (r.foldl max x = x ∨ r.foldl max x ∈ r) := by
  induction r with
  | nil => intro x; exact ⟨Int.le_refl _, (fun _ h => by cases h), .inl rfl⟩
  | cons a r ih =>
    intro x
    obtain ⟨h1, h2, h3⟩ := ih (max x a)
    rw [List.foldl_cons]
    refine ⟨by omega, fun y hy => ?_, ?_⟩
    · rcases List.mem_cons.mp hy with rfl | hy
      · omega
      · exact h2 y hy
    · rcases h3 with h3 | h3
      · rw [h3]
        by_cases h : x ≤ a
        · right; rw [Int.max_eq_right h]; exact List.mem_cons_self
        · left; omega
      · right; exact List.mem_cons_of_mem _ h3
theorem foldl_min_le (r : List Int) : ∀ x : Int, r.foldl min x ≤ x ∧ (∀ y ∈ r, r.foldl min x ≤ y) ∧ (r.foldl min x = x ∨ r.foldl min x ∈ r) := by
  induction r with
  | nil => intro x; exact ⟨Int.le_refl _, (fun _ h => by cases h), .inl rfl⟩
  | cons a r ih =>
    intro x
    obtain ⟨h1, h2, h3⟩ := ih (min x a)
    rw [List.foldl_cons]
    refine ⟨by omega, fun y hy => ?_, ?_⟩
    · rcases List.mem_cons.mp hy with rfl | hy
      · omega
      · exact h2 y hy
    · rcases h3 with h3 | h3
      · rw [h3]
        by_cases h : x ≤ a
        · left; omega
        · right; rw [Int.min_eq_right (by omega)]; exact List.mem_cons_self
      · right; exact List.mem_cons_of_mem _ h3
theorem maxL_is {ns : List Int} {m : Int} (h : m ∈ ns) (hm : ∀ y ∈ ns, y ≤ m) : m = maxL ns := by
  cases ns with
  | nil => cases h
  | cons x r =>
    obtain ⟨h1, h2, h3⟩ := foldl_max_le r x
    show m = r.foldl max x
    have a1 : m ≤ r.foldl max x := by
      rcases List.mem_cons.mp h with rfl | h
      · exact h1
      · exact h2 m h
    have a2 : r.foldl max x ≤ m := by
      rcases h3 with h3 | h3
      · rw [h3]; exact hm x List.mem_cons_self
      · exact hm _ (List.mem_cons_of_mem _ h3)
    omega
theorem minL_is {ns : List Int} {m : Int} (h : m ∈ ns) (hm : ∀ y ∈ ns, m ≤ y) : m = minL ns := by
  cases ns with
  | nil => cases h
  | cons x r =>
    obtain ⟨h1, h2, h3⟩ := foldl_min_le r x
    show m = r.foldl min x
    have a1 : r.foldl min x ≤ m := by
      rcases List.mem_cons.mp h with rfl | h
      · exact h1
      · exact h2 m h
    have a2 : m ≤ r.foldl min x := by
      rcases h3 with h3 | h3
      · rw [h3]; exact hm x List.mem_cons_self
      · exact hm _ (List.mem_cons_of_mem _ h3)
    omega
def maxD : List D → R D
  | [.list ds] => opt (ints? ds) >>= fun ns => if 0 < ns.length then .ok (.int (maxL ns)) else stk
  | _ => stk
def minD : List D → R D
  | [.list ds] => opt (ints? ds) >>= fun ns => if 0 < ns.length then .ok (.int (minL ns)) else stk
  | _ => stk
theorem c_max (hc : X.calm = true) : CallR X (.builtin "max") (rC X.w X.K maxD) := callr_imp (cr_max hc) fun xs H Q ⟨G, ds, e, sb, t, q⟩ => by
  unfold maxD at q
  split at q
  · cases t with
    | cons t1 t2 =>
      cases t2
      cases t1 with
      | lst s1 a1 =>
        obtain ⟨ns, en, q2⟩ := opt_in (gd_bind.mp q)
        obtain ⟨rfl, rfl⟩ := ints_dt a1 en
        split at q2
        · rename_i hp
          exact ⟨_, ns, rfl, Rd.sq (Rd.sub sb s1), hp, fun m hm hle => by rw [maxL_is hm hle]; exact q2 _ G H (Gr.refl sb) (.int _)⟩
        · exact q2.elim
  · exact q.elim
theorem c_min (hc : X.calm = true) : CallR X (.builtin "min") (rC X.w X.K minD) := callr_imp (cr_min hc) fun xs H Q ⟨G, ds, e, sb, t, q⟩ => by
  unfold minD at q
  split at q
  · cases t with
    | cons t1 t2 =>
      cases t2
      cases t1 with
      | lst s1 a1 =>
        obtain ⟨ns, en, q2⟩ := opt_in (gd_bind.mp q)
        obtain ⟨rfl, rfl⟩ := ints_dt a1 en
        split at q2
        · rename_i hp
          exact ⟨_, ns, rfl, Rd.sq (Rd.sub sb s1), hp, fun m hm hle => by rw [minL_is hm hle]; exact q2 _ G H (Gr.refl sb) (.int _)⟩
        · exact q2.elim
  · exact q.elim
def max2D : List D → R D
  | [.int i, .int j] => .ok (.int (if j > i then j else i))
  | _ => stk
def min2D : List D → R D
  | [.int i, .int j] => .ok (.int (if j < i then j else i))
  | _ => stk
theorem c_max2 (hc : X.calm = true) : CallR X (.builtin "max") (rC X.w X.K max2D) := callr_imp (call_max2 hc) fun xs H Q ⟨G, ds, e, sb, t, q⟩ => by
  unfold max2D at q
  split at q
  · cases t with
    | cons t1 t2 =>
      cases t2 with
      | cons t2 t3 =>
        cases t3
        cases t1
        cases t2
        exact ⟨_, _, rfl, q _ G H (Gr.refl sb) (.int _)⟩
  · exact q.elim
theorem c_min2 (hc : X.calm = true) : CallR X (.builtin "min") (rC X.w X.K min2D) := callr_imp (call_min2 hc) fun xs H Q ⟨G, ds, e, sb, t, q⟩ => by
  unfold min2D at q
  split at q
  · cases t with
    | cons t1 t2 =>
      cases t2 with
      | cons t2 t3 =>
        cases t3
        cases t1
        cases t2
        exact ⟨_, _, rfl, q _ G H (Gr.refl sb) (.int _)⟩
  · exact q.elim
def bls? : List D → Option (List Bool)
  | [] => some []
  | .bool i :: r => (bls? r).map (i :: ·)
  | _ :: _ => none
theorem bls_dt {w : World} {K : PySem.W.Frag} {G : Hp} : ∀ {vs : List V} {ds : List D} {ns : List Bool}, DtAll w K G vs ds → bls? ds = some ns → vs = ns.map V.bl ∧ ds = ns.map .bool
  | _, _, _, .nil, h => by cases h; exact ⟨rfl, rfl⟩
  | _, _, ns, .cons (d := d) t1 t2, h => by
    cases t1 with
    | bl i =>
      simp only [bls?] at h
      obtain ⟨ms, h1, h2⟩ := Option.map_eq_some_iff.mp h
      subst h2
      obtain ⟨e1, e2⟩ := bls_dt t2 h1
      exact ⟨by rw [e1]; rfl, by rw [e2]; rfl⟩
    | non => cases h
    | int _ => cases h
    | str _ => cases h
    | lst _ _ => cases h
    | tup _ _ => cases h
    | dct _ _ _ _ _ _ => cases h
    | scr _ _ => cases h
theorem bls_map : ∀ ns : List Bool, bls? (ns.map .bool) = some ns
  | [] => rfl
  | n :: ns => by rw [List.map_cons, bls?, bls_map ns]; rfl
def allD : List D → R D
  | [.list ds] => opt (bls? ds) >>= fun bs => .ok (.bool (bs.all id))
  | _ => stk
def anyD : List D → R D
  | [.list ds] => opt (bls? ds) >>= fun bs => .ok (.bool (bs.any id))
  | _ => stk
theorem c_all (hc : X.calm = true) : CallR X (.builtin "all") (rC X.w X.K allD) := callr_imp (cr_all hc) fun xs H Q ⟨G, ds, e, sb, t, q⟩ => by
  unfold allD at q
  split at q
  · cases t with
    | cons t1 t2 =>
      cases t2
      cases t1 with
      | lst s1 a1 =>
        obtain ⟨ns, en, q2⟩ := opt_in (gd_bind.mp q)
        obtain ⟨rfl, rfl⟩ := bls_dt a1 en
        exact ⟨_, ns, rfl, Rd.sq (Rd.sub sb s1), q2 _ G H (Gr.refl sb) (.bl _)⟩
  · exact q.elim
theorem c_any (hc : X.calm = true) : CallR X (.builtin "any") (rC X.w X.K anyD) := callr_imp (cr_any hc) fun xs H Q ⟨G, ds, e, sb, t, q⟩ => by
  unfold anyD at q
  split at q
  · cases t with
    | cons t1 t2 =>
      cases t2
      cases t1 with
      | lst s1 a1 =>
        obtain ⟨ns, en, q2⟩ := opt_in (gd_bind.mp q)
        obtain ⟨rfl, rfl⟩ := bls_dt a1 en
        exact ⟨_, ns, rfl, Rd.sq (Rd.sub sb s1), q2 _ G H (Gr.refl sb) (.bl _)⟩
  · exact q.elim
/-- list(x) of a list or a tuple, as one's own -/
def listD : List D → R D
  | [.list ds] => .ok (.list ds)
  | [.tuple ds] => .ok (.list ds)
  | _ => stk
theorem own_new {w : World} {K : PySem.W.Frag} {G H : Hp} {p : Addr} {vs : List V} {ds : List D} (sb : Sub G H) (np : H p = none) (t : DtAll w K G vs ds) : Gr G H G (upd H p (.lst vs)) ∧ G p = none ∧ Own w K G (upd H p (.lst vs)) p (.list ds) := by
  refine ⟨Gr.own sb np, ?_, .inl ⟨vs, ds, rfl, upd_same, t⟩⟩
  cases z : G p with
  | none => rfl
  | some o => rw [sb p o z] at np; cases np
theorem c_list : CallR X (.type "list") (rCo X.w X.K listD) := callr_imp call_list_of fun xs H Q ⟨G, ds, e, sb, t, q⟩ => by
  unfold listD at q
  split at q
  · cases t with
    | cons t1 t2 =>
      cases t2
      cases t1 with
      | lst s1 a1 => exact ⟨_, _, rfl, .inl (Rd.sq (Rd.sub sb s1)), fun p np => let ⟨g, n, o⟩ := own_new sb np a1; q p _ _ g np n o⟩
  · cases t with
    | cons t1 t2 =>
      cases t2
      cases t1 with
      | tup s1 a1 => exact ⟨_, _, rfl, .inr (SqT.sub sb s1), fun p np => let ⟨g, n, o⟩ := own_new sb np a1; q p _ _ g np n o⟩
  · exact q.elim
/-! ### join -/
def strs? : List D → Option (List Str)
  | [] => some []
  | .str i :: r => (strs? r).map (i :: ·)
  | _ :: _ => none
theorem strs_dt {w : World} {K : PySem.W.Frag} {G : Hp} : ∀ {vs : List V} {ds : List D} {ns : List Str}, DtAll w K G vs ds → strs? ds = some ns → vs = ns.map V.str ∧ ds = ns.map .str
  | _, _, _, .nil, h => by cases h; exact ⟨rfl, rfl⟩
  | _, _, ns, .cons (d := d) t1 t2, h => by
    cases t1 with
    | str i =>
      simp only [strs?] at h
      obtain ⟨ms, h1, h2⟩ := Option.map_eq_some_iff.mp h
      subst h2
      obtain ⟨e1, e2⟩ := strs_dt t2 h1
      exact ⟨by rw [e1]; rfl, by rw [e2]; rfl⟩
    | non => cases h
    | bl _ => cases h
    | int _ => cases h
    | lst _ _ => cases h
    | tup _ _ => cases h
    | dct _ _ _ _ _ _ => cases h
    | scr _ _ => cases h
theorem strs_map : ∀ ns : List Str, strs? (ns.map .str) = some ns
  | [] => rfl
  | n :: ns => by rw [List.map_cons, strs?, strs_map ns]; rfl
def joinD (s l : D) : R D := match s, l with
  | .str a, .list ds => opt (strs? ds) >>= fun ys => if (ys.map (·.length)).sum + ys.length * a.length ≤ 16777216 then .ok (.str (Str.join a ys)) else stk
  | _, _ => stk
theorem v_join {o a : Expr} {apos pos : Pos} {e : Nat → D → Prop} {O : List Nat} {fo fa : Env' → R D} (ho : PE X o (tV X.w X.K e O fo)) (ha : PE X a (tV X.w X.K e O fa)) (hs : starEach [a] X.env = [(false, eval a X.env)] := by rfl) (hbase : attributeBase o "join" X.env (eval o X.env) = eval o X.env := by rfl) (hline : (apos.endLine == pos.line) = true := by rfl) :
    PE X (.Call (.Attribute o "join" apos) [a] [] pos) (tV X.w X.K e O fun ρ => fo ρ >>= fun x => opt (match x with | .str z => some z | _ => none) >>= fun _ => fa ρ >>= fun y => joinD x y) := by
  refine pe_imp (pe_join ho ha hs hbase hline) fun σ H Q ⟨B, ρ, G, r, q⟩ => ⟨B, ρ, G, r, gd_mono (gd_bind.mp q) fun d q v G1 H1 g1 t1 => ?_⟩
  obtain ⟨z, ez, q⟩ := opt_in (gd_bind.mp q)
  cases t1 with
  | str z =>
    refine ⟨⟨z, rfl⟩, B, ρ, G1, r.grow g1, gd_mono (gd_bind.mp q) fun d2 q u G2 H2 g2 t2 => ?_⟩
    unfold joinD at q
    split at q
    · rename_i hz
      cases hz
      cases t2 with
      | lst s1 a1 =>
        obtain ⟨ys, ey, q2⟩ := opt_in (gd_bind.mp q)
        obtain ⟨rfl, rfl⟩ := strs_dt a1 ey
        split at q2
        · rename_i hp
          refine ⟨_, _, ys, rfl, rfl, .inl (Rd.sq (Rd.sub g2.sub s1)), hp, ?_⟩
          rw [TL.join_eq]
          exact q2 _ G2 H2 (g1.trans g2) (.str _)
        · exact q2.elim
    · exact q.elim
  | non => cases ez
  | bl _ => cases ez
  | int _ => cases ez
  | lst _ _ => cases ez
  | tup _ _ => cases ez
  | dct _ _ _ _ _ _ => cases ez
  | scr _ _ => cases ez
end
end Vs

set_option Elab.async false
set_option linter.all false
set_option maxRecDepth 100000
/-! More rules on data: stars, counts, places, sums, order, comprehensions stored. -/
namespace Vs
open PySem PySem.Spec PyProof.Rows L2

theorem hu64 {k : Nat} {A : Around} (hr : Room k A) : A.units + 64 < cLine := by have := hr.un; omega
theorem hu65 {k : Nat} {A : Around} (hr : Room k A) : A.units + 65 < cLine := by have := hr.un; omega
theorem wish0 {w : World} {K : PySem.W.Frag} {cl : Nat → Addr} {E : XK} : Wish noE w K cl E := fun _ _ h => h.elim
/-- turns that a while may take -/
def FU : Nat := 1000000

section
variable {X : Cx} {a b : Expr} {es : List Expr} {pos p apos cpos : Pos} {e : Nat → D → Prop} {O O' vs ws : List Nat} {fr : Bool} {fa fb : Env' → R D} {fs : Env' → R (List D)}

/-! ### - -/
theorem v_negc {i : Int} {j p1} : PE X (.UnaryOp .USub (.Constant (.int i) j p1) pos) (tV X.w X.K e O fun _ => .ok (.int (-i))) :=
  pe_imp (pe_un un_neg pe_int) fun σ H Q ⟨B, ρ, G, r, q⟩ => ⟨i, rfl, q _ G H r.here (.int _)⟩
def negD (d : D) : R D := asI d >>= fun i => .ok (.int (-i))
theorem v_neg (h : PE X a (tV X.w X.K e O fa)) : PE X (.UnaryOp .USub a pos) (tV X.w X.K e O fun ρ => fa ρ >>= fun x => negD x) :=
  pe_imp (pe_un un_neg h) fun σ H Q ⟨B, ρ, G, r, q⟩ => ⟨B, ρ, G, r, gd_mono (gd_bind.mp q) fun d q v G1 H1 g1 t => by
    obtain ⟨i, rfl, q⟩ := asI_in t (gd_bind.mp q)
    exact ⟨i, rfl, q _ G1 H1 g1 (.int _)⟩⟩

/-! ### order (whole numbers) -/
def ltD : D → D → R D := cmpI fun i j => decide (i < j)
def leD : D → D → R D := cmpI fun i j => decide (i ≤ j)
def gtD : D → D → R D := cmpI fun i j => decide (j < i)
def geD : D → D → R D := cmpI fun i j => decide (j ≤ i)
theorem d_lt : OpR X (compareOp .Lt) (r2 X.w X.K ltD) := d_ltI
theorem d_le : OpR X (compareOp .LtE) (r2 X.w X.K leD) := d_leI
theorem d_gt : OpR X (compareOp .Gt) (r2 X.w X.K gtD) := d_gtI
theorem d_ge : OpR X (compareOp .GtE) (r2 X.w X.K geD) := d_geI

/-! ### is True -/
def asBB (a b : D) (g : Bool → Bool → Bool) : R D := match a, b with
  | .bool x, .bool y => .ok (.bool (g x y))
  | _, _ => stk
def isBD (a b : D) : R D := asBB a b fun x y => decide (x = y)
def notBD (a b : D) : R D := asBB a b fun x y => !decide (x = y)
theorem d_isb : OpR X (compareOp .Is) (r2 X.w X.K isBD) := opr_imp op_isBl fun x y H Q ⟨G, da, db, e, sb, t1, t2, q⟩ => by
  unfold isBD asBB at q
  split at q
  · cases t1; cases t2
    exact ⟨_, _, rfl, rfl, q _ G H (Gr.refl sb) (.bl _)⟩
  · exact q.elim
theorem d_isnb : OpR X (compareOp .IsNot) (r2 X.w X.K notBD) := opr_imp op_notBl fun x y H Q ⟨G, da, db, e, sb, t1, t2, q⟩ => by
  unfold notBD asBB at q
  split at q
  · cases t1; cases t2
    exact ⟨_, _, rfl, rfl, q _ G H (Gr.refl sb) (.bl _)⟩
  · exact q.elim

/-! ### stars -/
def seqOf : D → R (List D)
  | .list ds => .ok ds
  | .tuple ds => .ok ds
  | _ => stk
theorem a_star {p1 : Pos} (ha : PE X a (tV X.w X.K e O fa)) (hs : PA X es (tA X.w X.K e O fs)) (h : starEach (.Starred a p1 :: es) X.env = (true, eval a X.env) :: starEach es X.env := by rfl) :
    PA X (.Starred a p1 :: es) (tA X.w X.K e O fun ρ => fa ρ >>= fun x => seqOf x >>= fun zs => fs ρ >>= fun xs => .ok (zs ++ xs)) := by
  refine pa_imp (StX.pa_star ha hs h) fun σ H Q ⟨B, ρ, G, r, q⟩ => ⟨B, ρ, G, r, gd_mono (gd_bind.mp q) fun x q v G1 H1 g1 t1 => ?_⟩
  have key : ∀ (A : Addr) (us : List V) (zs : List D), v = .ref A → (SqT X.K H1 A us ∨ SqL X.K H1 A us) → DtAll X.w X.K G1 us zs → gd (fs ρ >>= fun xs => .ok (zs ++ xs)) (fun ds => ∀ vs G' H', Gr G H G' H' → DtAll X.w X.K G' vs ds → Q vs H') e →
      ∃ a xs, v = .ref a ∧ (SqT X.K H1 a xs ∨ SqL X.K H1 a xs) ∧ tA X.w X.K e O fs σ H1 fun vs H2 => Q (xs ++ vs) H2 := fun A us zs e1 h1 h2 q =>
    ⟨A, us, e1, h1, B, ρ, G1, r.grow g1, gd_mono (gd_bind.mp q) fun xs q vs G2 H2 g2 t2 => q _ G2 H2 (g1.trans g2) ((h2.sub (g2.up g1.sub)).append t2)⟩
  unfold seqOf at q
  split at q
  · cases t1 with
    | lst s1 a1 => exact key _ _ _ rfl (.inr (Rd.sq (Rd.sub g1.sub s1))) a1 q
  · cases t1 with
    | tup s1 a1 => exact key _ _ _ rfl (.inl (SqT.sub g1.sub s1)) a1 q
  · exact q.elim

/-! ### texts: count -/
def asStr : D → R Str
  | .str z => .ok z
  | _ => stk
theorem asStr_in {w : World} {K : PySem.W.Frag} {d : D} {v : V} {G : Hp} {q : Str → Prop} (t : Dt w K G v d) (h : gd (asStr d) q e) : ∃ z, d = .str z ∧ v = .str z ∧ q z := by
  cases t with
  | str z => exact ⟨z, rfl, rfl, h⟩
  | non => exact h.elim
  | bl _ => exact h.elim
  | int _ => exact h.elim
  | lst _ _ => exact h.elim
  | tup _ _ => exact h.elim
  | dct _ _ _ _ _ _ => exact h.elim
  | scr _ _ => exact h.elim
def countD (x y : D) : R D := asStr x >>= fun a => asStr y >>= fun b => .ok (.int (Txt.count a b))
theorem v_count (ho : PE X a (tV X.w X.K e O fa)) (hb : PE X b (tV X.w X.K e O fb)) (hs : starEach [b] X.env = [(false, eval b X.env)] := by rfl) (hbase : attributeBase a "count" X.env (eval a X.env) = eval a X.env := by rfl) (hline : (apos.endLine == pos.line) = true := by rfl) :
    PE X (.Call (.Attribute a "count" apos) [b] [] pos) (tV X.w X.K e O fun ρ => fa ρ >>= fun x => asStr x >>= fun _ => fb ρ >>= fun y => countD x y) := by
  refine pe_imp (pe_m1 PySem.F.slot_str_count PySem.F.type_str_count mt_count ho hb hs hbase hline) fun σ H Q ⟨B, ρ, G, r, q⟩ => ⟨B, ρ, G, r, gd_mono (gd_bind.mp q) fun d q v G1 H1 g1 t1 => ?_⟩
  obtain ⟨z, rfl, rfl, q⟩ := asStr_in t1 (gd_bind.mp q)
  refine ⟨⟨z, rfl⟩, B, ρ, G1, r.grow g1, gd_mono (gd_bind.mp q) fun d2 q u G2 H2 g2 t2 => ?_⟩
  unfold countD at q
  obtain ⟨z1, e1, _, q⟩ := asStr_in t1 (gd_bind.mp q)
  cases e1
  obtain ⟨y, rfl, rfl, q⟩ := asStr_in t2 (gd_bind.mp q)
  exact ⟨_, _, rfl, rfl, q _ G2 H2 (g1.trans g2) (.int _)⟩

/-! ### lists: the place of an item -/
def indexD (l d : D) : R D := itL l >>= fun ds => if SeqAt.shaped (.list ds) = true ∧ SeqAt.shaped d = true then opt (ds.findIdx? fun z => PyData.eqv z d) >>= fun j => .ok (.int (j : Nat)) else stk
theorem v_index (hu : X.A.units + 65 < cLine) (ho : PE X a (tV X.w X.K e O fa)) (hb : PE X b (tV X.w X.K e O fb))
    (hbase : attributeBase a "index" X.env (eval a X.env) = eval a X.env := by rfl)
    (hfew : ((backTo cpos (starEach [b] X.env)).all (fun x => !x.1) && (backToKw cpos (keywordEach [] X.env)).all (fun x => x.1.isSome) && decide ([b].length + ([] : List Keyword).length + (if ([] : List Keyword).isEmpty then 0 else 1) < 30)) = true := by rfl)
    (hline : (apos.endLine == cpos.line) = true := by rfl) (hst : starEach [b] X.env = (false, eval b X.env) :: starEach [] X.env := by rfl) (hpl : (backTo cpos (starEach [] X.env)).any (·.1) = false := by rfl) :
    PE X (.Call (.Attribute a "index" apos) [b] [] cpos) (tV X.w X.K e O fun ρ => fa ρ >>= fun x => itL x >>= fun _ => fb ρ >>= fun y => indexD x y) := by
  refine pe_imp (pe_bm PySem.F.plainAttrs_list PySem.F.slot_list_index PySem.F.type_list_index (mt_indexD hu) ho (pa_cons hb pa_nil hst) hbase hfew hline hst hpl) fun σ H Q ⟨B, ρ, G, r, q⟩ => ⟨B, ρ, G, r, gd_mono (gd_bind.mp q) fun d q v G1 H1 g1 t1 => ?_⟩
  cases t1 with
  | lst s1 a1 =>
    rename_i A xs ds
    refine ⟨.inl ⟨rfl, xs, Rd.sq (Rd.sub g1.sub s1)⟩, B, ρ, G1, r.grow g1, gd_mono (gd_bind.mp q) fun d2 q u G2 H2 g2 t2 => ?_⟩
    have q : gd (if SeqAt.shaped (.list ds) = true ∧ SeqAt.shaped d2 = true then opt (ds.findIdx? fun z => PyData.eqv z d2) >>= fun j => .ok (.int (j : Nat)) else stk) (fun d => ∀ v G' H', Gr G H G' H' → Dt X.w X.K G' v d → Q v H') e := q
    split at q
    · rename_i hc
      obtain ⟨j, ej, q⟩ := opt_in (gd_bind.mp q)
      obtain ⟨hj, h1, h2⟩ := List.findIdx?_eq_some_iff_getElem.mp ej
      have tl : Dt X.w X.K G2 (.ref A) (.list ds) := .lst (Rd.sub (g2.up g1.sub) s1) (a1.sub (g2.up g1.sub))
      exact ⟨A, u, d2, ds, j, ds[j], rfl, rfl, tl.dp g2.sub (shaped_lay hc.1), t2.dp g2.sub (shaped_lay hc.2), hc.1, hc.2, List.getElem?_eq_getElem hj, h1, fun m z hm hz => by
        obtain ⟨hm2, ez⟩ := List.getElem?_eq_some_iff.mp hz
        have := h2 m hm
        rw [ez] at this
        simpa using this, q _ G2 H2 (g1.trans g2) (.int _)⟩
    · exact q.elim
  | non => exact q.elim
  | bl _ => exact q.elim
  | int _ => exact q.elim
  | str _ => exact q.elim
  | tup _ _ => exact q.elim
  | dct _ _ _ _ _ _ => exact q.elim
  | scr _ _ => exact q.elim

/-! ### sums -/
def sumD : List D → R D
  | [.list ds] => opt (ints? ds) >>= fun ns => .ok (.int ns.sum)
  | _ => stk
theorem c_sum (hc : X.calm = true) : CallR X (.builtin "sum") (rC X.w X.K sumD) := callr_imp (cr_sum hc) fun xs H Q ⟨G, ds, e, sb, t, q⟩ => by
  unfold sumD at q
  split at q
  · cases t with
    | cons t1 t2 =>
      cases t2
      cases t1 with
      | lst s1 a1 =>
        obtain ⟨ns, en, q2⟩ := opt_in (gd_bind.mp q)
        obtain ⟨rfl, rfl⟩ := ints_dt a1 en
        exact ⟨_, ns, rfl, Rd.sq (Rd.sub sb s1), q2 _ G H (Gr.refl sb) (.int _)⟩
  · exact q.elim

/-! ### a slot of one's own: its item -/
theorem v_ixo (i : Nat) {x : Str} (hb : PE X b (tV X.w X.K e O fb)) (hi : i ∈ O := by decide) (hN : X.N[i]? = some x := by rfl) (hv : Vis X.env.scope x := by first | exact Or.inl rfl | exact Or.inr (Or.inl rfl) | exact Or.inr (Or.inr rfl)) (hd : (x == ("__debug__" : Str)) = false := by decide)
    (hc : (x == ("__classdict__" : Str)) = false := by decide) (hs : PlainIx b := by exact fun _ _ => rfl) :
    PE X (.Subscript (.Name x p) b pos) (tV X.w X.K e O fun ρ => gl ρ i >>= fun ds => fb ρ >>= fun y => asI y >>= fun j => opt (atI ds j)) := by
  refine pe_imp (pe_ix ix_list (pv i hN hv hd hc) hb hs) fun σ H Q ⟨B, ρ, G, r, q⟩ => ?_
  obtain ⟨ds, e0, q⟩ := gl_in (gd_bind.mp q)
  obtain ⟨A, s0, o, n1, n2⟩ := r.own i _ e0 hi
  rcases o with ⟨us, ds', ed, hA, tA⟩ | ⟨_, _, _, _, ed, _⟩
  · cases ed
    refine ⟨.ref A, s0, B, ρ, G, r, gd_mono (gd_bind.mp q) fun d q v G1 H1 g1 t => ?_⟩
    obtain ⟨j, rfl, q⟩ := asI_in t (gd_bind.mp q)
    obtain ⟨y, ey, q⟩ := opt_in q
    obtain ⟨z, ez, tz⟩ := atI_dt tA ey
    exact ⟨A, us, j, z, rfl, rfl, .inl (.inl (g1.keep A _ hA)), ez, q z G1 H1 g1 (tz.sub (g1.up r.sub))⟩
  · cases ed

/-! ### x = [..] on one line, frozen -/
section
variable {elt tgt iter : Expr} {ifs : List Expr} {scope : Scope} {fi : Env' → R (List D)} {tg : D → Env' → R Env'} {ft : Env' → R Bool} {fe : Env' → R D}
theorem s_lcV (i : Nat) (own : List (Str × Nat)) {y : Str} {py spos : Pos} (hc : X.calm = true) (hN : X.N.Nodup) (hi : PI X tgt iter (iV X.w X.K e O fi)) (ok : BlkOk X.N X.env.scope scope own) (hg : Blk X scope fun Y => PG Y tgt (gT Y.w Y.K noE O ws tg)) (ht : Blk X scope fun Y => PTs Y ifs (tW Y.w Y.K noE O ft)) (he : Blk X scope fun Y => PE Y elt (tV Y.w Y.K noE O fe))
    (h1 : ∀ j ∈ O', j ∈ O ∧ j ≠ i := by decide) (h2 : ∀ j ∈ O, j = i ∨ j ∈ O' := by decide) (hy : X.N[i]? = some y := by rfl) (hyl : X.env.scope.names.lookup y = some .local := by rfl) (hv : ∀ j ∈ ws, j ∈ own.map (·.2) := by decide) (hs : ∀ x, foldedSetIterable iter X.env x = pure x := by intro _; rfl)
    (hsw : swapsWith (.ListComp elt [⟨tgt, iter, ifs, 0⟩] scope pos) (some (.Name y py)) spos.line X.env = pure true := by exact sw_true rfl rfl rfl (by decide +kernel)) :
    PS X (.Assign [.Name y py] (.ListComp elt [⟨tgt, iter, ifs, 0⟩] scope pos) spos) (sV X.w X.K e O O' fr fun ρ => compD (own.map (·.2)) fi tg ft fe ρ >>= fun d => setD i d ρ) := by
  refine ps_imp (ps_setLc (g := gT X.w X.K noE O ws tg) (tt := tW X.w X.K noE O ft) (te := tV X.w X.K noE O fe) hc hN hy hyl hsw hi ok hg ht he hs) fun Dn σ H ⟨B, ρ, G, r, q⟩ => ?_
  refine lc_in (e := e) hv ⟨B, ρ, G, r, gd_mono (gd_bind.mp q) fun d q p G1 H1 g1 n1 n2 o => ?_⟩
  obtain ⟨u, hu⟩ := o.there
  have g2 := g1.frz n1 hu
  exact q _ _ H1 (g2.up r.sub) ((r.grow g2).put (o.dt n2 hu) h1 h2)
end
end
end Vs

set_option Elab.async false
set_option linter.all false
set_option maxRecDepth 100000
namespace Vs
open PySem PySem.Spec PyProof.Rows L2

/-! ### constants of the module -/
section
variable {w : World} {K : PySem.W.Frag} {mg : Str → Option Value} {x : Str}
theorem Kon.int {i : Int} {t : Tok} (m : mg x = some (.int i t)) : Kon w K mg x (.int i) := ⟨.int i, _, m, ⟨t, rfl⟩, fun _ => .int i⟩
theorem Kon.str {z : Str} {t : Tok} (m : mg x = some (.str z t)) : Kon w K mg x (.str z) := ⟨.str z, _, m, ⟨t, rfl⟩, fun _ => .str z⟩
end

/-! ### the script -/
theorem sp_law {w : World} {K : PySem.W.Frag} {cl : Nat → Addr} {H : Hp} {a : Addr} {ns : List Int} {f : List D → R D} (hS : SqL K H a (ns.map V.int)) (hf : f [.dict [(.none, .list (ns.map .int)), (.none, .none)]] = .ok (.bool true)) :
    spD w K cl 1 false f [.ref a] H (fun v _ => v = .bl true) fun _ _ _ => False := by
  have hd : ∀ ns : List Int, DtAll w K H (ns.map V.int) (ns.map .int) := fun ns => by
    induction ns with
    | nil => exact .nil
    | cons i ns ih => exact .cons (.int i) ih
  refine ⟨_, H, Sub.refl H, .one (.scr hS (hd ns)), ?_⟩
  unfold fnD
  rw [List.length_singleton, if_pos rfl, hf]
  intro v G' H' b
  cases b.2
  rfl

/-! ### x = [.. for .. for ..] on one line -/
section
variable {X : Cx} {e : Nat → D → Prop} {O O' ws ws1 : List Nat} {fr : Bool} {elt tgt iter tgt1 iter1 : Expr} {ifs ifs1 : List Expr} {scope : Scope} {pos : Pos} {fi fi1 : Env' → R (List D)} {tg tg1 : D → Env' → R Env'} {ft ft1 : Env' → R Bool} {fe : Env' → R D}
theorem s_lc2 (i : Nat) (own : List (Str × Nat)) (vs1 : List Nat) {y : Str} {py spos : Pos} (hc : X.calm = true) (hN : X.N.Nodup) (hi : PI X tgt iter (iV X.w X.K e O fi)) (ok : BlkOk X.N X.env.scope scope own) (hg : Blk X scope fun Y => PG Y tgt (gT Y.w Y.K noE O ws tg)) (ht : Blk X scope fun Y => PTs Y ifs (tW Y.w Y.K noE O ft))
    (hi1 : Blk X scope fun Y => PI Y tgt1 iter1 (iV Y.w Y.K noE O fi1)) (hg1 : Blk X scope fun Y => PG Y tgt1 (gT Y.w Y.K noE O ws1 tg1)) (ht1 : Blk X scope fun Y => PTs Y ifs1 (tW Y.w Y.K noE O ft1)) (he : Blk X scope fun Y => PE Y elt (tV Y.w Y.K noE O fe))
    (h1 : ∀ j ∈ O', j ∈ O ∧ j ≠ i := by decide) (h2 : ∀ j ∈ O, j = i ∨ j ∈ O' := by decide) (hy : X.N[i]? = some y := by rfl) (hyl : X.env.scope.names.lookup y = some .local := by rfl)
    (hvo : ∀ i ∈ vs1, i ∈ own.map (·.2) := by decide) (hv : ∀ j ∈ ws, j ∈ own.map (·.2) := by decide) (hv1 : ∀ j ∈ ws1, j ∈ vs1 := by decide) (hs : ∀ x, foldedSetIterable iter X.env x = pure x := by intro _; rfl) (hs1 : ∀ env x, foldedSetIterable iter1 env x = pure x := by intro _ _; rfl)
    (hsw : swapsWith (.ListComp elt [⟨tgt, iter, ifs, 0⟩, ⟨tgt1, iter1, ifs1, 0⟩] scope pos) (some (.Name y py)) spos.line X.env = pure true := by exact sw_true rfl rfl rfl (by decide +kernel)) :
    PS X (.Assign [.Name y py] (.ListComp elt [⟨tgt, iter, ifs, 0⟩, ⟨tgt1, iter1, ifs1, 0⟩] scope pos) spos) (sV X.w X.K e O O' fr fun ρ => compD2 (own.map (·.2)) vs1 fi tg ft fi1 tg1 ft1 fe ρ >>= fun d => setD i d ρ) := by
  refine ps_imp (ps_setLc2 (g := gT X.w X.K noE O ws tg) (tt := tW X.w X.K noE O ft) (wi1 := iV X.w X.K noE O fi1) (g1 := gT X.w X.K noE O ws1 tg1) (tt1 := tW X.w X.K noE O ft1) (te := tV X.w X.K noE O fe) hc hN hy hyl hsw hi ok hvo hg ht hi1 hg1 ht1 he hs hs1) fun Dn σ H ⟨B, ρ, G, r, q⟩ => ?_
  refine lc2_in (e := e) hv hv1 ⟨B, ρ, G, r, gd_mono (gd_bind.mp q) fun d q p G1 H1 g1 n1 n2 o => ?_⟩
  obtain ⟨u, hu⟩ := o.there
  have g2 := g1.frz n1 hu
  exact q _ _ H1 (g2.up r.sub) ((r.grow g2).put (o.dt n2 hu) h1 h2)
end
end Vs

set_option Elab.async false
set_option linter.all false
set_option maxRecDepth 100000
/-! sorted, on data that are alike. -/
namespace Vs
open PySem PySem.Spec PyProof.Rows L2
open PySem.W (EachIs AllAlike Sortable alike dataLe dataLt)

/-! ### the order, and sorting by inserting -/
def insD (x : D) : List D → List D
  | [] => [x]
  | y :: r => if dle x y then x :: y :: r else y :: insD x r
where dle (a b : D) : Bool := !dataLt b a
def isort : List D → List D
  | [] => []
  | x :: r => insD x (isort r)
theorem ins_len (x : D) : ∀ l : List D, (insD x l).length = l.length + 1
  | [] => rfl
  | y :: r => by
    show (if insD.dle x y then _ else _ : List D).length = _
    split
    · rfl
    · rw [List.length_cons, ins_len x r, List.length_cons]
theorem isort_len : ∀ l : List D, (isort l).length = l.length
  | [] => rfl
  | x :: r => by
    show (insD x (isort r)).length = _
    rw [ins_len, isort_len r, List.length_cons]
theorem le_is : dataLe false (fun d : D => d) = insD.dle := PySem.W.dataLe_eq false _
theorem le_tot : PySem.W.TotalLe insD.dle := by
  rw [← le_is]
  exact PySem.W.sortLe_total _ _ _
theorem ins_at {x : D} : ∀ {l r : List D}, (∀ b ∈ l, (!insD.dle x b) = true) → (∀ b ∈ r, insD.dle x b = true) → insD x (l ++ r) = l ++ x :: r
  | [], [], _, _ => rfl
  | [], y :: r, _, h => by
    show (if insD.dle x y then _ else _) = _
    rw [if_pos (h y List.mem_cons_self)]
    rfl
  | y :: l, r, h1, h2 => by
    have e := h1 y List.mem_cons_self
    rw [Bool.not_eq_true'] at e
    show (if insD.dle x y then _ else _) = _
    rw [e, if_neg Bool.false_ne_true]
    exact congrArg (y :: ·) (ins_at (fun b hb => h1 b (List.mem_cons_of_mem _ hb)) h2)
theorem isort_is : ∀ l : List D, l.mergeSort insD.dle = isort l
  | [] => by rw [List.mergeSort_nil]; rfl
  | x :: l => by
    have tr : ∀ a b c : D, insD.dle a b = true → insD.dle b c = true → insD.dle a c = true := le_tot.trans
    have to : ∀ a b : D, (insD.dle a b || insD.dle b a) = true := fun a b => by
      rcases le_tot.total a b with h | h <;> simp [h]
    obtain ⟨l1, l2, e1, e2, h⟩ := List.mergeSort_cons (le := insD.dle) tr to x l
    have p := List.pairwise_mergeSort (le := insD.dle) tr to (x :: l)
    rw [e1] at p ⊢
    show l1 ++ x :: l2 = insD x (isort l)
    rw [← isort_is l, e2]
    exact (ins_at h fun b hb => (List.pairwise_cons.mp (List.pairwise_append.mp p).2.1).1 b hb).symm
/-- what sorted may be asked -/
def srtOk (ds : List D) : Bool := ds.all (fun d => d.canLay0 && decide (d.depth ≤ 60) && ds.all fun d' => alike d d') && (ds.all (fun d => match d with | .tuple (_ :: _) => true | _ => false) || ds.all fun d => match d with | .none => false | .tuple _ => false | _ => true)
theorem srtOk_is {ds : List D} (h : srtOk ds = true) : (∀ d ∈ ds, d.canLay0 = true ∧ d.depth ≤ 60) ∧ AllAlike ds ∧ Sortable ds := by
  unfold srtOk at h
  rw [Bool.and_eq_true, Bool.or_eq_true, List.all_eq_true, List.all_eq_true, List.all_eq_true] at h
  obtain ⟨h1, h2⟩ := h
  refine ⟨fun d hd => ?_, fun d hd d' hd' => ?_, ?_⟩
  · have := h1 d hd
    rw [Bool.and_eq_true, Bool.and_eq_true] at this
    exact ⟨this.1.1, of_decide_eq_true this.1.2⟩
  · have := h1 d hd
    rw [Bool.and_eq_true, List.all_eq_true] at this
    exact this.2 d' hd'
  · rcases h2 with h2 | h2
    · refine .inl fun d hd => ?_
      have := h2 d hd
      split at this
      · exact ⟨_, _, rfl⟩
      · cases this
    · refine .inr fun d hd => ?_
      have := h2 d hd
      split at this
      · cases this
      · cases this
      · rename_i n1 n2
        exact ⟨n1, n2⟩

/-! ### sorted of what collects -/
section
variable {prog : Program} {w : World} {A : Around} {E : Value → Shared → Prop} {s : Shared}
theorem sorted_from {x : Value} {ds : List D} {R : Value → D → Prop} {Q : Value → Shared → Prop} (hL : ds.length ≤ sizeLine)
    (hc : ∀ Q' : List Value → Shared → Prop, (∀ (vs : List Value) (h' : Heap) (tk : Nat), (∀ b o, s.heap.get? b = some o → h'.get? b = some o) → EachIs R vs ds → EachIs (fun v b => ∃ as, Reads s.heap v b as) vs ds → Q' vs { s with heap := h', toks := tk }) → wpAny (model prog w) A.in1 (collect x) Q' E s)
    (hal : AllAlike ds) (hk : Sortable ds) (hu : ∀ d ∈ ds, A.units + 4 + d.depth < cLine)
    (h : ∀ (out : List Value) (h' : Heap) (tk n : Nat) (p : Addr), EachIs R out (isort ds) → (∀ b o, s.heap.get? b = some o → h'.get? b = some o) → s.heap.get? p = none → h'.get? p = some (seqObj "list" out.toArray n) → Q (.ref p) { s with heap := h', toks := tk }) :
    wpAny (model prog w) A (call (.builtin "sorted") [x]) Q E s := by
  refine PySem.Calls.call_function_entry kind_sorted plain_sorted entry_sorted (args_sorted1 _) ?_
  unfold Builtin.«sorted»
  refine wpAny_bind (m := checkCount "sorted" 1 1 _) (wpAny_pure ?_)
  refine wpAny_bind (hc _ fun vs h1 tk k1 e er => ?_)
  have hv : vs.length ≤ sizeLine := by rw [e.length]; exact hL
  refine wpAny_bind (wpAny_newList ?_ hv)
  have at1 : (h1.push (seqObj "list" vs.toArray 0)).get? h1.objs.size = some (seqObj "list" vs.toArray 0) := Heap.get?_push_size _ rfl
  have k2 : ∀ b o, s.heap.get? b = some o → (h1.push (seqObj "list" vs.toArray 0)).get? b = some o := fun b o q => Heap.get?_push_of_some _ (k1 b o q)
  have ne : ∀ b o, s.heap.get? b = some o → b ≠ h1.objs.size := fun b o q => Nat.ne_of_lt (Heap.lt_size (k1 b o q))
  have sz : s.heap.get? h1.objs.size = none := by
    cases q : s.heap.get? h1.objs.size with
    | none => rfl
    | some o => exact absurd rfl (ne _ o q)
  have er' : EachIs (fun v b => ∃ as, Reads (PySem.W.sortingHeap (h1.push (seqObj "list" vs.toArray 0)) h1.objs.size vs) v b as) vs ds := er.mono fun v d ⟨as, r⟩ => ⟨as, PyProof.Rows.Reads.keeps (fun b o q => PySem.W.sortingHeap_old (ne b o q) (k2 b o q)) r⟩
  have fin : ∀ out : List Value, EachIs R out (isort ds) → Q (.ref h1.objs.size) { s with heap := sortedHeap (h1.push (seqObj "list" vs.toArray 0)) h1.objs.size vs out.toArray, toks := tk } := fun out eo => by
    obtain ⟨n, hn⟩ := sortedHeap_at (out := out.toArray) at1
    refine h out _ tk n _ eo (fun b o q => ?_) sz hn
    rw [sortedHeap_old (ne b o q) (Heap.lt_size (k2 b o q))]
    exact k2 b o q
  refine wpAny_bind (wpAny_holding (wpAny_call_entry slot_list_sort ⟨_, at1, rfl⟩ entry_list_sort (PySem.W.list_sort_vals (κ := PySem.W.dataKind (PySem.W.sortingHeap (h1.push (seqObj "list" vs.toArray 0)) h1.objs.size vs) ds) at1 ?_ hv ⟨_, rfl, ?_⟩) (args_list_sort _)))
  · exact PySem.W.SortsAt.data er' hal hk fun d hd => by
      have := hu d hd
      show A.units + 1 + 1 + d.depth < cLine
      omega
  · refine wpAny_pure ⟨_, rfl, fin _ ?_⟩
    have q := PySem.W.sortVals_data (enc := fun d : D => d) false e er' (by rw [List.map_id']; exact hal)
    rw [List.map_id', le_is, isort_is] at q
    exact q
end

/-! ### the rule -/
section
variable {w : World} {K : PySem.W.Frag} {G : Hp}
def RD (w : World) (K : PySem.W.Frag) (G : Hp) (u : Value) (d : D) : Prop := ∃ v, RelV v u ∧ Dt w K G v d
theorem rd_of : ∀ {vs : List V} {us : List Value} {ds : List D}, Vals vs us → DtAll w K G vs ds → EachIs (RD w K G) us ds
  | _, _, _, .nil, .nil => .nil
  | _, _, _, .cons r rs, .cons t ts => .cons ⟨_, r, t⟩ (rd_of rs ts)
theorem rd_back : ∀ {us : List Value} {ds : List D}, EachIs (RD w K G) us ds → ∃ vs, Vals vs us ∧ DtAll w K G vs ds
  | _, _, .nil => ⟨[], .nil, .nil⟩
  | _, _, .cons ⟨v, r, t⟩ e => by
    obtain ⟨vs, rs, ts⟩ := rd_back e
    exact ⟨v :: vs, .cons r rs, .cons t ts⟩
theorem rd_reads {X : Cx} {pins : List (Addr × Obj)} {σ : L2.St} {H : Hp} {s : Shared} (I : Inv X pins σ H s) (sb : Sub G H) : ∀ {us : List Value} {ds : List D}, (∀ d ∈ ds, d.canLay0 = true ∧ d.depth ≤ 60) → EachIs (RD X.w X.K G) us ds → EachIs (fun v b => ∃ as, Reads s.heap v b as) us ds
  | _, _, _, .nil => .nil
  | _, _, h, .cons ⟨v, r, t⟩ e => .cons (Dp.reads I _ v _ (t.dp sb (h _ List.mem_cons_self).1) r) (rd_reads I sb (fun d hd => h d (List.mem_cons_of_mem _ hd)) e)
end
def srt (ds : List D) : R D := if srtOk ds = true ∧ ds.length ≤ sizeLine then .ok (.list (isort ds)) else stk
def sortedD : List D → R D
  | [.list ds] => srt ds
  | [.str x] => srt (x.cps.toList.map fun c => .str ⟨#[c]⟩)
  | _ => stk
theorem signs_rd {w : World} {K : PySem.W.Frag} {G : Hp} {x : Str} {acc : Array Value} (h : ItemsOf (SignAt x) acc x.cps.size) : EachIs (RD w K G) acc.toList (x.cps.toList.map fun c => .str ⟨#[c]⟩) := by
  have key : ∀ (us : List Value) (cs : List Nat), us.length = cs.length → (∀ (j : Nat) (v : Value), us[j]? = some v → ∃ c u, cs[j]? = some c ∧ v = Value.str ⟨#[c]⟩ u) → EachIs (RD w K G) us (cs.map fun c => .str ⟨#[c]⟩) := by
    intro us
    induction us with
    | nil => intro cs hl _; cases cs with
      | nil => exact .nil
      | cons _ _ => cases hl
    | cons v us ih => intro cs hl hj; cases cs with
      | nil => cases hl
      | cons c cs =>
        obtain ⟨c', u, e1, e2⟩ := hj 0 v rfl
        cases e1
        exact .cons ⟨.str ⟨#[c]⟩, ⟨u, e2⟩, .str _⟩ (ih cs (Nat.succ.inj hl) fun j v hv => hj (j + 1) v hv)
  refine key _ _ (by rw [Array.length_toList, Array.length_toList]; exact h.1) fun j v hv => ?_
  obtain ⟨c, u, e1, e2⟩ := h.2 j v (by rw [← Array.getElem?_toList]; exact hv)
  exact ⟨c, u, by rw [Array.getElem?_toList]; exact e1, e2⟩
theorem srt_run {X : Cx} {pins : List (Addr × Obj)} {σ : L2.St} {G H : Hp} {s : Shared} {Q : VK} {e : Nat → D → Prop} {u : Value} {ds : List D} (hu : X.A.units + 65 < cLine) (I : Inv X pins σ H s) (sb : Sub G H)
    (hc : ∀ Q' : List Value → Shared → Prop, (∀ (vs : List Value) (h' : Heap) (tk : Nat), (∀ b o, s.heap.get? b = some o → h'.get? b = some o) → EachIs (RD X.w X.K G) vs ds → Q' vs { s with heap := h', toks := tk }) → wpAny (model X.prog X.w) X.A.in1 (collect u) Q' X.xe s)
    (q : gd (srt ds) (fun d => ∀ a G' H', Gr G H G' H' → H a = none → G' a = none → Own X.w X.K G' H' a d → Q (.ref a) H') e) :
    wpAny (model X.prog X.w) X.A (call (.builtin "sorted") [u]) (EP X pins σ Q) X.xe s := by
  unfold srt at q
  split at q
  · rename_i hs
    obtain ⟨k1, k2, k3⟩ := srtOk_is hs.1
    refine sorted_from (R := RD X.w X.K G) hs.2 (fun Q' h => hc Q' fun vs h' tk k e => h vs h' tk k e (rd_reads I sb k1 e)) k2 k3 (fun d hd => ?_) fun out h' tk n p eo k pn hp => ?_
    · have := (k1 d hd).2
      omega
    · obtain ⟨xs, rv, t⟩ := rd_back eo
      have Hp : H p = none := I.hok.gone pn
      obtain ⟨g, n2, o⟩ := own_new sb Hp t
      have hl : xs.length ≤ sizeLine := by
        rw [t.length, isort_len]
        exact hs.2
      exact ⟨.ref p, upd H p (.lst xs), I.laidN (t' := tk) k pn Hp ⟨hl, out, n, rv, hp⟩, rfl, q p _ _ g Hp n2 o⟩
  · exact q.elim
theorem c_sorted {X : Cx} (hu : X.A.units + 65 < cLine) (hh : X.A.handled = none) : CallR X (.builtin "sorted") (rCo X.w X.K sortedD) := by
  intro pins s σ H xs us Q I r ⟨G, ds, e, sb, t, q⟩
  unfold sortedD at q
  split at q
  · cases t with
    | cons t1 t2 =>
      cases t2
      cases t1 with
      | lst s1 a1 =>
        obtain ⟨its, rv, hl, hz⟩ := I.list (Rd.sq (Rd.sub sb s1))
        rw [Vals.ref1 r]
        refine srt_run hu I sb (fun Q' h => collect_list hl.isList ?_ (by rw [← rv.length]; exact hz)) q
        refine h its _ s.toks (fun b o z => ?_) (rd_of rv a1)
        rw [Heap.get?_update_ne _ _ _ _ (Nat.ne_of_lt (Heap.lt_size z))]
        exact Heap.get?_push_of_some _ z
  · cases t with
    | cons t1 t2 =>
      cases t2
      cases t1 with
      | str =>
        rename_i x
        obtain ⟨u, rfl, ru⟩ := vals1 r
        obtain ⟨tk, rfl⟩ := ru
        have hlen : x.cps.size ≤ sizeLine := by
          unfold srt at q
          split at q
          · rename_i hs
            have := hs.2
            rw [List.length_map, Array.length_toList] at this
            exact this
          · exact q.elim
        refine srt_run hu I sb (fun Q' h => wpAny_collect_str (A := X.A.in1) (show X.A.in1.handled = none from hh) x tk (fun s' acc k1 k2 k3 k4 k5 => ?_) hlen) q
        obtain ⟨h', g', d', t', o'⟩ := s'
        cases k2; cases k3; cases k4
        exact h acc.toList h' t' k1 (signs_rd k5)
  · exact q.elim
end Vs

set_option Elab.async false
set_option linter.all false
set_option maxRecDepth 100000
/-! sets made of lists: whole numbers and texts. -/
namespace Vs
open PySem PySem.Spec PyProof.Rows L2

/-! ### each once -/
def addK {α : Type} [DecidableEq α] (l : List α) (x : α) : List α := if x ∈ l then l else l ++ [x]
def onceTo {α : Type} [DecidableEq α] (val : Nat → α) : Nat → List α
  | 0 => []
  | i + 1 => addK (onceTo val i) (val i)
theorem onceTo_le {α : Type} [DecidableEq α] (val : Nat → α) : ∀ i, (onceTo val i).length ≤ i
  | 0 => Nat.le_refl _
  | i + 1 => by
    have := onceTo_le val i
    show (addK _ _).length ≤ _
    unfold addK
    split
    · omega
    · rw [List.length_append, List.length_singleton]; omega
section
variable {prog : Program} {w : World} {κ : Type} [DecidableEq κ] {knd : KeyKind prog w κ} {A : Around} {R : Result → Shared → Prop} {I : Addr} {fp wr : List Addr} {Γ : Array GenState → Array GenState → Prop} {n : Nat} {P : Nat → Value → Prop} {St : Nat → Shared → Prop}
/-- the set at S holds just l -/
def SetL (knd : KeyKind prog w κ) (h : Heap) (S : Addr) (l : List κ) : Prop := h.SetOf knd S (fun k => decide (k ∈ l)) l.length
theorem SetL.keep {h h' : Heap} {S : Addr} {l : List κ} (x : SetL knd h S l) (k : ∀ o, h.get? S = some o → h'.get? S = some o) : SetL knd h' S l := by
  obtain ⟨o, es, ep, tb, ho, rest⟩ := x
  exact ⟨o, es, ep, tb, k o ho, rest⟩
theorem SetL.add {h : Heap} {S : Addr} {l : List κ} {k : κ} (x : h.SetOf knd S (fun k' => decide (k' ∈ l) || decide (k' = k)) (if decide (k ∈ l) then l.length else l.length + 1)) : SetL knd h S (addK l k) := by
  unfold SetL addK
  by_cases hk : k ∈ l
  · rw [if_pos hk]
    rw [decide_eq_true hk, if_pos rfl] at x
    refine cast (congrArg (fun f => h.SetOf knd S f l.length) (funext fun k' => ?_)) x
    by_cases e : k' = k
    · subst e; simp [hk]
    · simp [e]
  · rw [if_neg hk]
    rw [decide_eq_false hk, if_neg Bool.false_ne_true] at x
    rw [List.length_append, List.length_singleton]
    refine cast (congrArg (fun f => h.SetOf knd S f (l.length + 1)) (funext fun k' => ?_)) x
    simp [List.mem_append]
theorem set_loop (W : WalksS prog w A.in1 I fp wr Γ n P St) (S : Addr) (nS : S ∉ fp) (val : Nat → κ) (hval : ∀ i v, P i v → knd.is (val i) v = true ∧ v.scannable = true) (hn : n + 1 < scanBound) :
    ∀ (m i : Nat) (s : Shared), i + m = n → St i s → SetL knd s.heap S (onceTo val i) →
      (∀ s', Moved (S :: wr) Γ s s' → SetL knd s'.heap S (onceTo val n) → R (.ok (.ret .none)) s') →
      codeAny (model prog w) A (.builtin "set.update.loop" ⟨[.ref S, .ref I], []⟩) R s
  | 0, i, s, e, st, x, r => by
    obtain rfl : i = n := by omega
    refine codeAny_builtin PyProof.Rows.F.entry_set_update_loop ?_
    rw [Around.under_plainId PyProof.Rows.F.plain_set_update_loop _]
    show wpAny _ A.in1 (pyNext (.ref I) >>= _) _ _ s
    refine wpAny_bind (W.done s _ _ st fun s' mv => ?_)
    exact wpAny_pure (r s' (mv.mono fun b hb => List.mem_cons_of_mem _ hb) (x.keep fun o => mv.heap S o fun z => nS (W.sub _ z)))
  | m + 1, i, s, e, st, x, r => by
    have lt : i < n := by omega
    refine codeAny_builtin PyProof.Rows.F.entry_set_update_loop ?_
    rw [Around.under_plainId PyProof.Rows.F.plain_set_update_loop _]
    show wpAny _ A.in1 (pyNext (.ref I) >>= _) _ _ s
    refine wpAny_bind (W.item i s _ _ lt st fun v s1 hP st1 mv => ?_)
    obtain ⟨hk, hs⟩ := hval i v hP
    have x1 : SetL knd s1.heap S (onceTo val i) := x.keep fun o => mv.heap S o fun z => nS (W.sub _ z)
    show wpAny _ A.in1 (holding [v] (setAdd S v) >>= _) _ _ s1
    refine wpAny_bind (wpAny_holding ?_)
    unfold setAdd
    refine wpAny_holding (wpAny_bind (knd.pyHash hk ?_))
    refine wpAny_setAddHashed_of (s := { s1 with toks := s1.toks + 1 }) hk hs x1 (by have := onceTo_le val i; omega) fun h' sb x2 => ?_
    have x3 : SetL knd h' S (onceTo val (i + 1)) := SetL.add x2
    have st2 := W.frame (i + 1) s1 h' (s1.toks + 1) st1 (Nat.le_succ _) fun b hb o q => (sb.2 b fun z => nS (z ▸ hb)).trans q
    refine wpAny_pure ⟨plainId_quiet PyProof.Rows.F.plain_set_update_loop _, set_loop W S nS val hval hn m (i + 1) _ (by omega) st2 x3 fun s' mv2 x4 => r s' ?_ x4⟩
    exact Moved.trans W.gtrans ((mv.mono fun b hb => List.mem_cons_of_mem _ hb).then_heap (Nat.le_succ _) fun b o hb q => (sb.2 b fun z => hb (z ▸ List.mem_cons_self)).trans q) mv2
end

section
variable {prog : Program} {w : World} {κ : Type} [DecidableEq κ] {knd : KeyKind prog w κ} {A : Around} {E : Value → Shared → Prop} {s : Shared}
/-- an empty set, new -/
abbrev newSet (led : Bool) : Obj := { cls := .type "set", dict := none, data := .set #[] 0 (.fresh 0 0 led) }
theorem setL_new {h : Heap} {S : Addr} {led : Bool} (e : h.get? S = some (newSet led)) : SetL knd h S [] :=
  cast (congrArg (fun f => h.SetOf knd S f 0) (funext fun k => by simp)) ((PyProof.Rows.setObjOf_fresh (knd := knd) led).setOf e (by decide))
set_option maxHeartbeats 3200000 in
theorem call_set_l {l : Addr} {items : Array Value} {Q : Value → Shared → Prop} (val : Nat → κ) (hh : A.handled = none) (hl : s.heap.IsList l items) (hval : ∀ i v, items[i]? = some v → knd.is (val i) v = true ∧ v.scannable = true) (hn : items.size + 1 < scanBound)
    (q : ∀ (h' : Heap) (tk : Nat), SetL knd h' s.heap.objs.size (onceTo val items.size) → (∀ b o, s.heap.get? b = some o → h'.get? b = some o) → Q (.ref s.heap.objs.size) { s with heap := h', toks := tk }) :
    wpAny (model prog w) A (call (.type "set") [.ref l]) Q E s := by
  obtain ⟨c, tl, hmro⟩ := PySem.F.called_set.mro
  have u1 := PySem.F.called_set.made
  have u2 := PySem.F.called_set.sub
  have u3 := PySem.F.called_set.notType
  have u4 := PySem.F.called_set.canCreate
  have u5 := PySem.F.typeCall_set_1 (.ref l)
  refine wpAny_call (codeAny_of_tree ?_)
  show wpAny _ _ (callAny (.type "set") _) _ _ _
  refine wpAny_pure ⟨Code.quiet_builtin _ (by decide +kernel), codeAny_builtin PySem.F.entry_type_call ?_⟩
  rw [Around.under_plain (weight_type_call_type "set" [.ref l] []) rfl]
  repeat (any_goals (first | assumption | wp_step))
  refine codeAny_mono (code_set_new_1 (.ref l) (E := E) (Q₁ := fun ob t => ∃ led : Bool, ob = .ref s.heap.objs.size ∧ t = { s with heap := s.heap.push (newSet led) }) fun led => ⟨led, rfl, rfl⟩) fun r t hr => ?_
  cases r with
  | error e => exact hr
  | ok fl =>
    cases fl with
    | ret ob =>
      obtain ⟨led, rfl, rfl⟩ := hr
      have atS : (s.heap.push (newSet led)).get? s.heap.objs.size = some (newSet led) := Heap.get?_push_size _ rfl
      have isS : Shared.TypeIs { s with heap := s.heap.push (newSet led) } (.ref s.heap.objs.size) "set" := ⟨_, atS, rfl⟩
      have v1 := PySem.F.called_set.init.lookup
      have v2 := PySem.F.called_set.init.bind (.ref s.heap.objs.size)
      repeat (any_goals (first | assumption | wp_step))
      refine codeAny_mono (codeAny_call_builtin (R := wants (fun r t => r = .none ∧ ∃ h' tk, t = { s with heap := h', toks := tk } ∧ SetL knd h' s.heap.objs.size (onceTo val items.size) ∧ ∀ b o, s.heap.get? b = some o → h'.get? b = some o) E) PySem.F.called_set.init.plain PySem.F.entry_set_init (check_set_init_1 isS ?_)) fun r2 t2 hr2 => ?_
      · obtain ⟨⟨ocls, odict, odata, oslots⟩, hol, hcl, nl, hdl⟩ := hl
        simp only at hcl hdl
        subst hcl; subst hdl
        have hol2 := Heap.get?_push_of_some (newSet led) hol
        have x1 := PySem.F.sub_list_set
        have x2 := PySem.F.sub_list_frozenset
        have x3 : (Value.type "list" == Value.type "dict") = false := by decide
        have hl1 : (s.heap.push (newSet led)).IsList l items := ⟨_, hol2, rfl, nl, rfl⟩
        unfold Builtin.«set.__init__» noKeywords Builtin.Frozenset.updateFrom
        generalize hPI : pyIter = PI
        wp_walk
        subst hPI
        refine wpAny_pyIter_list hl1 (wpAny_bind (wpAny_runValue ?_))
        have lS : l < s.heap.objs.size := Heap.lt_size hol
        have hh3 : A.in1.in1.in1.handled = none := by simp [hh]
        have nI : l ≠ (s.heap.push (newSet led)).objs.size := by
          rw [Heap.size_push]; exact Nat.ne_of_lt (Nat.lt_succ_of_lt lS)
        have nS : s.heap.objs.size ∉ [(s.heap.push (newSet led)).objs.size, l] := by
          rw [Heap.size_push]; simp only [List.mem_cons, List.mem_singleton, List.not_mem_nil, or_false, not_or]; exact ⟨Nat.ne_of_lt (Nat.lt_succ_self _), Nat.ne_of_gt lS⟩
        refine set_loop ((Walks.list hh3 _ l nI items).toS) s.heap.objs.size nS val hval hn items.size 0 _ (Nat.zero_add _) ⟨⟨_, Heap.get?_push_size _ rfl, rfl, rfl⟩, (hl1.push _)⟩ (setL_new (led := led) (Heap.get?_push_of_some _ atS)) ?_
        intro t mv x
        obtain ⟨h', g', d', tk', os'⟩ := t
        have eg : g' = s.gens := mv.gens
        have ed : d' = s.drawn := mv.drawn
        have eo : os' = s.os := mv.os
        subst eg; subst ed; subst eo
        show wpAny _ _ _ _ _ _
        refine wpAny_pure ?_
        show wpAny _ _ (PySem.ret Value.none) _ _ _
        refine wpAny_pure ⟨rfl, h', tk', rfl, x, fun b o e => mv.heap b o ?_ (Heap.get?_push_of_some _ (Heap.get?_push_of_some _ e))⟩
        have lb := Heap.lt_size e
        rw [Heap.size_push]
        simp only [List.mem_cons, List.mem_singleton, List.not_mem_nil, or_false, not_or]
        exact ⟨Nat.ne_of_lt lb, Nat.ne_of_lt (Nat.lt_succ_of_lt lb)⟩
      · cases r2 with
        | error e => exact hr2
        | ok f2 =>
          cases f2 with
          | ret r =>
            obtain ⟨rfl, h', tk, rfl, x, k⟩ := hr2
            repeat (any_goals (first | assumption | wp_step))
            exact q _ _ x k
          | _ => exact hr2.elim
    | _ => exact hr.elim
end
end Vs

set_option Elab.async false
set_option linter.all false
set_option maxRecDepth 100000
namespace Vs
open PySem PySem.Spec PyProof.Rows L2

/-! ### len(set(xs)), xs a list of whole numbers, of texts -/
def keys? : List D → Option (List Key)
  | [] => some []
  | d :: r => match atomK d with
    | some k => (keys? r).map (k :: ·)
    | none => none
def once {α : Type} [DecidableEq α] (l : List α) : List α := l.foldl addK []
theorem onceTo_is {α : Type} [DecidableEq α] (x0 : α) : ∀ (l : List α) (i : Nat), i ≤ l.length → onceTo (fun j => l.getD j x0) i = once (l.take i)
  | l, 0, _ => by rw [List.take_zero]; rfl
  | l, i + 1, h => by
    have h1 : i < l.length := by omega
    rw [List.take_add_one, List.getElem?_eq_getElem h1]
    show addK (onceTo _ i) (l.getD i x0) = once (l.take i ++ [l[i]])
    rw [onceTo_is x0 l i (by omega)]
    unfold once
    rw [List.foldl_append, List.getD_eq_getElem?_getD, List.getElem?_eq_getElem h1]
    rfl
def lenSetD (d : D) : R D := itL d >>= fun ds => opt (keys? ds) >>= fun ks => if ks.length + 1 < 4096 then .ok (.int (once ks).length) else stk
theorem keys_dt {w : World} {K : PySem.W.Frag} {G : Hp} : ∀ {vs : List V} {ds : List D} {ks : List Key}, DtAll w K G vs ds → keys? ds = some ks → vs = ks.map kV
  | _, _, _, .nil, h => by cases h; rfl
  | _, _, ks, .cons (d := d) t ts, h => by
    unfold keys? at h
    split at h
    · rename_i k hk
      obtain ⟨ms, h1, h2⟩ := Option.map_eq_some_iff.mp h
      subst h2
      rw [keys_dt ts h1, atom_V t hk]
      rfl
    · cases h
theorem keys_at : ∀ {ks : List Key} {us : List Value}, Vals (ks.map kV) us → ∀ (i : Nat) (v : Value), us[i]? = some v → ∃ k, ks[i]? = some k ∧ RelV (kV k) v
  | [], _, .nil, i, v, h => by simp at h
  | k :: ks, _, .cons r rs, 0, v, h => by simp at h; subst h; exact ⟨k, rfl, r⟩
  | k :: ks, _, .cons r rs, i + 1, v, h => keys_at rs i v (by simpa using h)
section
variable {X : Cx} {a : Expr} {e : Nat → D → Prop} {O : List Nat} {fa : Env' → R D} {p p2 q pos : Pos}
theorem v_lenset (hm : X.mg "len" = none) (hm2 : X.mg "set" = none) (hc : X.calm = true) (ha : PE X a (tV X.w X.K e O fa)) (hg : Gl X "len" := by rfl) (hg2 : Gl X "set" := by rfl) (na : starEach [a] X.env = (false, eval a X.env) :: starEach [] X.env := by rfl) :
    PE X (.Call (.Name "len" p) [.Call (.Name "set" p2) [a] [] q] [] pos) (tV X.w X.K e O fun ρ => fa ρ >>= fun x => lenSetD x) := by
  refine ⟨fun pins s σ H Q I ⟨B, ρ, G, r, g⟩ => ?_⟩
  refine Call_ (ld_blt I hg hm boot_len ?_)
  refine PyProof.Rows.callWith_builtin1 (PyProof.Rows.args_cons ?_ rfl) rfl rfl
  refine Call_ (ld_blt I hg2 hm2 boot_set ?_)
  have key : tV X.w X.K e O fa σ H fun x H1 => ∃ (l : Addr) (ks : List Key), x = .ref l ∧ SqL X.K H1 l (ks.map kV) ∧ ks.length + 1 < 4096 ∧ Q (.int (once ks).length) H1 := by
    refine ⟨B, ρ, G, r, gd_mono (gd_bind.mp g) fun d g v G1 H1 g1 t => ?_⟩
    unfold lenSetD at g
    cases t with
    | lst s1 a1 =>
      obtain ⟨ks, hk, g⟩ := opt_in (gd_bind.mp g)
      split at g
      · rename_i hl
        refine ⟨_, ks, rfl, ?_, hl, g _ G1 H1 g1 (.int _)⟩
        rw [← keys_dt a1 hk]
        exact Rd.sq (Rd.sub g1.sub s1)
      · exact g.elim
    | non => exact g.elim
    | bl _ => exact g.elim
    | int _ => exact g.elim
    | str _ => exact g.elim
    | tup _ _ => exact g.elim
    | dct _ _ _ _ _ _ => exact g.elim
    | scr _ _ => exact g.elim
  refine PyProof.Rows.callWith_type1 (PyProof.Rows.args_cons (thn (ha.run pins s σ H _ I key) fun v s1 ⟨x, H1, I1, r1, l, ks, e1, hS, hl, q1⟩ => PyProof.Rows.args_nil ?_) na) na rfl
  subst e1
  cases r1
  obtain ⟨its, rv, pl, hz⟩ := I1.list hS
  have hlen : its.toArray.size = ks.length := by rw [List.size_toArray, ← rv.length, List.length_map]
  refine call_set_l (knd := mixKind X.prog X.w) (fun j => ks.getD j (.inl 0)) (I1.ok.hd hc) pl.isList (fun i v hv => ?_) (by rw [hlen]; exact hl) fun h' tk x k => PyProof.Rows.args_nil ?_
  · obtain ⟨kk, e2, r2⟩ := keys_at rv i v (by simpa using hv)
    show (mixKind X.prog X.w).is (ks.getD i (.inl 0)) v = true ∧ _
    rw [List.getD_eq_getElem?_getD, e2]
    exact ⟨kV_is r2, key_scan r2⟩
  · rw [hlen, onceTo_is (.inl 0) ks ks.length (Nat.le_refl _), List.take_length] at x
    obtain ⟨o, es, ep, t, ho, hex, hd, _, _, _, hf, hn⟩ := x
    have I2 : Inv X pins σ H1 { s1 with heap := h', toks := tk } := I1.kept k
    refine call_len_set ho hex hd hf (by rw [hn]; have := onceTo_le (fun j => ks.getD j (.inl 0)) ks.length; rw [onceTo_is (.inl 0) ks ks.length (Nat.le_refl _), List.take_length] at this; omega) ⟨.int (once ks).length, H1, I2.tok _, ⟨_, by rw [hn]⟩, q1⟩
end

/-! ### a text, so many times -/
def repS (x : Str) (n : Int) : Str := Txt.mul x n
def mulOkB (x : Str) (n : Int) : Bool := decide (0 ≤ n) && decide (n ≤ 1000) && decide (x.length ≤ 1000)
theorem mulOk_of {x : Str} {n : Int} (h : mulOkB x n = true) : MulOk x n := by
  unfold mulOkB at h
  rw [Bool.and_eq_true, Bool.and_eq_true] at h
  have h1 := of_decide_eq_true h.1.1
  have h2 := of_decide_eq_true h.1.2
  have h3 := of_decide_eq_true h.2
  refine ⟨by rw [decide_eq_false (by omega), decide_eq_false (by omega)]; rfl, fun n1 _ z => ?_, fun n1 _ => ?_⟩
  · have : (2 ^ 63 - 1) / n ≥ 1000 := by
      refine (Int.le_ediv_iff_mul_le (by omega)).mpr ?_
      omega
    omega
  · have : x.length * n.toNat ≤ 1000 * 1000 := Nat.mul_le_mul h3 (by omega)
    unfold Builtin.Str.tooLong
    rw [sizeLine_eq]
    exact decide_eq_false (by
                              omega)
def mulD (a b : D) : R D := match a, b with
  | .str x, .int n => if mulOkB x n then .ok (.str (repS x n)) else stk
  | _, _ => mulI a b
theorem d_mul {X : Cx} : OpR X (binaryOp .Mult) (r2 X.w X.K mulD) := by
  intro pins s σ H x y v u Q I rx ry ⟨G, da, db, e, sb, t1, t2, q⟩
  unfold mulD at q
  split at q
  · cases t1; cases t2
    split at q
    · rename_i hc
      obtain ⟨t, rfl⟩ := rx
      obtain ⟨t', rfl⟩ := ry
      refine SB.mul (mulOk_of hc) fun tk k => ⟨.str _, H, I.tok _, ⟨_, rfl⟩, q _ G H (Gr.refl sb) (.str _)⟩
    · exact q.elim
  · exact d_mulI pins s σ H x y v u Q I rx ry ⟨G, da, db, e, sb, t1, t2, q⟩
end Vs

set_option Elab.async false
set_option linter.all false
set_option maxRecDepth 100000
/-! The plain side: meanings told in plain words. -/
namespace Vs
open PySem PySem.Spec PyProof.Rows L2
def m_draws_b0 : Env' → R Out := fun ρ => ((gv ρ 3 >>= fun x => .ok (.int 0) >>= fun y => gtD x y) >>= asB) >>= fun k => if k then (seqD (fun ρ => gl ρ 1 >>= fun xs => (((gv ρ 3 >>= fun x => .ok [] >>= fun xs => .ok (x :: xs)) >>= intD) >>= fun x => .ok (.int 65536) >>= fun y => modI x y) >>= fun d => apD 1 xs d ρ) (fun ρ => (gv ρ 3 >>= fun x => .ok (.int 65536) >>= fun y => fdivI x y) >>= fun d => setD 3 d ρ)) ρ else (fun ρ => .ok (.nx ρ)) ρ
def m_draws_b1 : Env' → R Out := seqD (fun ρ => (((gv ρ 0 >>= fun x => gv ρ 2 >>= fun y => ixD x y) >>= fun x => .ok [] >>= fun xs => .ok (x :: xs)) >>= absD) >>= fun d => setD 3 d ρ) (fun ρ => ((gv ρ 3 >>= fun x => (.ok (.int 10) >>= fun x => .ok (.int 18) >>= fun y => powI x y) >>= fun y => geD x y) >>= asB) >>= fun k => if k then (fun ρ => ((.ok (.int 60) >>= fun x => .ok [] >>= fun xs => .ok (x :: xs)) >>= rg1) >>= fun ds => forD (tgN 4) m_draws_b0 ds ρ) ρ else (seqD (fun ρ => (((((gv ρ 3 >>= fun x => .ok (.int 48271) >>= fun y => mulD x y) >>= fun x => ((gv ρ 2 >>= fun x => .ok (.int 1) >>= fun y => addD x y) >>= fun x => .ok (.int 69621) >>= fun y => mulD x y) >>= fun y => addD x y) >>= fun x => .ok [] >>= fun xs => .ok (x :: xs)) >>= intD) >>= fun x => .ok (.int 2147483647) >>= fun y => modI x y) >>= fun d => setD 5 d ρ) (seqD (fun ρ => ((((((gv ρ 5 >>= fun x => .ok (.int 16807) >>= fun y => mulD x y) >>= fun x => (.ok (.int 11) >>= fun x => gv ρ 2 >>= fun y => mulD x y) >>= fun y => addD x y) >>= fun x => .ok (.int 5) >>= fun y => addD x y) >>= fun x => .ok [] >>= fun xs => .ok (x :: xs)) >>= intD) >>= fun x => .ok (.int 2147483629) >>= fun y => modI x y) >>= fun d => setD 5 d ρ) (seqD (fun ρ => gl ρ 1 >>= fun xs => (((gv ρ 5 >>= fun x => .ok [] >>= fun xs => .ok (x :: xs)) >>= intD) >>= fun x => .ok (.int 65536) >>= fun y => modI x y) >>= fun d => apD 1 xs d ρ) (fun ρ => gl ρ 1 >>= fun xs => ((((gv ρ 5 >>= fun x => .ok (.int 65536) >>= fun y => fdivI x y) >>= fun x => .ok [] >>= fun xs => .ok (x :: xs)) >>= intD) >>= fun x => .ok (.int 32768) >>= fun y => modI x y) >>= fun d => apD 1 xs d ρ)))) ρ)
def m_draws : Env' → R Out := seqD (fun ρ => (.ok [] >>= fun xs => lenOk xs.length >>= fun _ => .ok (.list xs)) >>= fun d => setD 1 d ρ) (seqD (fun ρ => ((((.ok (.int 63) >>= fun x => (((gv ρ 0 >>= fun x => .ok [] >>= fun xs => .ok (x :: xs)) >>= lenD) >>= fun x => .ok [] >>= fun xs => .ok (x :: xs)) >>= fun xs => .ok (x :: xs)) >>= min2D) >>= fun x => .ok [] >>= fun xs => .ok (x :: xs)) >>= rg1) >>= fun ds => forD (tgN 2) m_draws_b1 ds ρ) (fun ρ => gv ρ 1 >>= fun d => .ok (.rt d)))
def f_draws : List D → R D := fun ds => noX (m_draws (arg0 6 ds)) >>= ret true
def m_mix : Env' → R Out := seqD (fun ρ => .ok (.int 0) >>= fun d => setD 3 d ρ) (seqD (fun ρ => ((((gv ρ 0 >>= fun x => .ok [] >>= fun xs => .ok (x :: xs)) >>= lenD) >>= fun x => .ok (.int 0) >>= fun y => gtD x y) >>= asB) >>= fun k => if k then (fun ρ => (gv ρ 0 >>= fun x => (((gv ρ 1 >>= fun x => .ok [] >>= fun xs => .ok (x :: xs)) >>= intD) >>= fun x => ((gv ρ 0 >>= fun x => .ok [] >>= fun xs => .ok (x :: xs)) >>= lenD) >>= fun y => modI x y) >>= fun y => ixD x y) >>= fun d => setD 3 d ρ) ρ else (fun ρ => .ok (.nx ρ)) ρ) (seqD (fun ρ => ((gv ρ 1 >>= fun x => ((gv ρ 0 >>= fun x => .ok [] >>= fun xs => .ok (x :: xs)) >>= lenD) >>= fun y => ltD x y) >>= asB) >>= fun k => if k then (fun ρ => (((gv ρ 3 >>= fun x => .ok [] >>= fun xs => .ok (x :: xs)) >>= intD) >>= fun x => gv ρ 2 >>= fun y => modI x y) >>= fun d => .ok (.rt d)) ρ else (fun ρ => .ok (.nx ρ)) ρ) (fun ρ => ((((((((gv ρ 3 >>= fun x => .ok (.int 7919) >>= fun y => mulD x y) >>= fun x => (gv ρ 1 >>= fun x => .ok (.int 104729) >>= fun y => mulD x y) >>= fun y => addD x y) >>= fun x => .ok [] >>= fun xs => .ok (x :: xs)) >>= intD) >>= fun x => .ok (.int 3) >>= fun y => fdivI x y) >>= fun x => .ok [] >>= fun xs => .ok (x :: xs)) >>= intD) >>= fun x => gv ρ 2 >>= fun y => modI x y) >>= fun d => .ok (.rt d))))
def f_mix : List D → R D := fun ds => noX (m_mix (arg0 4 ds)) >>= ret false

/-! ### steps -/
theorem okb {α β : Type} (a : α) (f : α → R β) : (Except.ok a >>= f : R β) = f a := rfl
theorem noX_ok {α : Type} (a : α) : noX (.ok a : R α) = .ok a := rfl
theorem seq_eq (f g : Env' → R Out) (ρ : Env') : seqD f g ρ = (f ρ >>= fun o => match o with
    | .nx ρ' => g ρ'
    | .rt d => .ok (.rt d)) := rfl
theorem seq_nx {f g : Env' → R Out} {ρ ρ' : Env'} (h : f ρ = .ok (.nx ρ')) : seqD f g ρ = g ρ' := by
  rw [seq_eq, h]; rfl
theorem seq_rt {f g : Env' → R Out} {ρ : Env'} {d : D} (h : f ρ = .ok (.rt d)) : seqD f g ρ = .ok (.rt d) := by
  rw [seq_eq, h]; rfl
theorem gv_at {ρ : Env'} {i : Nat} {d : D} (h : ρ[i]? = some (some d)) : gv ρ i = .ok d := by
  unfold gv; rw [h]
theorem gl_at {ρ : Env'} {i : Nat} {ds : List D} (h : ρ[i]? = some (some (.list ds))) : gl ρ i = .ok ds := by
  unfold gl; rw [gv_at h]; rfl
theorem add_ii (i j : Int) : addD (.int i) (.int j) = .ok (.int (i + j)) := rfl
theorem sub_ii (i j : Int) : subI (.int i) (.int j) = .ok (.int (i - j)) := rfl
theorem mul_r {i j : Int} (h : -(2 ^ 64) < j ∧ j < 2 ^ 64) : mulD (.int i) (.int j) = .ok (.int (i * j)) := by
  show mulI (.int i) (.int j) = _
  unfold mulI
  exact if_pos (.inr h)
theorem mul_l {i j : Int} (h : -(2 ^ 64) < i ∧ i < 2 ^ 64) : mulD (.int i) (.int j) = .ok (.int (i * j)) := by
  show mulI (.int i) (.int j) = _
  unfold mulI
  exact if_pos (.inl h)
theorem mod_i {i j : Int} (h : 0 < j) : modI (.int i) (.int j) = .ok (.int (i % j)) := by
  show (if 0 < j then _ else _ : R D) = _
  exact if_pos h
theorem fdiv_i {i j : Int} (h : 0 < j ∧ j < 1073741824) : fdivI (.int i) (.int j) = .ok (.int (i / j)) := by
  show (if _ then _ else _ : R D) = _
  exact if_pos h
theorem lenOk_i {n : Nat} (h : n ≤ sizeLine) : lenOk n = .ok () := if_pos h
theorem gl_is (ρ : Env') (i : Nat) : gl ρ i = (gv ρ i >>= itL) := rfl
theorem lenD_l (ds : List D) : lenD [.list ds] = .ok (.int ds.length) := rfl
theorem lenD_t (ds : List D) : lenD [.tuple ds] = .ok (.int ds.length) := rfl
theorem lenD_s {x : Str} (h : x.length ≤ sizeLine) : lenD [.str x] = .ok (.int x.length) := by
  show (lenOk x.length >>= fun _ => _ : R D) = _
  rw [lenOk_i h]; rfl
theorem lenD_scr (ds : List D) : lenD [.dict [(.none, .list ds), (.none, .none)]] = .ok (.int ds.length) := rfl
theorem intD_i (i : Int) : intD [.int i] = .ok (.int i) := rfl
theorem intD_b (b : Bool) : intD [.bool b] = .ok (.int (if b then 1 else 0)) := by cases b <;> rfl
theorem asB_b (b : Bool) : asB (.bool b) = .ok b := rfl
theorem lt_ii (i j : Int) : ltD (.int i) (.int j) = .ok (.bool (decide (i < j))) := rfl
theorem le_ii (i j : Int) : leD (.int i) (.int j) = .ok (.bool (decide (i ≤ j))) := rfl
theorem gt_ii (i j : Int) : gtD (.int i) (.int j) = .ok (.bool (decide (j < i))) := rfl
theorem ge_ii (i j : Int) : geD (.int i) (.int j) = .ok (.bool (decide (j ≤ i))) := rfl
theorem eq_ii (i j : Int) : eqD (.int i) (.int j) = .ok (.bool (decide (i = j))) := if_pos (c := SeqAt.shaped (.int i) = true ∧ SeqAt.shaped (.int j) = true) (e := stk) ⟨rfl, rfl⟩
theorem ne_ii (i j : Int) : neD (.int i) (.int j) = .ok (.bool (!decide (i = j))) := if_pos (c := SeqAt.shaped (.int i) = true ∧ SeqAt.shaped (.int j) = true) (e := stk) ⟨rfl, rfl⟩
theorem asI_i (i : Int) : asI (.int i) = .ok i := rfl
theorem itL_l (ds : List D) : itL (.list ds) = .ok ds := rfl
theorem itT_t (ds : List D) : itT (.tuple ds) = .ok ds := rfl
theorem fnD_is (n : Nat) (f : List D → R D) (ds : List D) : fnD n f ds = if ds.length = n then f ds else stk := rfl
theorem tgN_is (i : Nat) (d : D) (ρ : Env') : tgN i d ρ = .ok (ρ.set i (some d)) := rfl
theorem min2_ii (i j : Int) : min2D [.int i, .int j] = .ok (.int (min i j)) := by
  show (.ok (.int (if j < i then j else i)) : R D) = _
  rw [show (if j < i then j else i) = min i j by split <;> omega]
theorem max2_ii (i j : Int) : max2D [.int i, .int j] = .ok (.int (max i j)) := by
  show (.ok (.int (if j > i then j else i)) : R D) = _
  rw [show (if j > i then j else i) = max i j by split <;> omega]
theorem abs_i (i : Int) : absD [.int i] = .ok (.int i.natAbs) := by
  show (.ok (.int (if i < 0 then -i else i)) : R D) = _
  rw [show (if i < 0 then -i else i) = (i.natAbs : Int) by split <;> omega]
theorem rg1_i {n : Int} (h : -(2 ^ 62) ≤ n ∧ n < 2 ^ 62) : rg1 [.int n] = .ok (rgD 0 n.toNat) := if_pos h
theorem rg2_i {m n : Int} (h : (-(2 ^ 62) ≤ m ∧ m < 2 ^ 62) ∧ -(2 ^ 62) ≤ n ∧ n < 2 ^ 62) : rg2 [.int m, .int n] = .ok (rgD m (n - m).toNat) := if_pos h
theorem opt_s {α : Type} (a : α) : opt (some a) = .ok a := rfl
theorem ret_rt (fr : Bool) (d : D) : ret fr (.rt d) = .ok d := rfl
theorem retf_nx (ρ : Env') : ret false (.nx ρ) = .ok .none := rfl
theorem ix_li {ds : List D} {i : Int} {d : D} (h : atI ds i = some d) : ixD (.list ds) (.int i) = .ok d := by
  show (opt (atI ds i) : R D) = _
  rw [h]; rfl
theorem ix_ti {ds : List D} {i : Int} {d : D} (h : atI ds i = some d) : ixD (.tuple ds) (.int i) = .ok d := by
  show (opt (atI ds i) : R D) = _
  rw [h]; rfl
theorem ix_sc {ds : List D} {i : Int} {d : D} (h : atI ds i = some d) : ixD (.dict [(.none, .list ds), (.none, .none)]) (.int i) = .ok d := by
  show (opt (atI ds i) : R D) = _
  rw [h]; rfl
theorem app1 (zs : List Int) (a : Int) : zs.map PyData.int ++ [PyData.int a] = (zs ++ [a]).map PyData.int := by rw [List.map_append]; rfl
theorem app2 (zs : List Int) (a b : Int) : zs.map PyData.int ++ [PyData.int a, PyData.int b] = (zs ++ [a, b]).map PyData.int := by rw [List.map_append]; rfl
/-! ### loops -/
/-- it goes on, with q -/
def gN (r : R Out) (q : Env' → Prop) : Prop := ∃ ρ, r = .ok (.nx ρ) ∧ q ρ
theorem gN_ok {ρ : Env'} {q : Env' → Prop} : gN (.ok (.nx ρ)) q ↔ q ρ := ⟨fun ⟨_, e, h⟩ => by cases e; exact h, fun h => ⟨ρ, rfl, h⟩⟩
/-- it ends so -/
def gO (r : R Out) (q : Out → Prop) : Prop := ∃ o, r = .ok o ∧ q o
theorem gO_ok {o : Out} {q : Out → Prop} : gO (.ok o) q ↔ q o := ⟨fun ⟨_, e, h⟩ => by cases e; exact h, fun h => ⟨o, rfl, h⟩⟩
theorem for_is (tg : D → Env' → R Env') (fb : Env' → R Out) (d : D) (ds : List D) (ρ : Env') : forD tg fb (d :: ds) ρ = ((tg d ρ >>= fb) >>= fun o => match o with
      | .nx ρ2 => forD tg fb ds ρ2
      | .rt r => .ok (.rt r)) := by
  show (tg d ρ >>= fun ρ1 => fb ρ1 >>= fun o => _) = _
  cases tg d ρ with
  | ok ρ1 => rfl
  | error e => rfl
theorem for_nil (tg : D → Env' → R Env') (fb : Env' → R Out) (ρ : Env') : forD tg fb [] ρ = .ok (.nx ρ) := rfl
theorem for_rel {tg : D → Env' → R Env'} {fb : Env' → R Out} (I : Nat → Env' → Prop) : ∀ (ds : List D) (k : Nat) (ρ : Env'), I k ρ → (∀ i d ρ, ds[i]? = some d → I (k + i) ρ → gN (tg d ρ >>= fb) (I (k + i + 1))) →
    gN (forD tg fb ds ρ) (I (k + ds.length))
  | [], k, ρ, h, _ => ⟨ρ, rfl, h⟩
  | d :: ds, k, ρ, h, hs => by
    obtain ⟨ρ2, e2, h2⟩ := hs 0 d ρ rfl h
    have := for_rel I ds (k + 1) ρ2 h2 fun i d ρ e q => by
      have := hs (i + 1) d ρ e (by rw [show k + (i + 1) = k + 1 + i by omega]; exact q)
      rw [show k + (i + 1) + 1 = k + 1 + i + 1 by omega] at this
      exact this
    rw [for_is, e2, okb, List.length_cons, show k + (ds.length + 1) = k + 1 + ds.length by omega]
    exact this
/-- with a way out: each turn goes on, or ends all with q -/
theorem for_out {tg : D → Env' → R Env'} {fb : Env' → R Out} (I : Nat → Env' → Prop) (q : Out → Prop) : ∀ (ds : List D) (k : Nat) (ρ : Env'), I k ρ → (∀ i d ρ, ds[i]? = some d → I (k + i) ρ → gO (tg d ρ >>= fb) (fun o => match o with | .nx ρ' => I (k + i + 1) ρ' | .rt r => q (.rt r))) → (∀ ρ, I (k + ds.length) ρ → q (.nx ρ)) →
    gO (forD tg fb ds ρ) q
  | [], k, ρ, h, _, hq => ⟨_, rfl, hq ρ h⟩
  | d :: ds, k, ρ, h, hs, hq => by
    obtain ⟨o, e2, h2⟩ := hs 0 d ρ rfl h
    rw [for_is, e2, okb]
    cases o with
    | rt r => exact ⟨_, rfl, h2⟩
    | nx ρ2 =>
      refine for_out I q ds (k + 1) ρ2 h2 (fun i d ρ e q => ?_) fun ρ h => hq ρ (by rw [List.length_cons, show k + (ds.length + 1) = k + 1 + ds.length by omega]; exact h)
      have := hs (i + 1) d ρ e (by rw [show k + (i + 1) = k + 1 + i by omega]; exact q)
      rw [show k + (i + 1) + 1 = k + 1 + i + 1 by omega] at this
      exact this
theorem rg_at {lo : Int} {n i : Nat} {d : D} (h : (rgD lo n)[i]? = some d) : i < n ∧ d = .int (lo + i) := by
  unfold rgD at h
  rw [List.getElem?_map] at h
  by_cases hi : i < n
  · rw [List.getElem?_range hi] at h
    cases h
    exact ⟨hi, rfl⟩
  · rw [List.getElem?_eq_none (by rw [List.length_range]; omega)] at h
    cases h
theorem rg_len (lo : Int) (n : Nat) : (rgD lo n).length = n := by
  unfold rgD; rw [List.length_map, List.length_range]
end Vs

set_option Elab.async false
set_option linter.all false
set_option maxRecDepth 100000
namespace Vs
open PySem PySem.Spec PyProof.Rows L2
def scr (ns : List Int) : D := .dict [(.none, .list (ns.map .int)), (.none, .none)]
theorem mix_ok {zs : List Int} {k many : Int} (hk : 0 ≤ k) (hm : 0 < many) : ∃ r : Int, 0 ≤ r ∧ r < many ∧ f_mix [.list (zs.map .int), .int k, .int many] = .ok (.int r) := by
  have hmod : ∀ v : Int, 0 ≤ v % many ∧ v % many < many := fun v => ⟨Int.emod_nonneg _ (by omega), Int.emod_lt_of_pos _ hm⟩
  have key : ∀ v : Int, (zs.length = 0 → v = 0) → (0 < zs.length → zs[(k % zs.length).toNat]? = some v) → f_mix [.list (zs.map .int), .int k, .int many] = .ok (.int (if k < zs.length then v % many else (v * 7919 + k * 104729) / 3 % many)) := by
    intro v h0 h1
    unfold f_mix m_mix
    by_cases hz : 0 < zs.length
    · have hz' : (0 : Int) < zs.length := by omega
      have hat : atI (zs.map PyData.int) (k % zs.length) = some (.int v) := by
        have h2 := h1 hz
        have h3 : k % zs.length = ((k % zs.length).toNat : Int) := (Int.toNat_of_nonneg (Int.emod_nonneg _ (by omega))).symm
        rw [h3]
        refine L2.atI_nat ?_
        rw [List.getElem?_map, h2]
        rfl
      by_cases hk2 : k < zs.length
      · simp -implicitDefEqProofs only [app1, app2, gN_ok, gO_ok, arg0, seq_eq, okb, setD, gv, gl_is, List.map_cons, List.map_nil, List.length_cons, List.length_nil, List.replicate, List.cons_append, List.nil_append, List.set_cons_succ, List.set_cons_zero, List.getElem?_cons_succ, List.getElem?_cons_zero, add_ii, sub_ii, mul_r, mul_l, mod_i, fdiv_i, lenD_l, lenD_t, lenD_scr, intD_i, intD_b, asB_b, lt_ii, le_ii, gt_ii, ge_ii, eq_ii, ne_ii, asI_i, itL_l, itT_t, noX_ok, fnD_is, ite_true, ite_false, Bool.false_eq_true, decide_true, decide_false, Nat.reduceAdd, Nat.reduceSub, reduceIte, tgN_is, min2_ii, max2_ii, abs_i, rg1_i, rg2_i, opt_s, ret_rt, retf_nx, and_self, true_and, and_true, or_true, true_or, not_true_eq_false, not_false_eq_true, Bool.not_true, Bool.not_false, Int.reduceLT, Int.reduceLE, Int.reduceNeg, Int.reducePow, Int.reduceAdd, Int.reduceSub, Int.reduceMul, Int.reduceMod, Int.reduceDiv, Int.reduceEq, Int.reduceNe, Nat.reduceLT, Nat.reduceLeDiff, Nat.reduceMul, Nat.reduceEqDiff, Int.reduceToNat, ix_li hat, List.length_map, hz', hk2, hm]
      · simp -implicitDefEqProofs only [app1, app2, gN_ok, gO_ok, arg0, seq_eq, okb, setD, gv, gl_is, List.map_cons, List.map_nil, List.length_cons, List.length_nil, List.replicate, List.cons_append, List.nil_append, List.set_cons_succ, List.set_cons_zero, List.getElem?_cons_succ, List.getElem?_cons_zero, add_ii, sub_ii, mul_r, mul_l, mod_i, fdiv_i, lenD_l, lenD_t, lenD_scr, intD_i, intD_b, asB_b, lt_ii, le_ii, gt_ii, ge_ii, eq_ii, ne_ii, asI_i, itL_l, itT_t, noX_ok, fnD_is, ite_true, ite_false, Bool.false_eq_true, decide_true, decide_false, Nat.reduceAdd, Nat.reduceSub, reduceIte, tgN_is, min2_ii, max2_ii, abs_i, rg1_i, rg2_i, opt_s, ret_rt, retf_nx, and_self, true_and, and_true, or_true, true_or, not_true_eq_false, not_false_eq_true, Bool.not_true, Bool.not_false, Int.reduceLT, Int.reduceLE, Int.reduceNeg, Int.reducePow, Int.reduceAdd, Int.reduceSub, Int.reduceMul, Int.reduceMod, Int.reduceDiv, Int.reduceEq, Int.reduceNe, Nat.reduceLT, Nat.reduceLeDiff, Nat.reduceMul, Nat.reduceEqDiff, Int.reduceToNat, ix_li hat, List.length_map, hz', hk2, hm]
    · have hz' : ¬ (0 : Int) < zs.length := by omega
      have hv := h0 (by omega)
      subst hv
      have hk2 : ¬ k < zs.length := by omega
      simp -implicitDefEqProofs only [app1, app2, gN_ok, gO_ok, arg0, seq_eq, okb, setD, gv, gl_is, List.map_cons, List.map_nil, List.length_cons, List.length_nil, List.replicate, List.cons_append, List.nil_append, List.set_cons_succ, List.set_cons_zero, List.getElem?_cons_succ, List.getElem?_cons_zero, add_ii, sub_ii, mul_r, mul_l, mod_i, fdiv_i, lenD_l, lenD_t, lenD_scr, intD_i, intD_b, asB_b, lt_ii, le_ii, gt_ii, ge_ii, eq_ii, ne_ii, asI_i, itL_l, itT_t, noX_ok, fnD_is, ite_true, ite_false, Bool.false_eq_true, decide_true, decide_false, Nat.reduceAdd, Nat.reduceSub, reduceIte, tgN_is, min2_ii, max2_ii, abs_i, rg1_i, rg2_i, opt_s, ret_rt, retf_nx, and_self, true_and, and_true, or_true, true_or, not_true_eq_false, not_false_eq_true, Bool.not_true, Bool.not_false, Int.reduceLT, Int.reduceLE, Int.reduceNeg, Int.reducePow, Int.reduceAdd, Int.reduceSub, Int.reduceMul, Int.reduceMod, Int.reduceDiv, Int.reduceEq, Int.reduceNe, Nat.reduceLT, Nat.reduceLeDiff, Nat.reduceMul, Nat.reduceEqDiff, Int.reduceToNat, List.length_map, hz', hk2, hm]
  by_cases hz : 0 < zs.length
  · have hlt : (k % zs.length).toNat < zs.length := by
      have := Int.emod_lt_of_pos k (show (0 : Int) < zs.length by omega)
      have := Int.emod_nonneg k (show (zs.length : Int) ≠ 0 by omega)
      omega
    refine ⟨_, ?_, ?_, key zs[(k % zs.length).toNat] (fun h => by omega) fun _ => List.getElem?_eq_getElem hlt⟩
    · split <;> exact (hmod _).1
    · split <;> exact (hmod _).2
  · refine ⟨_, ?_, ?_, key 0 (fun _ => rfl) fun h => absurd h hz⟩
    · split <;> exact (hmod _).1
    · split <;> exact (hmod _).2
theorem b0_ok {S : D} {zs : List Int} {r : Int} {a2 a4 a5 : Option D} (hz : zs.length ≤ 100000) :
    gN (forD (tgN 4) m_draws_b0 (rgD 0 60) [some S, some (.list (zs.map .int)), a2, some (.int r), a4, a5]) fun ρ => ∃ (zs' : List Int) (r' : Int) (a4' : Option D), zs'.length ≤ zs.length + 60 ∧ ρ = [some S, some (.list (zs'.map .int)), a2, some (.int r'), a4', a5] := by
  have := for_rel (tg := tgN 4) (fb := m_draws_b0)
    (fun i ρ => ∃ (zs' : List Int) (r' : Int) (a4' : Option D), zs'.length ≤ zs.length + i ∧ ρ = [some S, some (.list (zs'.map .int)), a2, some (.int r'), a4', a5]) (rgD 0 60) 0 _ ⟨zs, r, a4, by omega, rfl⟩ fun i d ρ hd hI => by
      obtain ⟨hi, rfl⟩ := rg_at hd
      obtain ⟨zs', r', a4', hl, rfl⟩ := hI
      by_cases hr : 0 < r'
      · have hs : (zs'.map PyData.int).length < sizeLine := by rw [List.length_map, sizeLine_eq]; omega
        simp -implicitDefEqProofs only [app1, app2, gN_ok, gO_ok, arg0, seq_eq, okb, setD, gv, gl_is, List.map_cons, List.map_nil, List.length_cons, List.length_nil, List.replicate, List.cons_append, List.nil_append, List.set_cons_succ, List.set_cons_zero, List.getElem?_cons_succ, List.getElem?_cons_zero, add_ii, sub_ii, mul_r, mul_l, mod_i, fdiv_i, lenD_l, lenD_t, lenD_scr, intD_i, intD_b, asB_b, lt_ii, le_ii, gt_ii, ge_ii, eq_ii, ne_ii, asI_i, itL_l, itT_t, noX_ok, fnD_is, ite_true, ite_false, Bool.false_eq_true, decide_true, decide_false, Nat.reduceAdd, Nat.reduceSub, reduceIte, tgN_is, min2_ii, max2_ii, abs_i, rg1_i, rg2_i, opt_s, ret_rt, retf_nx, and_self, true_and, and_true, or_true, true_or, not_true_eq_false, not_false_eq_true, Bool.not_true, Bool.not_false, Int.reduceLT, Int.reduceLE, Int.reduceNeg, Int.reducePow, Int.reduceAdd, Int.reduceSub, Int.reduceMul, Int.reduceMod, Int.reduceDiv, Int.reduceEq, Int.reduceNe, Nat.reduceLT, Nat.reduceLeDiff, Nat.reduceMul, Nat.reduceEqDiff, Int.reduceToNat, m_draws_b0, hr, apD, hs]
        exact ⟨_, _, _, by rw [List.length_append]; simp only [List.length_singleton]; omega, rfl⟩
      · simp -implicitDefEqProofs only [app1, app2, gN_ok, gO_ok, arg0, seq_eq, okb, setD, gv, gl_is, List.map_cons, List.map_nil, List.length_cons, List.length_nil, List.replicate, List.cons_append, List.nil_append, List.set_cons_succ, List.set_cons_zero, List.getElem?_cons_succ, List.getElem?_cons_zero, add_ii, sub_ii, mul_r, mul_l, mod_i, fdiv_i, lenD_l, lenD_t, lenD_scr, intD_i, intD_b, asB_b, lt_ii, le_ii, gt_ii, ge_ii, eq_ii, ne_ii, asI_i, itL_l, itT_t, noX_ok, fnD_is, ite_true, ite_false, Bool.false_eq_true, decide_true, decide_false, Nat.reduceAdd, Nat.reduceSub, reduceIte, tgN_is, min2_ii, max2_ii, abs_i, rg1_i, rg2_i, opt_s, ret_rt, retf_nx, and_self, true_and, and_true, or_true, true_or, not_true_eq_false, not_false_eq_true, Bool.not_true, Bool.not_false, Int.reduceLT, Int.reduceLE, Int.reduceNeg, Int.reducePow, Int.reduceAdd, Int.reduceSub, Int.reduceMul, Int.reduceMod, Int.reduceDiv, Int.reduceEq, Int.reduceNe, Nat.reduceLT, Nat.reduceLeDiff, Nat.reduceMul, Nat.reduceEqDiff, Int.reduceToNat, m_draws_b0, hr]
        exact ⟨zs', r', _, by omega, rfl⟩
  rw [rg_len] at this
  exact this
theorem pow_ii {i j : Int} (h : 0 ≤ j ∧ j ≤ 1000000 ∧ i.natAbs < 2 ^ 64) : powI (.int i) (.int j) = .ok (.int (i ^ j.toNat)) := by
  show (if _ then _ else _ : R D) = _
  exact if_pos h
theorem h1 : (0 : Int) ≤ 18 ∧ (18 : Int) ≤ 1000000 ∧ (10 : Int).natAbs < 2 ^ 64 := ⟨by decide, by decide, by decide⟩
theorem b1_a {T : Int} (hT : powI (.int 10) (.int 18) = .ok (.int T)) {ns zs : List Int} {i : Nat} {a2 a3 a4 a5 : Option D} (hl : zs.length ≤ 60 * (0 + i)) (hi2 : i < ns.length) (hi3 : i < 63) (hb : T ≤ (ns[i].natAbs : Int)) : gN (m_draws_b1 [some (scr ns), some (.list (zs.map .int)), some (.int (0 + i)), a3, a4, a5]) fun ρ => ∃ (zs : List Int) (a2 a3 a4 a5 : Option D), zs.length ≤ 60 * (0 + i + 1) ∧ ρ = [some (scr ns), some (.list (zs.map .int)), a2, a3, a4, a5] := by
  have hat : atI (ns.map PyData.int) (0 + (i : Int)) = some (.int ns[i]) := by
    rw [Int.zero_add]
    refine L2.atI_nat ?_
    rw [List.getElem?_map, List.getElem?_eq_getElem hi2]
    rfl
  obtain ⟨ρ', e3, zs', r', a4', e4, rfl⟩ := b0_ok (S := scr ns) (zs := zs) (r := (ns[i].natAbs : Int)) (a2 := some (.int (0 + i))) (a4 := a4) (a5 := a5) (by clear hb; omega)
  unfold scr at e3 ⊢
  simp -implicitDefEqProofs only [app1, app2, gN_ok, gO_ok, arg0, seq_eq, okb, setD, gv, gl_is, List.map_cons, List.map_nil, List.length_cons, List.length_nil, List.replicate, List.cons_append, List.nil_append, List.set_cons_succ, List.set_cons_zero, List.getElem?_cons_succ, List.getElem?_cons_zero, add_ii, sub_ii, mul_r, mul_l, mod_i, fdiv_i, lenD_l, lenD_t, lenD_scr, intD_i, intD_b, asB_b, lt_ii, le_ii, gt_ii, ge_ii, eq_ii, ne_ii, asI_i, itL_l, itT_t, noX_ok, fnD_is, ite_true, ite_false, Bool.false_eq_true, decide_true, decide_false, Nat.reduceAdd, Nat.reduceSub, reduceIte, tgN_is, min2_ii, max2_ii, abs_i, rg1_i, rg2_i, opt_s, ret_rt, retf_nx, and_self, true_and, and_true, or_true, true_or, not_true_eq_false, not_false_eq_true, Bool.not_true, Bool.not_false, Int.reduceLT, Int.reduceLE, Int.reduceNeg, Int.reducePow, Int.reduceAdd, Int.reduceSub, Int.reduceMul, Int.reduceMod, Int.reduceDiv, Int.reduceEq, Int.reduceNe, Nat.reduceLT, Nat.reduceLeDiff, Nat.reduceMul, Nat.reduceEqDiff, Int.reduceToNat, m_draws_b1, ix_sc hat, hT, hb, e3]
  exact ⟨zs', _, _, _, _, by clear hb; omega, rfl⟩
theorem b1_b {T : Int} (hT : powI (.int 10) (.int 18) = .ok (.int T)) {ns zs : List Int} {i : Nat} {a2 a3 a4 a5 : Option D} (hl : zs.length ≤ 60 * (0 + i)) (hi2 : i < ns.length) (hi3 : i < 63) (hb : ¬ T ≤ (ns[i].natAbs : Int)) : gN (m_draws_b1 [some (scr ns), some (.list (zs.map .int)), some (.int (0 + i)), a3, a4, a5]) fun ρ => ∃ (zs : List Int) (a2 a3 a4 a5 : Option D), zs.length ≤ 60 * (0 + i + 1) ∧ ρ = [some (scr ns), some (.list (zs.map .int)), a2, a3, a4, a5] := by
  have hat : atI (ns.map PyData.int) (0 + (i : Int)) = some (.int ns[i]) := by
    rw [Int.zero_add]
    refine L2.atI_nat ?_
    rw [List.getElem?_map, List.getElem?_eq_getElem hi2]
    rfl
  have hs1 : zs.length < sizeLine := by rw [sizeLine_eq]; clear hb; omega
  have hs2 : zs.length + 1 < sizeLine := by rw [sizeLine_eq]; clear hb; omega
  unfold scr
  simp -implicitDefEqProofs only [app1, app2, gN_ok, gO_ok, arg0, seq_eq, okb, setD, gv, gl_is, List.map_cons, List.map_nil, List.length_cons, List.length_nil, List.replicate, List.cons_append, List.nil_append, List.set_cons_succ, List.set_cons_zero, List.getElem?_cons_succ, List.getElem?_cons_zero, add_ii, sub_ii, mul_r, mul_l, mod_i, fdiv_i, lenD_l, lenD_t, lenD_scr, intD_i, intD_b, asB_b, lt_ii, le_ii, gt_ii, ge_ii, eq_ii, ne_ii, asI_i, itL_l, itT_t, noX_ok, fnD_is, ite_true, ite_false, Bool.false_eq_true, decide_true, decide_false, Nat.reduceAdd, Nat.reduceSub, reduceIte, tgN_is, min2_ii, max2_ii, abs_i, rg1_i, rg2_i, opt_s, ret_rt, retf_nx, and_self, true_and, and_true, or_true, true_or, not_true_eq_false, not_false_eq_true, Bool.not_true, Bool.not_false, Int.reduceLT, Int.reduceLE, Int.reduceNeg, Int.reducePow, Int.reduceAdd, Int.reduceSub, Int.reduceMul, Int.reduceMod, Int.reduceDiv, Int.reduceEq, Int.reduceNe, Nat.reduceLT, Nat.reduceLeDiff, Nat.reduceMul, Nat.reduceEqDiff, Int.reduceToNat, m_draws_b1, ix_sc hat, hT, hb, apD, hs1, hs2, List.length_map, List.length_append, List.append_assoc]
  exact ⟨_, _, _, _, _, by rw [List.length_append]; simp only [List.length_cons, List.length_nil]; clear hb; omega, rfl⟩
theorem draws_ok (ns : List Int) : ∃ zs : List Int, f_draws [scr ns] = .ok (.list (zs.map .int)) := by
  obtain ⟨T, hT⟩ : ∃ T, powI (.int 10) (.int 18) = .ok (.int T) := ⟨_, pow_ii ⟨by decide, by decide, by decide⟩⟩
  obtain ⟨ρ, e1, zs, a2, a3, a4, a5, e2, rfl⟩ := for_rel (tg := tgN 2) (fb := m_draws_b1)
    (fun i ρ => ∃ (zs : List Int) (a2 a3 a4 a5 : Option D), zs.length ≤ 60 * i ∧ ρ = [some (scr ns), some (.list (zs.map .int)), a2, a3, a4, a5]) (rgD 0 (min 63 ns.length)) 0 [some (scr ns), some (.list []), none, none, none, none] ⟨[], none, none, none, none, by decide, rfl⟩ fun i d ρ hd hI => by
      obtain ⟨hi, rfl⟩ := rg_at hd
      obtain ⟨zs, a2, a3, a4, a5, hl, rfl⟩ := hI
      have hi2 : i < ns.length := by omega
      rw [tgN_is, okb]
      by_cases hb : T ≤ (ns[i].natAbs : Int)
      · exact b1_a hT (a2 := a2) hl hi2 (by omega) hb
      · exact b1_b hT (a2 := a2) hl hi2 (by omega) hb
  have hm : (min 63 (ns.length : Int)).toNat = min 63 ns.length := by omega
  have hr : -(2 ^ 62) ≤ min 63 (ns.length : Int) ∧ min 63 (ns.length : Int) < 2 ^ 62 := by omega
  have h0 : lenOk 0 = .ok () := lenOk_i (by rw [sizeLine_eq]; decide)
  unfold f_draws m_draws
  unfold scr at e1 ⊢
  refine ⟨zs, ?_⟩
  simp -implicitDefEqProofs only [app1, app2, gN_ok, gO_ok, arg0, seq_eq, okb, setD, gv, gl_is, List.map_cons, List.map_nil, List.length_cons, List.length_nil, List.replicate, List.cons_append, List.nil_append, List.set_cons_succ, List.set_cons_zero, List.getElem?_cons_succ, List.getElem?_cons_zero, add_ii, sub_ii, mul_r, mul_l, mod_i, fdiv_i, lenD_l, lenD_t, lenD_scr, intD_i, intD_b, asB_b, lt_ii, le_ii, gt_ii, ge_ii, eq_ii, ne_ii, asI_i, itL_l, itT_t, noX_ok, fnD_is, ite_true, ite_false, Bool.false_eq_true, decide_true, decide_false, Nat.reduceAdd, Nat.reduceSub, reduceIte, tgN_is, min2_ii, max2_ii, abs_i, rg1_i, rg2_i, opt_s, ret_rt, retf_nx, and_self, true_and, and_true, or_true, true_or, not_true_eq_false, not_false_eq_true, Bool.not_true, Bool.not_false, Int.reduceLT, Int.reduceLE, Int.reduceNeg, Int.reducePow, Int.reduceAdd, Int.reduceSub, Int.reduceMul, Int.reduceMod, Int.reduceDiv, Int.reduceEq, Int.reduceNe, Nat.reduceLT, Nat.reduceLeDiff, Nat.reduceMul, Nat.reduceEqDiff, Int.reduceToNat, h0, List.length_map, rg1_i hr, hm, e1]
end Vs

set_option Elab.async false
set_option linter.all false
set_option maxRecDepth 100000
/-! The plain side: texts as lists of signs, comprehensions, tests. -/
namespace Vs
open PySem PySem.Spec PyProof.Rows L2

/-! ### texts -/
/-- the text of these signs -/
def tx (l : List Nat) : Str := ⟨l.toArray⟩
theorem tx_cps (l : List Nat) : (tx l).cps.toList = l := rfl
theorem tx_len (l : List Nat) : (tx l).length = l.length := by
  show l.toArray.size = _
  exact List.size_toArray
theorem tx_inj {l m : List Nat} : tx l = tx m ↔ l = m := ⟨fun h => by have := congrArg (fun x : Str => x.cps.toList) h; exact this, fun h => h ▸ rfl⟩
theorem tx_app (l m : List Nat) : tx l ++ tx m = tx (l ++ m) := by
  show (⟨l.toArray ++ m.toArray⟩ : Str) = ⟨(l ++ m).toArray⟩
  rw [List.append_toArray]
theorem tx_one (c : Nat) : (⟨#[c]⟩ : Str) = tx [c] := rfl
theorem tx_nil : Str.empty = tx [] := rfl
theorem count_tx (l : List Nat) (c : Nat) : Txt.count (tx l) (tx [c]) = (l.count c : Int) := by
  rw [← tx_one, PyProof.Rows.count_is, tx_cps]
  show PyProof.Rows.cnt c l = _
  induction l with
  | nil => rfl
  | cons n r ih =>
    rw [PyProof.Rows.cnt_cons, ih, List.count_cons]
    by_cases e : n = c
    · subst e; simp; omega
    · rw [if_neg e, if_neg (by simpa using e)]; simp
theorem join_tx : ∀ ls : List (List Nat), Str.join (tx []) (ls.map tx) = tx ls.flatten
  | [] => rfl
  | [l] => by simp [Str.join]
  | l :: m :: r => by
    have ih := join_tx (m :: r)
    show tx l ++ tx [] ++ Str.join (tx []) ((m :: r).map tx) = _
    rw [ih, tx_app, tx_app, List.append_nil]
    rfl
theorem add_ss {x y : Str} (h : x.length + y.length ≤ sizeLine) : addD (.str x) (.str y) = .ok (.str (x ++ y)) := if_pos h
theorem add_tx {l m : List Nat} (h : l.length + m.length ≤ 16777216) : addD (.str (tx l)) (.str (tx m)) = .ok (.str (tx (l ++ m))) := by
  rw [add_ss (by rw [tx_len, tx_len, sizeLine_eq]; exact h), tx_app]
theorem len_tx {l : List Nat} (h : l.length ≤ 16777216) : lenD [.str (tx l)] = .ok (.int l.length) := by
  rw [lenD_s (by rw [tx_len, sizeLine_eq]; exact h), tx_len]
theorem ix_tx {l : List Nat} {i : Int} {c : Nat} (h : l.length ≤ 16777216) (hc : atI l i = some c) : ixD (.str (tx l)) (.int i) = .ok (.str (tx [c])) := by
  show (lenOk (tx l).length >>= fun _ => opt (atI l i) >>= fun c => .ok (.str ⟨#[c]⟩) : R D) = _
  rw [lenOk_i (by rw [tx_len, sizeLine_eq]; exact h), okb, hc]
  rfl
theorem dec_tx (l m : List Nat) : decide (tx l = tx m) = decide (l = m) := decide_eq_decide.mpr tx_inj
theorem eq_tx (l m : List Nat) : eqD (.str (tx l)) (.str (tx m)) = .ok (.bool (decide (l = m))) := by
  show (.ok (.bool (decide (tx l = tx m))) : R D) = _
  rw [dec_tx]
theorem ne_tx (l m : List Nat) : neD (.str (tx l)) (.str (tx m)) = .ok (.bool (!decide (l = m))) := by
  show (.ok (.bool (!decide (tx l = tx m))) : R D) = _
  rw [dec_tx]
theorem it_tx (l : List Nat) : itS (.str (tx l)) = .ok (l.map fun c => .str (tx [c])) := rfl
theorem in_tx (c : Nat) (l : List Nat) : inD (.str (tx [c])) (.str (tx l)) = .ok (.bool (decide (c ∈ l))) := rfl
theorem cnt_tx (l : List Nat) (c : Nat) : countD (.str (tx l)) (.str (tx [c])) = .ok (.int (l.count c)) := by
  show (.ok (.int (Txt.count (tx l) (tx [c]))) : R D) = _
  rw [count_tx]

/-! ### comprehensions -/
theorem lc_is (tg : D → Env' → R Env') (ft : Env' → R Bool) (fe : Env' → R D) (ρ : Env') (d : D) (ds : List D) : lcD tg ft fe ρ (d :: ds) = (tg d ρ >>= fun ρ1 => ft ρ1 >>= fun b => if b then fe ρ1 >>= fun y => lcD tg ft fe ρ ds >>= fun ys => .ok (y :: ys) else lcD tg ft fe ρ ds) := rfl
theorem lc_map {tg : D → Env' → R Env'} {fe : Env' → R D} {ρ : Env'} (g : D → D) : ∀ ds : List D, (∀ d ∈ ds, (tg d ρ >>= fe) = .ok (g d)) → lcD tg (fun _ => .ok true) fe ρ ds = .ok (ds.map g)
  | [], _ => rfl
  | d :: ds, h => by
    have h1 := h d List.mem_cons_self
    rw [lc_is]
    cases e : tg d ρ with
    | error z => rw [e] at h1; cases h1
    | ok ρ1 =>
      rw [e, okb] at h1
      rw [okb, okb, if_pos rfl, h1, okb, lc_map g ds fun d hd => h d (List.mem_cons_of_mem _ hd), okb]
      rfl
/-- with a test -/
theorem lc_filter {tg : D → Env' → R Env'} {ft : Env' → R Bool} {fe : Env' → R D} {ρ : Env'} (p : D → Bool) (g : D → D) : ∀ ds : List D, (∀ d ∈ ds, (tg d ρ >>= ft) = .ok (p d) ∧ (p d = true → (tg d ρ >>= fe) = .ok (g d))) → lcD tg ft fe ρ ds = .ok ((ds.filter p).map g)
  | [], _ => rfl
  | d :: ds, h => by
    have h1 := h d List.mem_cons_self
    rw [lc_is]
    cases e : tg d ρ with
    | error z => rw [e] at h1; cases h1.1
    | ok ρ1 =>
      rw [e, okb, okb] at h1
      rw [okb, h1.1, okb]
      have ih := lc_filter p g ds fun d hd => h d (List.mem_cons_of_mem _ hd)
      cases hp : p d with
      | true =>
        rw [if_pos rfl, h1.2 hp, okb, ih, okb, List.filter_cons_of_pos hp]
        rfl
      | false =>
        rw [if_neg Bool.false_ne_true, ih, List.filter_cons_of_neg (by rw [hp]; exact Bool.false_ne_true)]
theorem comp_is (vs : List Nat) (fi : Env' → R (List D)) (tg : D → Env' → R Env') (ft : Env' → R Bool) (fe : Env' → R D) (ρ : Env') : compD vs fi tg ft fe ρ = (fi ρ >>= fun ds => lenOk ds.length >>= fun _ => noX (lcD tg ft fe (wipeD ρ vs) ds) >>= fun ys => .ok (.list ys)) := rfl
theorem all_bl (bs : List Bool) : allD [.list (bs.map .bool)] = .ok (.bool (bs.all id)) := by
  show (opt (bls? (bs.map .bool)) >>= fun bs => .ok (.bool (bs.all id)) : R D) = _
  rw [bls_map]; rfl
theorem any_bl (bs : List Bool) : anyD [.list (bs.map .bool)] = .ok (.bool (bs.any id)) := by
  show (opt (bls? (bs.map .bool)) >>= fun bs => .ok (.bool (bs.any id)) : R D) = _
  rw [bls_map]; rfl
theorem sum_in (ns : List Int) : sumD [.list (ns.map .int)] = .ok (.int ns.sum) := by
  show (opt (ints? (ns.map .int)) >>= fun ns => .ok (.int ns.sum) : R D) = _
  rw [ints_map]; rfl
/-! ### loops that look -/
theorem wh_is (fw : Env' → R Bool) (fb : Env' → R Out) (n : Nat) (ρ : Env') : whileD fw fb (n + 1) ρ = (fw ρ >>= fun c => if c then fb ρ >>= fun o => match o with
      | .nx ρ2 => whileD fw fb n ρ2
      | .rt r => .ok (.rt r)
    else .ok (.nx ρ)) := rfl
theorem wh_rel {fw : Env' → R Bool} {fb : Env' → R Out} (I : Nat → Env' → Prop) (m : Nat) (hs : ∀ j ρ, j < m → I j ρ → fw ρ = .ok true ∧ gN (fb ρ) (I (j + 1))) (he : ∀ ρ, I m ρ → fw ρ = .ok false) : ∀ (k j : Nat) (ρ : Env'), j + k = m → I j ρ → ∀ n, k < n → gN (whileD fw fb n ρ) (I m)
  | 0, j, ρ, e, h, n + 1, _ => by
    obtain rfl : j = m := by omega
    rw [wh_is, he ρ h, okb, if_neg Bool.false_ne_true]
    exact gN_ok.mpr h
  | k + 1, j, ρ, e, h, n + 1, hn => by
    obtain ⟨h1, ρ2, h2, h3⟩ := hs j ρ (by omega) h
    rw [wh_is, h1, okb, if_pos rfl, h2, okb]
    exact wh_rel I m hs he k (j + 1) ρ2 (by omega) h3 n (by omega)
  | 0, _, _, _, _, 0, hn => absurd hn (by omega)
  | k + 1, _, _, _, _, 0, hn => absurd hn (by omega)
end Vs

set_option Elab.async false
set_option linter.all false
set_option maxRecDepth 100000
namespace Gk94
open PySem PySem.Spec PyProof.Rows L2 Vs

def kv_COIN : D := (.str "o")
def kv_EMPTY : D := (.str ".")
def kv_LEAST_LIGHTS : D := (.int 2)
def kv_MOST_CELLS : D := (.int 8)
def kv_MOST_LIGHTS : D := (.int 6)
def kv_MOST_ROUNDS : D := (.int 100)
def kv_MOST_ROW : D := (.int 40)
def kv_MOST_SIDE : D := (.int 8)
def kv_SIGNS : D := (.str ".#")
def kv_SIZE : D := (.int 8)
def kv_TAKEN : D := (.str "#")
def m_is_rule_c0 : Env' → R D := compD [1] (fun ρ => (gv ρ 0 >>= itS)) (tgN 1) (fun ρ => .ok true) (fun ρ => (gv ρ 1 >>= fun x => .ok kv_SIGNS >>= fun y => inD x y))
def m_is_rule : Env' → R Out := fun ρ => (((((gv ρ 0 >>= fun x => .ok [] >>= fun xs => .ok (x :: xs)) >>= lenD) >>= fun x => .ok kv_SIZE >>= fun y => eqD x y) >>= asB) >>= fun c => if c then ((m_is_rule_c0 ρ >>= fun x => .ok [] >>= fun xs => .ok (x :: xs)) >>= allD) else .ok (.bool false)) >>= fun d => .ok (.rt d)
def f_is_rule : List D → R D := fun ds => noX (m_is_rule (arg0 2 ds)) >>= ret false
def m_check_board_c0 : Env' → R D := compD [1] (fun ρ => (gv ρ 0 >>= itS)) (tgN 1) (fun ρ => .ok true) (fun ρ => (gv ρ 1 >>= fun x => .ok kv_SIGNS >>= fun y => inD x y))
def m_check_board : Env' → R Out := fun ρ => (((chD (fun i j => decide (i ≤ j)) (fun i j => decide (i ≤ j)) (fun ρ => .ok (.int 1)) (fun ρ => ((gv ρ 0 >>= fun x => .ok [] >>= fun xs => .ok (x :: xs)) >>= lenD)) (fun ρ => .ok kv_MOST_CELLS) ρ >>= asB) >>= fun c => .ok (!c)) >>= fun c => if c then .ok true else ((((m_check_board_c0 ρ >>= fun x => .ok [] >>= fun xs => .ok (x :: xs)) >>= allD) >>= asB) >>= fun c => .ok (!c))) >>= fun k => if k then (fun _ => stk) ρ else (fun ρ => .ok (.nx ρ)) ρ
def f_check_board : List D → R D := fun ds => noX (m_check_board (arg0 2 ds)) >>= ret false
def m_check_range_rounds : Env' → R Out := fun ρ => ((chD (fun i j => decide (i ≤ j)) (fun i j => decide (i ≤ j)) (fun ρ => gv ρ 1) (fun ρ => gv ρ 0) (fun ρ => gv ρ 2) ρ >>= asB) >>= fun c => .ok (!c)) >>= fun k => if k then (fun _ => stk) ρ else (fun ρ => .ok (.nx ρ)) ρ
def f_check_range_rounds : List D → R D := fun ds => noX (m_check_range_rounds (arg0 3 ds)) >>= ret false
def m_step_b0 : Env' → R Out := fun ρ => ((.ok (.int 2) >>= fun x => gv ρ 6 >>= fun y => mulD x y) >>= fun x => (((gv ρ 7 >>= fun x => .ok kv_TAKEN >>= fun y => eqD x y) >>= fun x => .ok [] >>= fun xs => .ok (x :: xs)) >>= intD) >>= fun y => addD x y) >>= fun d => setD 6 d ρ
def m_step_b1 : Env' → R Out := seqD (fun ρ => (((gv ρ 1 >>= fun x => (gv ρ 4 >>= fun x => .ok (.int 1) >>= fun y => subI x y) >>= fun y => ixD x y) >>= fun x => ((gv ρ 1 >>= fun x => gv ρ 4 >>= fun y => ixD x y) >>= fun x => ((gv ρ 1 >>= fun x => ((gv ρ 4 >>= fun x => .ok (.int 1) >>= fun y => addD x y) >>= fun x => gv ρ 2 >>= fun y => modI x y) >>= fun y => ixD x y) >>= fun x => .ok [] >>= fun xs => .ok (x :: xs)) >>= fun xs => .ok (x :: xs)) >>= fun xs => .ok (x :: xs)) >>= fun xs => lenOk xs.length >>= fun _ => .ok (.list xs)) >>= fun d => setD 5 d ρ) (seqD (fun ρ => .ok (.int 0) >>= fun d => setD 6 d ρ) (seqD (fun ρ => (gv ρ 5 >>= itL) >>= fun ds => forD (tgN 7) m_step_b0 ds ρ) (fun ρ => (gv ρ 3 >>= fun x => (gv ρ 0 >>= fun x => gv ρ 6 >>= fun y => ixD x y) >>= fun y => addD x y) >>= fun d => setD 3 d ρ)))
def m_step : Env' → R Out := seqD (fun ρ => ((gv ρ 1 >>= fun x => .ok [] >>= fun xs => .ok (x :: xs)) >>= lenD) >>= fun d => setD 2 d ρ) (seqD (fun ρ => .ok (.str "") >>= fun d => setD 3 d ρ) (seqD (fun ρ => ((gv ρ 2 >>= fun x => .ok [] >>= fun xs => .ok (x :: xs)) >>= rg1) >>= fun ds => forD (tgN 4) m_step_b1 ds ρ) (fun ρ => gv ρ 3 >>= fun d => .ok (.rt d))))
def f_step : List D → R D := fun ds => noX (m_step (arg0 8 ds)) >>= ret false
def m_boards_of_c0 : Env' → R D := compD2 [3, 4] [4] (fun ρ => (gv ρ 1 >>= itL)) (tgN 3) (fun ρ => .ok true) (fun ρ => (((.ok kv_SIGNS >>= fun x => .ok [] >>= fun xs => .ok (x :: xs)) >>= sortedD) >>= itL)) (tgN 4) (fun ρ => .ok true) (fun ρ => (gv ρ 3 >>= fun x => gv ρ 4 >>= fun y => addD x y))
def m_boards_of_b0 : Env' → R Out := fun ρ => m_boards_of_c0 ρ >>= fun d => setD 1 d ρ
def m_boards_of : Env' → R Out := seqD (fun ρ => ((.ok (.str "") >>= fun x => .ok [] >>= fun xs => .ok (x :: xs)) >>= fun xs => lenOk xs.length >>= fun _ => .ok (.list xs)) >>= fun d => setD 1 d ρ) (seqD (fun ρ => ((gv ρ 0 >>= fun x => .ok [] >>= fun xs => .ok (x :: xs)) >>= rg1) >>= fun ds => forD (tgN 2) m_boards_of_b0 ds ρ) (fun ρ => gv ρ 1 >>= fun d => .ok (.rt d)))
def f_boards_of : List D → R D := fun ds => noX (m_boards_of (arg0 5 ds)) >>= ret false
def m_check_grid_c0 : Env' → R D := compD [4] (fun ρ => (gv ρ 3 >>= itS)) (tgN 4) (fun ρ => .ok true) (fun ρ => (gv ρ 4 >>= fun x => gv ρ 1 >>= fun y => inD x y))
def m_check_grid_b0 : Env' → R Out := fun ρ => (((chD (fun i j => decide (i ≤ j)) (fun i j => decide (i ≤ j)) (fun ρ => .ok (.int 1)) (fun ρ => ((gv ρ 3 >>= fun x => .ok [] >>= fun xs => .ok (x :: xs)) >>= lenD)) (fun ρ => .ok kv_MOST_SIDE) ρ >>= asB) >>= fun c => .ok (!c)) >>= fun c => if c then .ok true else (((((gv ρ 3 >>= fun x => .ok [] >>= fun xs => .ok (x :: xs)) >>= lenD) >>= fun x => (((gv ρ 0 >>= fun x => .ok (.int 0) >>= fun y => ixD x y) >>= fun x => .ok [] >>= fun xs => .ok (x :: xs)) >>= lenD) >>= fun y => neD x y) >>= asB) >>= fun c => if c then .ok true else ((((m_check_grid_c0 ρ >>= fun x => .ok [] >>= fun xs => .ok (x :: xs)) >>= allD) >>= asB) >>= fun c => .ok (!c)))) >>= fun k => if k then (fun _ => stk) ρ else (fun ρ => .ok (.nx ρ)) ρ
def m_check_grid : Env' → R Out := seqD (fun ρ => ((chD (fun i j => decide (i ≤ j)) (fun i j => decide (i ≤ j)) (fun ρ => .ok (.int 1)) (fun ρ => ((gv ρ 0 >>= fun x => .ok [] >>= fun xs => .ok (x :: xs)) >>= lenD)) (fun ρ => .ok kv_MOST_SIDE) ρ >>= asB) >>= fun c => .ok (!c)) >>= fun k => if k then (fun _ => stk) ρ else (fun ρ => .ok (.nx ρ)) ρ) (fun ρ => ((gv ρ 0 >>= fun x => .ok [] >>= fun xs => .ok (x :: xs)) >>= en1) >>= fun ds => forD (unT 2 (tsC (tgN 2) (tsC (tgN 3) tsN))) m_check_grid_b0 ds ρ)
def f_check_grid : List D → R D := fun ds => noX (m_check_grid (arg0 5 ds)) >>= ret false
def m_tilt_of : Env' → R Out := fun ρ => (((((.ok kv_EMPTY >>= fun x => (((gv ρ 0 >>= fun x => .ok (.int 0) >>= fun y => ixD x y) >>= fun x => .ok [] >>= fun xs => .ok (x :: xs)) >>= lenD) >>= fun y => mulD x y) >>= fun x => ((gv ρ 0 >>= fun x => .ok none >>= fun l => (.ok (.int (-1)) >>= fun d => asI d >>= fun i => .ok (some i)) >>= fun h => slD x l h) >>= fun x => seqOf x >>= fun zs => .ok [] >>= fun xs => .ok (zs ++ xs)) >>= fun xs => .ok (x :: xs)) >>= fun xs => lenOk xs.length >>= fun _ => .ok (.list xs)) >>= fun x => (((gv ρ 0 >>= fun x => .ok (.int (-1)) >>= fun y => ixD x y) >>= fun x => asStr x >>= fun _ => .ok kv_COIN >>= fun y => countD x y) >>= fun x => .ok [] >>= fun xs => .ok (x :: xs)) >>= fun xs => .ok (x :: xs)) >>= fun xs => lenOk xs.length >>= fun _ => .ok (.tuple xs)) >>= fun d => .ok (.rt d)
def f_tilt_of : List D → R D := fun ds => noX (m_tilt_of (arg0 1 ds)) >>= ret false
def m_check_range : Env' → R Out := fun ρ => ((chD (fun i j => decide (i ≤ j)) (fun i j => decide (i ≤ j)) (fun ρ => gv ρ 1) (fun ρ => gv ρ 0) (fun ρ => gv ρ 2) ρ >>= asB) >>= fun c => .ok (!c)) >>= fun k => if k then (fun _ => stk) ρ else (fun ρ => .ok (.nx ρ)) ρ
def f_check_range : List D → R D := fun ds => noX (m_check_range (arg0 3 ds)) >>= ret false
abbrev f_check_range_rows := f_check_range
def m__law_draws_b0 : Env' → R Out := fun ρ => ((gv ρ 3 >>= fun x => .ok (.int 0) >>= fun y => gtD x y) >>= asB) >>= fun k => if k then (seqD (fun ρ => gl ρ 1 >>= fun xs => (((gv ρ 3 >>= fun x => .ok [] >>= fun xs => .ok (x :: xs)) >>= intD) >>= fun x => .ok (.int 65536) >>= fun y => modI x y) >>= fun d => apD 1 xs d ρ) (fun ρ => (gv ρ 3 >>= fun x => .ok (.int 65536) >>= fun y => fdivI x y) >>= fun d => setD 3 d ρ)) ρ else (fun ρ => .ok (.nx ρ)) ρ
def m__law_draws_b1 : Env' → R Out := seqD (fun ρ => (((gv ρ 0 >>= fun x => gv ρ 2 >>= fun y => ixD x y) >>= fun x => .ok [] >>= fun xs => .ok (x :: xs)) >>= absD) >>= fun d => setD 3 d ρ) (fun ρ => ((gv ρ 3 >>= fun x => (.ok (.int 10) >>= fun x => .ok (.int 18) >>= fun y => powI x y) >>= fun y => geD x y) >>= asB) >>= fun k => if k then (fun ρ => ((.ok (.int 60) >>= fun x => .ok [] >>= fun xs => .ok (x :: xs)) >>= rg1) >>= fun ds => forD (tgN 4) m__law_draws_b0 ds ρ) ρ else (seqD (fun ρ => (((((gv ρ 3 >>= fun x => .ok (.int 48271) >>= fun y => mulD x y) >>= fun x => ((gv ρ 2 >>= fun x => .ok (.int 1) >>= fun y => addD x y) >>= fun x => .ok (.int 69621) >>= fun y => mulD x y) >>= fun y => addD x y) >>= fun x => .ok [] >>= fun xs => .ok (x :: xs)) >>= intD) >>= fun x => .ok (.int 2147483647) >>= fun y => modI x y) >>= fun d => setD 5 d ρ) (seqD (fun ρ => ((((((gv ρ 5 >>= fun x => .ok (.int 16807) >>= fun y => mulD x y) >>= fun x => (.ok (.int 11) >>= fun x => gv ρ 2 >>= fun y => mulD x y) >>= fun y => addD x y) >>= fun x => .ok (.int 5) >>= fun y => addD x y) >>= fun x => .ok [] >>= fun xs => .ok (x :: xs)) >>= intD) >>= fun x => .ok (.int 2147483629) >>= fun y => modI x y) >>= fun d => setD 5 d ρ) (seqD (fun ρ => gl ρ 1 >>= fun xs => (((gv ρ 5 >>= fun x => .ok [] >>= fun xs => .ok (x :: xs)) >>= intD) >>= fun x => .ok (.int 65536) >>= fun y => modI x y) >>= fun d => apD 1 xs d ρ) (fun ρ => gl ρ 1 >>= fun xs => ((((gv ρ 5 >>= fun x => .ok (.int 65536) >>= fun y => fdivI x y) >>= fun x => .ok [] >>= fun xs => .ok (x :: xs)) >>= intD) >>= fun x => .ok (.int 32768) >>= fun y => modI x y) >>= fun d => apD 1 xs d ρ)))) ρ)
def m__law_draws : Env' → R Out := seqD (fun ρ => (.ok [] >>= fun xs => lenOk xs.length >>= fun _ => .ok (.list xs)) >>= fun d => setD 1 d ρ) (seqD (fun ρ => ((((.ok (.int 63) >>= fun x => (((gv ρ 0 >>= fun x => .ok [] >>= fun xs => .ok (x :: xs)) >>= lenD) >>= fun x => .ok [] >>= fun xs => .ok (x :: xs)) >>= fun xs => .ok (x :: xs)) >>= min2D) >>= fun x => .ok [] >>= fun xs => .ok (x :: xs)) >>= rg1) >>= fun ds => forD (tgN 2) m__law_draws_b1 ds ρ) (fun ρ => gv ρ 1 >>= fun d => .ok (.rt d)))
def f__law_draws : List D → R D := fun ds => noX (m__law_draws (arg0 6 ds)) >>= ret true
def m__law_mix : Env' → R Out := seqD (fun ρ => .ok (.int 0) >>= fun d => setD 3 d ρ) (seqD (fun ρ => ((((gv ρ 0 >>= fun x => .ok [] >>= fun xs => .ok (x :: xs)) >>= lenD) >>= fun x => .ok (.int 0) >>= fun y => gtD x y) >>= asB) >>= fun k => if k then (fun ρ => (gv ρ 0 >>= fun x => (((gv ρ 1 >>= fun x => .ok [] >>= fun xs => .ok (x :: xs)) >>= intD) >>= fun x => ((gv ρ 0 >>= fun x => .ok [] >>= fun xs => .ok (x :: xs)) >>= lenD) >>= fun y => modI x y) >>= fun y => ixD x y) >>= fun d => setD 3 d ρ) ρ else (fun ρ => .ok (.nx ρ)) ρ) (seqD (fun ρ => ((gv ρ 1 >>= fun x => ((gv ρ 0 >>= fun x => .ok [] >>= fun xs => .ok (x :: xs)) >>= lenD) >>= fun y => ltD x y) >>= asB) >>= fun k => if k then (fun ρ => (((gv ρ 3 >>= fun x => .ok [] >>= fun xs => .ok (x :: xs)) >>= intD) >>= fun x => gv ρ 2 >>= fun y => modI x y) >>= fun d => .ok (.rt d)) ρ else (fun ρ => .ok (.nx ρ)) ρ) (fun ρ => ((((((((gv ρ 3 >>= fun x => .ok (.int 7919) >>= fun y => mulD x y) >>= fun x => (gv ρ 1 >>= fun x => .ok (.int 104729) >>= fun y => mulD x y) >>= fun y => addD x y) >>= fun x => .ok [] >>= fun xs => .ok (x :: xs)) >>= intD) >>= fun x => .ok (.int 3) >>= fun y => fdivI x y) >>= fun x => .ok [] >>= fun xs => .ok (x :: xs)) >>= intD) >>= fun x => gv ρ 2 >>= fun y => modI x y) >>= fun d => .ok (.rt d))))
def f__law_mix : List D → R D := fun ds => noX (m__law_mix (arg0 4 ds)) >>= ret false
def m_check_rule : Env' → R Out := fun ρ => ((((gv ρ 0 >>= fun x => .ok [] >>= fun xs => .ok (x :: xs)) >>= fnD 1 f_is_rule) >>= asB) >>= fun c => .ok (!c)) >>= fun k => if k then (fun _ => stk) ρ else (fun ρ => .ok (.nx ρ)) ρ
def f_check_rule : List D → R D := fun ds => noX (m_check_rule (arg0 2 ds)) >>= ret false
def m_behind_b0 : Env' → R Out := fun ρ => ((((((gv ρ 5 >>= fun x => .ok (.int 2) >>= fun y => modI x y) >>= fun x => .ok (.int 0) >>= fun y => eqD x y) >>= asB) >>= fun k => if k then gv ρ 0 else gv ρ 1) >>= fun x => (gv ρ 4 >>= fun x => .ok [] >>= fun xs => .ok (x :: xs)) >>= fun xs => .ok (x :: xs)) >>= fnD 2 f_step) >>= fun d => setD 4 d ρ
def m_behind : Env' → R Out := seqD (fun ρ => gv ρ 2 >>= fun d => setD 4 d ρ) (seqD (fun ρ => ((gv ρ 3 >>= fun x => .ok [] >>= fun xs => .ok (x :: xs)) >>= rg1) >>= fun ds => forD (tgN 5) m_behind_b0 ds ρ) (fun ρ => gv ρ 4 >>= fun d => .ok (.rt d)))
def f_behind : List D → R D := fun ds => noX (m_behind (arg0 6 ds)) >>= ret false
def m_check_shelf : Env' → R Out := fun ρ => ((gv ρ 0 >>= fun x => ((.ok kv_EMPTY >>= fun x => .ok kv_COIN >>= fun y => addD x y) >>= fun x => .ok [] >>= fun xs => .ok (x :: xs)) >>= fun xs => .ok (x :: xs)) >>= fnD 2 f_check_grid) >>= fun _ => .ok (.nx ρ)
def f_check_shelf : List D → R D := fun ds => noX (m_check_shelf (arg0 1 ds)) >>= ret false
def m_check_lights : Env' → R Out := fun ρ => ((gv ρ 0 >>= fun x => (.ok kv_LEAST_LIGHTS >>= fun x => (.ok kv_MOST_LIGHTS >>= fun x => .ok [] >>= fun xs => .ok (x :: xs)) >>= fun xs => .ok (x :: xs)) >>= fun xs => .ok (x :: xs)) >>= fnD 3 f_check_range_rows) >>= fun _ => .ok (.nx ρ)
def f_check_lights : List D → R D := fun ds => noX (m_check_lights (arg0 1 ds)) >>= ret false
def m_round_of : Env' → R Out := seqD (fun ρ => ((gv ρ 0 >>= fun x => (.ok (.int 0) >>= fun x => .ok [] >>= fun xs => .ok (x :: xs)) >>= fun xs => .ok (x :: xs)) >>= fnD 2 f_check_rule) >>= fun _ => .ok (.nx ρ)) (seqD (fun ρ => ((gv ρ 1 >>= fun x => .ok [] >>= fun xs => .ok (x :: xs)) >>= fnD 1 f_check_board) >>= fun _ => .ok (.nx ρ)) (fun ρ => ((gv ρ 0 >>= fun x => (gv ρ 1 >>= fun x => .ok [] >>= fun xs => .ok (x :: xs)) >>= fun xs => .ok (x :: xs)) >>= fnD 2 f_step) >>= fun d => .ok (.rt d)))
def f_round_of : List D → R D := fun ds => noX (m_round_of (arg0 2 ds)) >>= ret false
def m_rounds_b0 : Env' → R Out := seqD (fun ρ => ((gv ρ 0 >>= fun x => (gv ρ 4 >>= fun x => .ok [] >>= fun xs => .ok (x :: xs)) >>= fun xs => .ok (x :: xs)) >>= fnD 2 f_step) >>= fun d => setD 4 d ρ) (fun ρ => gl ρ 3 >>= fun xs => gv ρ 4 >>= fun d => apD 3 xs d ρ)
def m_rounds : Env' → R Out := seqD (fun ρ => ((gv ρ 0 >>= fun x => (.ok (.int 0) >>= fun x => .ok [] >>= fun xs => .ok (x :: xs)) >>= fun xs => .ok (x :: xs)) >>= fnD 2 f_check_rule) >>= fun _ => .ok (.nx ρ)) (seqD (fun ρ => ((gv ρ 1 >>= fun x => .ok [] >>= fun xs => .ok (x :: xs)) >>= fnD 1 f_check_board) >>= fun _ => .ok (.nx ρ)) (seqD (fun ρ => ((gv ρ 2 >>= fun x => (.ok (.int 0) >>= fun x => (.ok kv_MOST_ROUNDS >>= fun x => .ok [] >>= fun xs => .ok (x :: xs)) >>= fun xs => .ok (x :: xs)) >>= fun xs => .ok (x :: xs)) >>= fnD 3 f_check_range_rounds) >>= fun _ => .ok (.nx ρ)) (seqD (fun ρ => (.ok [] >>= fun xs => lenOk xs.length >>= fun _ => .ok (.list xs)) >>= fun d => setD 3 d ρ) (seqD (fun ρ => gv ρ 1 >>= fun d => setD 4 d ρ) (seqD (fun ρ => ((gv ρ 2 >>= fun x => .ok [] >>= fun xs => .ok (x :: xs)) >>= rg1) >>= fun ds => forD (tgN 5) m_rounds_b0 ds ρ) (fun ρ => gv ρ 3 >>= fun d => .ok (.rt d)))))))
def f_rounds : List D → R D := fun ds => noX (m_rounds (arg0 6 ds)) >>= ret true
def m_comes_again_t0 : Env' → R Bool := fun ρ => ((gv ρ 3 >>= fun x => gv ρ 2 >>= fun y => ninD x y) >>= asB)
def m_comes_again_b0 : Env' → R Out := seqD (fun ρ => gl ρ 2 >>= fun xs => gv ρ 3 >>= fun d => apD 2 xs d ρ) (fun ρ => ((gv ρ 0 >>= fun x => (gv ρ 3 >>= fun x => .ok [] >>= fun xs => .ok (x :: xs)) >>= fun xs => .ok (x :: xs)) >>= fnD 2 f_step) >>= fun d => setD 3 d ρ)
def m_comes_again : Env' → R Out := seqD (fun ρ => ((gv ρ 0 >>= fun x => (.ok (.int 0) >>= fun x => .ok [] >>= fun xs => .ok (x :: xs)) >>= fun xs => .ok (x :: xs)) >>= fnD 2 f_check_rule) >>= fun _ => .ok (.nx ρ)) (seqD (fun ρ => ((gv ρ 1 >>= fun x => .ok [] >>= fun xs => .ok (x :: xs)) >>= fnD 1 f_check_board) >>= fun _ => .ok (.nx ρ)) (seqD (fun ρ => (.ok [] >>= fun xs => lenOk xs.length >>= fun _ => .ok (.list xs)) >>= fun d => setD 2 d ρ) (seqD (fun ρ => gv ρ 1 >>= fun d => setD 3 d ρ) (seqD (whileD m_comes_again_t0 m_comes_again_b0 FU) (fun ρ => (((gv ρ 2 >>= fun x => itL x >>= fun _ => gv ρ 3 >>= fun y => indexD x y) >>= fun x => ((((gv ρ 2 >>= fun x => .ok [] >>= fun xs => .ok (x :: xs)) >>= lenD) >>= fun x => (gv ρ 2 >>= fun x => itL x >>= fun _ => gv ρ 3 >>= fun y => indexD x y) >>= fun y => subI x y) >>= fun x => .ok [] >>= fun xs => .ok (x :: xs)) >>= fun xs => .ok (x :: xs)) >>= fun xs => lenOk xs.length >>= fun _ => .ok (.tuple xs)) >>= fun d => .ok (.rt d))))))
def f_comes_again : List D → R D := fun ds => noX (m_comes_again (arg0 4 ds)) >>= ret false
def m_before_c0 : Env' → R D := compD [2] (fun ρ => (((((gv ρ 1 >>= fun x => .ok [] >>= fun xs => .ok (x :: xs)) >>= lenD) >>= fun x => .ok [] >>= fun xs => .ok (x :: xs)) >>= fnD 1 f_boards_of) >>= itL)) (tgN 2) (fun ρ => ((((gv ρ 0 >>= fun x => (gv ρ 2 >>= fun x => .ok [] >>= fun xs => .ok (x :: xs)) >>= fun xs => .ok (x :: xs)) >>= fnD 2 f_step) >>= fun x => gv ρ 1 >>= fun y => eqD x y) >>= asB)) (fun ρ => gv ρ 2)
def m_before : Env' → R Out := seqD (fun ρ => ((gv ρ 0 >>= fun x => (.ok (.int 0) >>= fun x => .ok [] >>= fun xs => .ok (x :: xs)) >>= fun xs => .ok (x :: xs)) >>= fnD 2 f_check_rule) >>= fun _ => .ok (.nx ρ)) (seqD (fun ρ => ((gv ρ 1 >>= fun x => .ok [] >>= fun xs => .ok (x :: xs)) >>= fnD 1 f_check_board) >>= fun _ => .ok (.nx ρ)) (fun ρ => m_before_c0 ρ >>= fun d => .ok (.rt d)))
def f_before : List D → R D := fun ds => noX (m_before (arg0 3 ds)) >>= ret true
def m_is_open_c0 : Env' → R D := compD [3] (fun ρ => (gv ρ 2 >>= itL)) (tgN 3) (fun ρ => .ok true) (fun ρ => ((gv ρ 0 >>= fun x => (gv ρ 3 >>= fun x => .ok [] >>= fun xs => .ok (x :: xs)) >>= fun xs => .ok (x :: xs)) >>= fnD 2 f_step))
def m_is_open : Env' → R Out := seqD (fun ρ => ((gv ρ 0 >>= fun x => (.ok (.int 0) >>= fun x => .ok [] >>= fun xs => .ok (x :: xs)) >>= fun xs => .ok (x :: xs)) >>= fnD 2 f_check_rule) >>= fun _ => .ok (.nx ρ)) (seqD (fun ρ => ((gv ρ 1 >>= fun x => (.ok (.int 1) >>= fun x => (.ok kv_MOST_CELLS >>= fun x => .ok [] >>= fun xs => .ok (x :: xs)) >>= fun xs => .ok (x :: xs)) >>= fun xs => .ok (x :: xs)) >>= fnD 3 f_check_range_rounds) >>= fun _ => .ok (.nx ρ)) (seqD (fun ρ => ((gv ρ 1 >>= fun x => .ok [] >>= fun xs => .ok (x :: xs)) >>= fnD 1 f_boards_of) >>= fun d => setD 2 d ρ) (fun ρ => ((m_is_open_c0 ρ >>= fun x => lenSetD x) >>= fun x => ((gv ρ 2 >>= fun x => .ok [] >>= fun xs => .ok (x :: xs)) >>= lenD) >>= fun y => eqD x y) >>= fun d => .ok (.rt d))))
def f_is_open : List D → R D := fun ds => noX (m_is_open (arg0 4 ds)) >>= ret false
def m_keeps_c0 : Env' → R D := compD [2] (fun ρ => (((gv ρ 1 >>= fun x => .ok [] >>= fun xs => .ok (x :: xs)) >>= fnD 1 f_boards_of) >>= itL)) (tgN 2) (fun ρ => .ok true) (fun ρ => ((((gv ρ 0 >>= fun x => (gv ρ 2 >>= fun x => .ok [] >>= fun xs => .ok (x :: xs)) >>= fun xs => .ok (x :: xs)) >>= fnD 2 f_step) >>= fun x => asStr x >>= fun _ => .ok kv_TAKEN >>= fun y => countD x y) >>= fun x => (gv ρ 2 >>= fun x => asStr x >>= fun _ => .ok kv_TAKEN >>= fun y => countD x y) >>= fun y => eqD x y))
def m_keeps : Env' → R Out := seqD (fun ρ => ((gv ρ 0 >>= fun x => (.ok (.int 0) >>= fun x => .ok [] >>= fun xs => .ok (x :: xs)) >>= fun xs => .ok (x :: xs)) >>= fnD 2 f_check_rule) >>= fun _ => .ok (.nx ρ)) (seqD (fun ρ => ((gv ρ 1 >>= fun x => (.ok (.int 1) >>= fun x => (.ok kv_MOST_CELLS >>= fun x => .ok [] >>= fun xs => .ok (x :: xs)) >>= fun xs => .ok (x :: xs)) >>= fun xs => .ok (x :: xs)) >>= fnD 3 f_check_range_rounds) >>= fun _ => .ok (.nx ρ)) (fun ρ => ((m_keeps_c0 ρ >>= fun x => .ok [] >>= fun xs => .ok (x :: xs)) >>= allD) >>= fun d => .ok (.rt d)))
def f_keeps : List D → R D := fun ds => noX (m_keeps (arg0 3 ds)) >>= ret false
def m_mirrored_c0 : Env' → R D := compD [1] (fun ρ => ((.ok kv_SIZE >>= fun x => .ok [] >>= fun xs => .ok (x :: xs)) >>= rg1)) (tgN 1) (fun ρ => .ok true) (fun ρ => (gv ρ 0 >>= fun x => (((gv ρ 1 >>= fun x => .ok (.int 4) >>= fun y => fdivI x y) >>= fun x => (((gv ρ 1 >>= fun x => .ok (.int 2) >>= fun y => fdivI x y) >>= fun x => .ok (.int 2) >>= fun y => modI x y) >>= fun x => .ok (.int 2) >>= fun y => mulD x y) >>= fun y => addD x y) >>= fun x => ((gv ρ 1 >>= fun x => .ok (.int 2) >>= fun y => modI x y) >>= fun x => .ok (.int 4) >>= fun y => mulD x y) >>= fun y => addD x y) >>= fun y => ixD x y))
def m_mirrored : Env' → R Out := seqD (fun ρ => ((gv ρ 0 >>= fun x => (.ok (.int 0) >>= fun x => .ok [] >>= fun xs => .ok (x :: xs)) >>= fun xs => .ok (x :: xs)) >>= fnD 2 f_check_rule) >>= fun _ => .ok (.nx ρ)) (fun ρ => (.ok (.str "") >>= fun x => opt (match x with | .str z => some z | _ => none) >>= fun _ => m_mirrored_c0 ρ >>= fun y => joinD x y) >>= fun d => .ok (.rt d))
def f_mirrored : List D → R D := fun ds => noX (m_mirrored (arg0 2 ds)) >>= ret false
def m_check_two : Env' → R Out := seqD (fun ρ => ((gv ρ 0 >>= fun x => (.ok (.int 0) >>= fun x => .ok [] >>= fun xs => .ok (x :: xs)) >>= fun xs => .ok (x :: xs)) >>= fnD 2 f_check_rule) >>= fun _ => .ok (.nx ρ)) (fun ρ => ((gv ρ 1 >>= fun x => (.ok (.int 1) >>= fun x => .ok [] >>= fun xs => .ok (x :: xs)) >>= fun xs => .ok (x :: xs)) >>= fnD 2 f_check_rule) >>= fun _ => .ok (.nx ρ))
def f_check_two : List D → R D := fun ds => noX (m_check_two (arg0 2 ds)) >>= ret false
def m_tilted : Env' → R Out := seqD (fun ρ => ((gv ρ 0 >>= fun x => .ok [] >>= fun xs => .ok (x :: xs)) >>= fnD 1 f_check_shelf) >>= fun _ => .ok (.nx ρ)) (fun ρ => ((gv ρ 0 >>= fun x => .ok [] >>= fun xs => .ok (x :: xs)) >>= fnD 1 f_tilt_of) >>= fun d => .ok (.rt d))
def f_tilted : List D → R D := fun ds => noX (m_tilted (arg0 1 ds)) >>= ret false
def m_coins_c0 : Env' → R D := compD [1] (fun ρ => (gv ρ 0 >>= itL)) (tgN 1) (fun ρ => .ok true) (fun ρ => (gv ρ 1 >>= fun x => asStr x >>= fun _ => .ok kv_COIN >>= fun y => countD x y))
def m_coins : Env' → R Out := seqD (fun ρ => ((gv ρ 0 >>= fun x => .ok [] >>= fun xs => .ok (x :: xs)) >>= fnD 1 f_check_shelf) >>= fun _ => .ok (.nx ρ)) (fun ρ => ((m_coins_c0 ρ >>= fun x => .ok [] >>= fun xs => .ok (x :: xs)) >>= sumD) >>= fun d => .ok (.rt d))
def f_coins : List D → R D := fun ds => noX (m_coins (arg0 2 ds)) >>= ret false
def m_check_row_b0 : Env' → R Out := fun ρ => ((chD (fun i j => decide (i ≤ j)) (fun i j => decide (i < j)) (fun ρ => .ok (.int 0)) (fun ρ => gv ρ 3) (fun ρ => gv ρ 0) ρ >>= asB) >>= fun c => .ok (!c)) >>= fun k => if k then (fun _ => stk) ρ else (fun ρ => .ok (.nx ρ)) ρ
def m_check_row : Env' → R Out := seqD (fun ρ => ((gv ρ 0 >>= fun x => .ok [] >>= fun xs => .ok (x :: xs)) >>= fnD 1 f_check_lights) >>= fun _ => .ok (.nx ρ)) (seqD (fun ρ => ((((gv ρ 1 >>= fun x => .ok [] >>= fun xs => .ok (x :: xs)) >>= lenD) >>= fun x => .ok kv_MOST_ROW >>= fun y => gtD x y) >>= asB) >>= fun k => if k then (fun _ => stk) ρ else (fun ρ => .ok (.nx ρ)) ρ) (fun ρ => ((gv ρ 1 >>= fun x => .ok [] >>= fun xs => .ok (x :: xs)) >>= en1) >>= fun ds => forD (unT 2 (tsC (tgN 2) (tsC (tgN 3) tsN))) m_check_row_b0 ds ρ))
def f_check_row : List D → R D := fun ds => noX (m_check_row (arg0 4 ds)) >>= ret false
def m_check_play : Env' → R Out := seqD (fun ρ => ((gv ρ 0 >>= fun x => (gv ρ 1 >>= fun x => .ok [] >>= fun xs => .ok (x :: xs)) >>= fun xs => .ok (x :: xs)) >>= fnD 2 f_check_two) >>= fun _ => .ok (.nx ρ)) (seqD (fun ρ => ((gv ρ 2 >>= fun x => .ok [] >>= fun xs => .ok (x :: xs)) >>= fnD 1 f_check_board) >>= fun _ => .ok (.nx ρ)) (fun ρ => ((gv ρ 3 >>= fun x => (.ok (.int 0) >>= fun x => (.ok kv_MOST_ROUNDS >>= fun x => .ok [] >>= fun xs => .ok (x :: xs)) >>= fun xs => .ok (x :: xs)) >>= fun xs => .ok (x :: xs)) >>= fnD 3 f_check_range_rounds) >>= fun _ => .ok (.nx ρ)))
def f_check_play : List D → R D := fun ds => noX (m_check_play (arg0 4 ds)) >>= ret false
def m_least_period_c0 : Env' → R D := compD [3] (fun ρ => (((((gv ρ 1 >>= fun x => .ok [] >>= fun xs => .ok (x :: xs)) >>= lenD) >>= fun x => gv ρ 2 >>= fun y => subI x y) >>= fun x => .ok [] >>= fun xs => .ok (x :: xs)) >>= rg1)) (tgN 3) (fun ρ => .ok true) (fun ρ => ((gv ρ 1 >>= fun x => gv ρ 3 >>= fun y => ixD x y) >>= fun x => (gv ρ 1 >>= fun x => (gv ρ 3 >>= fun x => gv ρ 2 >>= fun y => addD x y) >>= fun y => ixD x y) >>= fun y => eqD x y))
def m_least_period_b0 : Env' → R Out := fun ρ => (((m_least_period_c0 ρ >>= fun x => .ok [] >>= fun xs => .ok (x :: xs)) >>= allD) >>= asB) >>= fun k => if k then (fun ρ => gv ρ 2 >>= fun d => .ok (.rt d)) ρ else (fun ρ => .ok (.nx ρ)) ρ
def m_least_period : Env' → R Out := seqD (fun ρ => ((gv ρ 0 >>= fun x => (gv ρ 1 >>= fun x => .ok [] >>= fun xs => .ok (x :: xs)) >>= fun xs => .ok (x :: xs)) >>= fnD 2 f_check_row) >>= fun _ => .ok (.nx ρ)) (seqD (fun ρ => ((.ok (.int 1) >>= fun x => (((gv ρ 1 >>= fun x => .ok [] >>= fun xs => .ok (x :: xs)) >>= lenD) >>= fun x => .ok [] >>= fun xs => .ok (x :: xs)) >>= fun xs => .ok (x :: xs)) >>= rg2) >>= fun ds => forD (tgN 2) m_least_period_b0 ds ρ) (fun ρ => ((gv ρ 1 >>= fun x => .ok [] >>= fun xs => .ok (x :: xs)) >>= lenD) >>= fun d => .ok (.rt d)))
def f_least_period : List D → R D := fun ds => noX (m_least_period (arg0 4 ds)) >>= ret false
def m_played : Env' → R Out := seqD (fun ρ => ((gv ρ 0 >>= fun x => (gv ρ 1 >>= fun x => (gv ρ 2 >>= fun x => (gv ρ 3 >>= fun x => .ok [] >>= fun xs => .ok (x :: xs)) >>= fun xs => .ok (x :: xs)) >>= fun xs => .ok (x :: xs)) >>= fun xs => .ok (x :: xs)) >>= fnD 4 f_check_play) >>= fun _ => .ok (.nx ρ)) (fun ρ => ((gv ρ 0 >>= fun x => (gv ρ 1 >>= fun x => (gv ρ 2 >>= fun x => (gv ρ 3 >>= fun x => .ok [] >>= fun xs => .ok (x :: xs)) >>= fun xs => .ok (x :: xs)) >>= fun xs => .ok (x :: xs)) >>= fun xs => .ok (x :: xs)) >>= fnD 4 f_behind) >>= fun d => .ok (.rt d))
def f_played : List D → R D := fun ds => noX (m_played (arg0 4 ds)) >>= ret false
def m_has : Env' → R Out := seqD (fun ρ => ((gv ρ 0 >>= fun x => (gv ρ 1 >>= fun x => (gv ρ 2 >>= fun x => (gv ρ 3 >>= fun x => .ok [] >>= fun xs => .ok (x :: xs)) >>= fun xs => .ok (x :: xs)) >>= fun xs => .ok (x :: xs)) >>= fun xs => .ok (x :: xs)) >>= fnD 4 f_check_play) >>= fun _ => .ok (.nx ρ)) (seqD (fun ρ => (((gv ρ 0 >>= fun x => (gv ρ 1 >>= fun x => (gv ρ 2 >>= fun x => (gv ρ 3 >>= fun x => .ok [] >>= fun xs => .ok (x :: xs)) >>= fun xs => .ok (x :: xs)) >>= fun xs => .ok (x :: xs)) >>= fun xs => .ok (x :: xs)) >>= fnD 4 f_behind) >>= fun x => asStr x >>= fun _ => .ok kv_TAKEN >>= fun y => countD x y) >>= fun d => setD 4 d ρ) (fun ρ => ((gv ρ 4 >>= fun x => ((((gv ρ 2 >>= fun x => .ok [] >>= fun xs => .ok (x :: xs)) >>= lenD) >>= fun x => gv ρ 4 >>= fun y => subI x y) >>= fun x => .ok [] >>= fun xs => .ok (x :: xs)) >>= fun xs => .ok (x :: xs)) >>= fun xs => lenOk xs.length >>= fun _ => .ok (.tuple xs)) >>= fun d => .ok (.rt d)))
def f_has : List D → R D := fun ds => noX (m_has (arg0 5 ds)) >>= ret false
def m_law_c0 : Env' → R D := compD [15] (fun ρ => ((gv ρ 6 >>= fun x => .ok [] >>= fun xs => .ok (x :: xs)) >>= rg1)) (tgN 15) (fun ρ => .ok true) (fun ρ => (.ok (.str ".#") >>= fun x => ((gv ρ 1 >>= fun x => (((gv ρ 5 >>= fun x => .ok (.int 2) >>= fun y => addD x y) >>= fun x => gv ρ 15 >>= fun y => addD x y) >>= fun x => (.ok (.int 2) >>= fun x => .ok [] >>= fun xs => .ok (x :: xs)) >>= fun xs => .ok (x :: xs)) >>= fun xs => .ok (x :: xs)) >>= fnD 3 f__law_mix) >>= fun y => ixD x y))
def m_law_c1 : Env' → R D := compD [14] (fun ρ => (gv ρ 7 >>= itS)) (tgN 14) (fun ρ => .ok true) (fun ρ => (((gv ρ 14 >>= fun x => .ok (.str "#") >>= fun y => eqD x y) >>= fun x => .ok [] >>= fun xs => .ok (x :: xs)) >>= intD))
def m_law_c2 : Env' → R D := compD [14] (fun ρ => (gv ρ 7 >>= itS)) (tgN 14) (fun ρ => .ok true) (fun ρ => (.ok (.str ".o") >>= fun x => (((gv ρ 14 >>= fun x => .ok (.str "#") >>= fun y => eqD x y) >>= fun x => .ok [] >>= fun xs => .ok (x :: xs)) >>= intD) >>= fun y => ixD x y))
def m_law_c3 : Env' → R D := compD [14] (fun ρ => (((gv ρ 2 >>= fun x => (gv ρ 7 >>= fun x => .ok [] >>= fun xs => .ok (x :: xs)) >>= fun xs => .ok (x :: xs)) >>= fnD 2 f_round_of) >>= itS)) (tgN 14) (fun ρ => .ok true) (fun ρ => (.ok (.str ".o") >>= fun x => (((gv ρ 14 >>= fun x => .ok (.str "#") >>= fun y => eqD x y) >>= fun x => .ok [] >>= fun xs => .ok (x :: xs)) >>= intD) >>= fun y => ixD x y))
def m_law_b0 : Env' → R Out := seqD (fun ρ => (.ok (.int 10) >>= fun x => (.ok (.int 12) >>= fun x => gv ρ 4 >>= fun y => mulD x y) >>= fun y => addD x y) >>= fun d => setD 5 d ρ) (seqD (fun ρ => (.ok (.int 1) >>= fun x => ((gv ρ 1 >>= fun x => (gv ρ 5 >>= fun x => (.ok (.int 8) >>= fun x => .ok [] >>= fun xs => .ok (x :: xs)) >>= fun xs => .ok (x :: xs)) >>= fun xs => .ok (x :: xs)) >>= fnD 3 f__law_mix) >>= fun y => addD x y) >>= fun d => setD 6 d ρ) (seqD (fun ρ => (.ok (.str "") >>= fun x => opt (match x with | .str z => some z | _ => none) >>= fun _ => m_law_c0 ρ >>= fun y => joinD x y) >>= fun d => setD 7 d ρ) (seqD (fun ρ => m_law_c1 ρ >>= fun d => setD 8 d ρ) (seqD (fun ρ => ((.ok (.int 2) >>= fun x => ((gv ρ 8 >>= fun x => gv ρ 8 >>= fun y => addD x y) >>= fun x => .ok [] >>= fun xs => .ok (x :: xs)) >>= fun xs => .ok (x :: xs)) >>= fnD 2 f_least_period) >>= fun d => setD 9 d ρ) (seqD (fun ρ => (((((gv ρ 2 >>= fun x => (gv ρ 7 >>= fun x => .ok [] >>= fun xs => .ok (x :: xs)) >>= fun xs => .ok (x :: xs)) >>= fnD 2 f_comes_again) >>= fun x => ((.ok (.int 0) >>= fun x => (gv ρ 9 >>= fun x => .ok [] >>= fun xs => .ok (x :: xs)) >>= fun xs => .ok (x :: xs)) >>= fun xs => lenOk xs.length >>= fun _ => .ok (.tuple xs)) >>= fun y => neD x y) >>= asB) >>= fun c => if c then .ok true else (((((gv ρ 3 >>= fun x => (gv ρ 7 >>= fun x => .ok [] >>= fun xs => .ok (x :: xs)) >>= fun xs => .ok (x :: xs)) >>= fnD 2 f_comes_again) >>= fun x => ((.ok (.int 0) >>= fun x => (gv ρ 9 >>= fun x => .ok [] >>= fun xs => .ok (x :: xs)) >>= fun xs => .ok (x :: xs)) >>= fun xs => lenOk xs.length >>= fun _ => .ok (.tuple xs)) >>= fun y => neD x y) >>= asB) >>= fun c => if c then .ok true else (((((gv ρ 6 >>= fun x => .ok [] >>= fun xs => .ok (x :: xs)) >>= intD) >>= fun x => gv ρ 9 >>= fun y => modI x y) >>= fun x => .ok (.int 0) >>= fun y => neD x y) >>= asB))) >>= fun k => if k then (fun ρ => .ok (.bool false) >>= fun d => .ok (.rt d)) ρ else (fun ρ => .ok (.nx ρ)) ρ) (seqD (fun ρ => (((((gv ρ 2 >>= fun x => (gv ρ 7 >>= fun x => .ok [] >>= fun xs => .ok (x :: xs)) >>= fun xs => .ok (x :: xs)) >>= fnD 2 f_round_of) >>= fun x => ((gv ρ 7 >>= fun x => ((gv ρ 6 >>= fun x => .ok (.int 1) >>= fun y => subI x y) >>= fun d => asI d >>= fun i => .ok (some i)) >>= fun l => .ok none >>= fun h => slD x l h) >>= fun x => (gv ρ 7 >>= fun x => .ok none >>= fun l => ((gv ρ 6 >>= fun x => .ok (.int 1) >>= fun y => subI x y) >>= fun d => asI d >>= fun i => .ok (some i)) >>= fun h => slD x l h) >>= fun y => addD x y) >>= fun y => neD x y) >>= asB) >>= fun c => if c then .ok true else ((((gv ρ 3 >>= fun x => (((gv ρ 2 >>= fun x => (gv ρ 7 >>= fun x => .ok [] >>= fun xs => .ok (x :: xs)) >>= fun xs => .ok (x :: xs)) >>= fnD 2 f_round_of) >>= fun x => .ok [] >>= fun xs => .ok (x :: xs)) >>= fun xs => .ok (x :: xs)) >>= fnD 2 f_round_of) >>= fun x => gv ρ 7 >>= fun y => neD x y) >>= asB)) >>= fun k => if k then (fun ρ => .ok (.bool false) >>= fun d => .ok (.rt d)) ρ else (fun ρ => .ok (.nx ρ)) ρ) (seqD (fun ρ => (((((gv ρ 2 >>= fun x => (gv ρ 6 >>= fun x => .ok [] >>= fun xs => .ok (x :: xs)) >>= fun xs => .ok (x :: xs)) >>= fnD 2 f_is_open) >>= fun x => .ok (.bool true) >>= fun y => notBD x y) >>= asB) >>= fun c => if c then .ok true else (((((gv ρ 2 >>= fun x => (gv ρ 6 >>= fun x => .ok [] >>= fun xs => .ok (x :: xs)) >>= fun xs => .ok (x :: xs)) >>= fnD 2 f_keeps) >>= fun x => .ok (.bool true) >>= fun y => notBD x y) >>= asB) >>= fun c => if c then .ok true else ((((gv ρ 2 >>= fun x => (gv ρ 7 >>= fun x => .ok [] >>= fun xs => .ok (x :: xs)) >>= fun xs => .ok (x :: xs)) >>= fnD 2 f_before) >>= fun x => ((((gv ρ 3 >>= fun x => (gv ρ 7 >>= fun x => .ok [] >>= fun xs => .ok (x :: xs)) >>= fun xs => .ok (x :: xs)) >>= fnD 2 f_round_of) >>= fun x => .ok [] >>= fun xs => .ok (x :: xs)) >>= fun xs => lenOk xs.length >>= fun _ => .ok (.list xs)) >>= fun y => neD x y) >>= asB))) >>= fun k => if k then (fun ρ => .ok (.bool false) >>= fun d => .ok (.rt d)) ρ else (fun ρ => .ok (.nx ρ)) ρ) (seqD (fun ρ => ((gv ρ 1 >>= fun x => ((gv ρ 5 >>= fun x => .ok (.int 1) >>= fun y => addD x y) >>= fun x => (.ok (.int 12) >>= fun x => .ok [] >>= fun xs => .ok (x :: xs)) >>= fun xs => .ok (x :: xs)) >>= fun xs => .ok (x :: xs)) >>= fnD 3 f__law_mix) >>= fun d => setD 10 d ρ) (seqD (fun ρ => (((((gv ρ 2 >>= fun x => (gv ρ 3 >>= fun x => (gv ρ 7 >>= fun x => ((.ok (.int 2) >>= fun x => gv ρ 10 >>= fun y => mulD x y) >>= fun x => .ok [] >>= fun xs => .ok (x :: xs)) >>= fun xs => .ok (x :: xs)) >>= fun xs => .ok (x :: xs)) >>= fun xs => .ok (x :: xs)) >>= fnD 4 f_played) >>= fun x => gv ρ 7 >>= fun y => neD x y) >>= asB) >>= fun c => if c then .ok true else ((((gv ρ 2 >>= fun x => (gv ρ 2 >>= fun x => (gv ρ 7 >>= fun x => (gv ρ 10 >>= fun x => .ok [] >>= fun xs => .ok (x :: xs)) >>= fun xs => .ok (x :: xs)) >>= fun xs => .ok (x :: xs)) >>= fun xs => .ok (x :: xs)) >>= fnD 4 f_has) >>= fun x => (((gv ρ 7 >>= fun x => asStr x >>= fun _ => .ok (.str "#") >>= fun y => countD x y) >>= fun x => ((gv ρ 7 >>= fun x => asStr x >>= fun _ => .ok (.str ".") >>= fun y => countD x y) >>= fun x => .ok [] >>= fun xs => .ok (x :: xs)) >>= fun xs => .ok (x :: xs)) >>= fun xs => lenOk xs.length >>= fun _ => .ok (.tuple xs)) >>= fun y => neD x y) >>= asB)) >>= fun k => if k then (fun ρ => .ok (.bool false) >>= fun d => .ok (.rt d)) ρ else (fun ρ => .ok (.nx ρ)) ρ) (seqD (fun ρ => (((((((gv ρ 2 >>= fun x => (gv ρ 7 >>= fun x => (gv ρ 10 >>= fun x => .ok [] >>= fun xs => .ok (x :: xs)) >>= fun xs => .ok (x :: xs)) >>= fun xs => .ok (x :: xs)) >>= fnD 3 f_rounds) >>= fun x => .ok [] >>= fun xs => .ok (x :: xs)) >>= lenD) >>= fun x => gv ρ 10 >>= fun y => neD x y) >>= asB) >>= fun c => if c then .ok true else (((gv ρ 10 >>= fun x => .ok (.int 0) >>= fun y => gtD x y) >>= asB) >>= fun c => if c then ((((gv ρ 2 >>= fun x => (gv ρ 2 >>= fun x => (gv ρ 7 >>= fun x => (gv ρ 10 >>= fun x => .ok [] >>= fun xs => .ok (x :: xs)) >>= fun xs => .ok (x :: xs)) >>= fun xs => .ok (x :: xs)) >>= fun xs => .ok (x :: xs)) >>= fnD 4 f_played) >>= fun x => (((gv ρ 2 >>= fun x => (gv ρ 7 >>= fun x => (gv ρ 10 >>= fun x => .ok [] >>= fun xs => .ok (x :: xs)) >>= fun xs => .ok (x :: xs)) >>= fun xs => .ok (x :: xs)) >>= fnD 3 f_rounds) >>= fun x => .ok (.int (-1)) >>= fun y => ixD x y) >>= fun y => neD x y) >>= asB) else .ok false)) >>= fun k => if k then (fun ρ => .ok (.bool false) >>= fun d => .ok (.rt d)) ρ else (fun ρ => .ok (.nx ρ)) ρ) (seqD (fun ρ => m_law_c2 ρ >>= fun d => setD 11 d ρ) (seqD (fun ρ => ((gv ρ 11 >>= fun x => .ok [] >>= fun xs => .ok (x :: xs)) >>= fnD 1 f_tilted) >>= fun d => (unT 2 (tsC (tgN 12) (tsC (tgN 13) tsN))) d ρ >>= fun ρ' => .ok (.nx ρ')) (seqD (fun ρ => (((gv ρ 13 >>= fun x => ((((gv ρ 7 >>= fun x => .ok (.int (-1)) >>= fun y => ixD x y) >>= fun x => .ok (.str "#") >>= fun y => eqD x y) >>= fun x => .ok [] >>= fun xs => .ok (x :: xs)) >>= intD) >>= fun y => neD x y) >>= asB) >>= fun c => if c then .ok true else ((((gv ρ 12 >>= fun x => .ok [] >>= fun xs => .ok (x :: xs)) >>= fnD 1 f_coins) >>= fun x => ((gv ρ 7 >>= fun x => asStr x >>= fun _ => .ok (.str "#") >>= fun y => countD x y) >>= fun x => gv ρ 13 >>= fun y => subI x y) >>= fun y => neD x y) >>= asB)) >>= fun k => if k then (fun ρ => .ok (.bool false) >>= fun d => .ok (.rt d)) ρ else (fun ρ => .ok (.nx ρ)) ρ) (fun ρ => ((((gv ρ 7 >>= fun x => .ok (.int (-1)) >>= fun y => ixD x y) >>= fun x => .ok (.str ".") >>= fun y => eqD x y) >>= asB) >>= fun c => if c then ((gv ρ 12 >>= fun x => m_law_c3 ρ >>= fun y => neD x y) >>= asB) else .ok false) >>= fun k => if k then (fun ρ => .ok (.bool false) >>= fun d => .ok (.rt d)) ρ else (fun ρ => .ok (.nx ρ)) ρ))))))))))))))
def m_law : Env' → R Out := seqD (fun ρ => ((gv ρ 0 >>= fun x => .ok [] >>= fun xs => .ok (x :: xs)) >>= fnD 1 f__law_draws) >>= fun d => setD 1 d ρ) (seqD (fun ρ => .ok (.str "....####") >>= fun d => setD 2 d ρ) (seqD (fun ρ => ((gv ρ 2 >>= fun x => .ok [] >>= fun xs => .ok (x :: xs)) >>= fnD 1 f_mirrored) >>= fun d => setD 3 d ρ) (seqD (fun ρ => ((gv ρ 3 >>= fun x => .ok (.str ".#.#.#.#") >>= fun y => neD x y) >>= asB) >>= fun k => if k then (fun ρ => .ok (.bool false) >>= fun d => .ok (.rt d)) ρ else (fun ρ => .ok (.nx ρ)) ρ) (seqD (fun ρ => ((.ok (.int 4) >>= fun x => .ok [] >>= fun xs => .ok (x :: xs)) >>= rg1) >>= fun ds => forD (tgN 4) m_law_b0 ds ρ) (fun ρ => .ok (.bool true) >>= fun d => .ok (.rt d))))))
def f_law : List D → R D := fun ds => noX (m_law (arg0 16 ds)) >>= ret false
end Gk94

set_option Elab.async false
set_option linter.all false
set_option maxRecDepth 100000
namespace Gk94
open PySem PySem.Spec PyProof.Rows L2 Vs
abbrev cl0 : Nat → Addr := fun _ => 0
def topS (i : Nat) : Stmt := PySem.Challenge.pw_arcadeheld_k94_whole_bots_that_turn_roun.main.body.getD i (.Pass ⟨0, 0, 0, 0⟩)
abbrev st_is_rule : Stmt := topS 14
abbrev N_is_rule : List Str := ["rule", "sign"]
theorem sc_is_rule : FnScope N_is_rule ["rule"] (defScope st_is_rule) := ⟨rfl, rfl, rfl, by decide +kernel, rfl, by decide +kernel, by decide +kernel⟩
abbrev st_check_board : Stmt := topS 16
abbrev N_check_board : List Str := ["board", "sign"]
theorem sc_check_board : FnScope N_check_board ["board"] (defScope st_check_board) := ⟨rfl, rfl, rfl, by decide +kernel, rfl, by decide +kernel, by decide +kernel⟩
abbrev st_check_range_rounds : Stmt := topS 17
abbrev N_check_range_rounds : List Str := ["number", "least", "most"]
theorem sc_check_range_rounds : FnScope N_check_range_rounds ["number", "least", "most"] (defScope st_check_range_rounds) := ⟨rfl, rfl, rfl, by decide +kernel, rfl, by decide +kernel, by decide +kernel⟩
abbrev st_step : Stmt := topS 19
abbrev N_step : List Str := ["rule", "board", "many", "found", "k", "signs", "at", "sign"]
theorem sc_step : FnScope N_step ["rule", "board"] (defScope st_step) := ⟨rfl, rfl, rfl, by decide +kernel, rfl, by decide +kernel, by decide +kernel⟩
abbrev st_boards_of : Stmt := topS 23
abbrev N_boards_of : List Str := ["cells", "found", "_", "told", "sign"]
theorem sc_boards_of : FnScope N_boards_of ["cells"] (defScope st_boards_of) := ⟨rfl, rfl, rfl, by decide +kernel, rfl, by decide +kernel, by decide +kernel⟩
abbrev st_check_grid : Stmt := topS 36
abbrev N_check_grid : List Str := ["grid", "signs", "k", "row", "sign"]
theorem sc_check_grid : FnScope N_check_grid ["grid", "signs"] (defScope st_check_grid) := ⟨rfl, rfl, rfl, by decide +kernel, rfl, by decide +kernel, by decide +kernel⟩
abbrev st_tilt_of : Stmt := topS 41
abbrev N_tilt_of : List Str := ["shelf"]
theorem sc_tilt_of : FnScope N_tilt_of ["shelf"] (defScope st_tilt_of) := ⟨rfl, rfl, rfl, by decide +kernel, rfl, by decide +kernel, by decide +kernel⟩
abbrev st_check_range : Stmt := topS 48
abbrev N_check_range : List Str := ["number", "least", "most"]
theorem sc_check_range : FnScope N_check_range ["number", "least", "most"] (defScope st_check_range) := ⟨rfl, rfl, rfl, by decide +kernel, rfl, by decide +kernel, by decide +kernel⟩
abbrev st__law_draws : Stmt := topS 54
abbrev N__law_draws : List Str := ["script", "draws", "k", "rest", "turn", "mixed"]
theorem sc__law_draws : FnScope N__law_draws ["script"] (defScope st__law_draws) := ⟨rfl, rfl, rfl, by decide +kernel, rfl, by decide +kernel, by decide +kernel⟩
abbrev st__law_mix : Stmt := topS 55
abbrev N__law_mix : List Str := ["draws", "k", "many", "value"]
theorem sc__law_mix : FnScope N__law_mix ["draws", "k", "many"] (defScope st__law_mix) := ⟨rfl, rfl, rfl, by decide +kernel, rfl, by decide +kernel, by decide +kernel⟩
abbrev st_check_rule : Stmt := topS 15
abbrev N_check_rule : List Str := ["rule", "at"]
theorem sc_check_rule : FnScope N_check_rule ["rule", "at"] (defScope st_check_rule) := ⟨rfl, rfl, rfl, by decide +kernel, rfl, by decide +kernel, by decide +kernel⟩
abbrev st_behind : Stmt := topS 30
abbrev N_behind : List Str := ["one", "two", "board", "many", "here", "turn"]
theorem sc_behind : FnScope N_behind ["one", "two", "board", "many"] (defScope st_behind) := ⟨rfl, rfl, rfl, by decide +kernel, rfl, by decide +kernel, by decide +kernel⟩
abbrev st_check_shelf : Stmt := topS 40
abbrev N_check_shelf : List Str := ["shelf"]
theorem sc_check_shelf : FnScope N_check_shelf ["shelf"] (defScope st_check_shelf) := ⟨rfl, rfl, rfl, by decide +kernel, rfl, by decide +kernel, by decide +kernel⟩
abbrev st_check_lights : Stmt := topS 50
abbrev N_check_lights : List Str := ["lights"]
theorem sc_check_lights : FnScope N_check_lights ["lights"] (defScope st_check_lights) := ⟨rfl, rfl, rfl, by decide +kernel, rfl, by decide +kernel, by decide +kernel⟩
abbrev st_round_of : Stmt := topS 20
abbrev N_round_of : List Str := ["rule", "board"]
theorem sc_round_of : FnScope N_round_of ["rule", "board"] (defScope st_round_of) := ⟨rfl, rfl, rfl, by decide +kernel, rfl, by decide +kernel, by decide +kernel⟩
abbrev st_rounds : Stmt := topS 21
abbrev N_rounds : List Str := ["rule", "board", "many", "found", "here", "_"]
theorem sc_rounds : FnScope N_rounds ["rule", "board", "many"] (defScope st_rounds) := ⟨rfl, rfl, rfl, by decide +kernel, rfl, by decide +kernel, by decide +kernel⟩
abbrev st_comes_again : Stmt := topS 22
abbrev N_comes_again : List Str := ["rule", "board", "met", "here"]
theorem sc_comes_again : FnScope N_comes_again ["rule", "board"] (defScope st_comes_again) := ⟨rfl, rfl, rfl, by decide +kernel, rfl, by decide +kernel, by decide +kernel⟩
abbrev st_before : Stmt := topS 24
abbrev N_before : List Str := ["rule", "board", "told"]
theorem sc_before : FnScope N_before ["rule", "board"] (defScope st_before) := ⟨rfl, rfl, rfl, by decide +kernel, rfl, by decide +kernel, by decide +kernel⟩
abbrev st_is_open : Stmt := topS 25
abbrev N_is_open : List Str := ["rule", "cells", "every", "board"]
theorem sc_is_open : FnScope N_is_open ["rule", "cells"] (defScope st_is_open) := ⟨rfl, rfl, rfl, by decide +kernel, rfl, by decide +kernel, by decide +kernel⟩
abbrev st_keeps : Stmt := topS 26
abbrev N_keeps : List Str := ["rule", "cells", "board"]
theorem sc_keeps : FnScope N_keeps ["rule", "cells"] (defScope st_keeps) := ⟨rfl, rfl, rfl, by decide +kernel, rfl, by decide +kernel, by decide +kernel⟩
abbrev st_mirrored : Stmt := topS 27
abbrev N_mirrored : List Str := ["rule", "k"]
theorem sc_mirrored : FnScope N_mirrored ["rule"] (defScope st_mirrored) := ⟨rfl, rfl, rfl, by decide +kernel, rfl, by decide +kernel, by decide +kernel⟩
abbrev st_check_two : Stmt := topS 29
abbrev N_check_two : List Str := ["one", "two"]
theorem sc_check_two : FnScope N_check_two ["one", "two"] (defScope st_check_two) := ⟨rfl, rfl, rfl, by decide +kernel, rfl, by decide +kernel, by decide +kernel⟩
abbrev st_tilted : Stmt := topS 42
abbrev N_tilted : List Str := ["shelf"]
theorem sc_tilted : FnScope N_tilted ["shelf"] (defScope st_tilted) := ⟨rfl, rfl, rfl, by decide +kernel, rfl, by decide +kernel, by decide +kernel⟩
abbrev st_coins : Stmt := topS 43
abbrev N_coins : List Str := ["shelf", "row"]
theorem sc_coins : FnScope N_coins ["shelf"] (defScope st_coins) := ⟨rfl, rfl, rfl, by decide +kernel, rfl, by decide +kernel, by decide +kernel⟩
abbrev st_check_row : Stmt := topS 51
abbrev N_check_row : List Str := ["lights", "row", "k", "light"]
theorem sc_check_row : FnScope N_check_row ["lights", "row"] (defScope st_check_row) := ⟨rfl, rfl, rfl, by decide +kernel, rfl, by decide +kernel, by decide +kernel⟩
abbrev st_check_play : Stmt := topS 31
abbrev N_check_play : List Str := ["one", "two", "board", "many"]
theorem sc_check_play : FnScope N_check_play ["one", "two", "board", "many"] (defScope st_check_play) := ⟨rfl, rfl, rfl, by decide +kernel, rfl, by decide +kernel, by decide +kernel⟩
abbrev st_least_period : Stmt := topS 52
abbrev N_least_period : List Str := ["lights", "row", "period", "k"]
theorem sc_least_period : FnScope N_least_period ["lights", "row"] (defScope st_least_period) := ⟨rfl, rfl, rfl, by decide +kernel, rfl, by decide +kernel, by decide +kernel⟩
abbrev st_played : Stmt := topS 32
abbrev N_played : List Str := ["one", "two", "board", "many"]
theorem sc_played : FnScope N_played ["one", "two", "board", "many"] (defScope st_played) := ⟨rfl, rfl, rfl, by decide +kernel, rfl, by decide +kernel, by decide +kernel⟩
abbrev st_has : Stmt := topS 33
abbrev N_has : List Str := ["one", "two", "board", "many", "taken"]
theorem sc_has : FnScope N_has ["one", "two", "board", "many"] (defScope st_has) := ⟨rfl, rfl, rfl, by decide +kernel, rfl, by decide +kernel, by decide +kernel⟩
abbrev st_law : Stmt := topS 56
abbrev N_law : List Str := ["script", "draws", "rule", "back", "turn", "at", "many", "board", "lights", "period", "steps", "shelf", "told", "fell", "sign", "t"]
theorem sc_law : FnScope N_law ["script"] (defScope st_law) := ⟨rfl, rfl, rfl, by decide +kernel, rfl, by decide +kernel, by decide +kernel⟩
structure Fx (w : World) (K : PySem.W.Frag) (mg : Str → Option Value) : Prop where
  b_abs : mg "abs" = none
  b_all : mg "all" = none
  b_enumerate : mg "enumerate" = none
  b_int : mg "int" = none
  b_len : mg "len" = none
  b_min : mg "min" = none
  b_range : mg "range" = none
  b_set : mg "set" = none
  b_sorted : mg "sorted" = none
  b_sum : mg "sum" = none
  k_COIN : Kon w K mg "COIN" kv_COIN
  k_EMPTY : Kon w K mg "EMPTY" kv_EMPTY
  k_LEAST_LIGHTS : Kon w K mg "LEAST_LIGHTS" kv_LEAST_LIGHTS
  k_MOST_CELLS : Kon w K mg "MOST_CELLS" kv_MOST_CELLS
  k_MOST_LIGHTS : Kon w K mg "MOST_LIGHTS" kv_MOST_LIGHTS
  k_MOST_ROUNDS : Kon w K mg "MOST_ROUNDS" kv_MOST_ROUNDS
  k_MOST_ROW : Kon w K mg "MOST_ROW" kv_MOST_ROW
  k_MOST_SIDE : Kon w K mg "MOST_SIDE" kv_MOST_SIDE
  k_SIGNS : Kon w K mg "SIGNS" kv_SIGNS
  k_SIZE : Kon w K mg "SIZE" kv_SIZE
  k_TAKEN : Kon w K mg "TAKEN" kv_TAKEN
  g_is_rule : Gfn K mg "is_rule" "is_rule" st_is_rule ["rule"]
  g_check_board : Gfn K mg "check_board" "check_board" st_check_board ["board"]
  g_check_range_rounds : Gfn K mg "check_range_rounds" "check_range" st_check_range_rounds ["number", "least", "most"]
  g_step : Gfn K mg "step" "step" st_step ["rule", "board"]
  g_boards_of : Gfn K mg "boards_of" "boards_of" st_boards_of ["cells"]
  g_check_grid : Gfn K mg "check_grid" "check_grid" st_check_grid ["grid", "signs"]
  g_tilt_of : Gfn K mg "tilt_of" "tilt_of" st_tilt_of ["shelf"]
  g_check_range : Gfn K mg "check_range" "check_range" st_check_range ["number", "least", "most"]
  g_check_range_rows : Gfn K mg "check_range_rows" "check_range" st_check_range ["number", "least", "most"]
  g__law_draws : Gfn K mg "_law_draws" "_law_draws" st__law_draws ["script"]
  g__law_mix : Gfn K mg "_law_mix" "_law_mix" st__law_mix ["draws", "k", "many"]
  g_check_rule : Gfn K mg "check_rule" "check_rule" st_check_rule ["rule", "at"]
  g_behind : Gfn K mg "behind" "behind" st_behind ["one", "two", "board", "many"]
  g_check_shelf : Gfn K mg "check_shelf" "check_shelf" st_check_shelf ["shelf"]
  g_check_lights : Gfn K mg "check_lights" "check_lights" st_check_lights ["lights"]
  g_round_of : Gfn K mg "round_of" "round_of" st_round_of ["rule", "board"]
  g_rounds : Gfn K mg "rounds" "rounds" st_rounds ["rule", "board", "many"]
  g_comes_again : Gfn K mg "comes_again" "comes_again" st_comes_again ["rule", "board"]
  g_before : Gfn K mg "before" "before" st_before ["rule", "board"]
  g_is_open : Gfn K mg "is_open" "is_open" st_is_open ["rule", "cells"]
  g_keeps : Gfn K mg "keeps" "keeps" st_keeps ["rule", "cells"]
  g_mirrored : Gfn K mg "mirrored" "mirrored" st_mirrored ["rule"]
  g_check_two : Gfn K mg "check_two" "check_two" st_check_two ["one", "two"]
  g_tilted : Gfn K mg "tilted" "tilted" st_tilted ["shelf"]
  g_coins : Gfn K mg "coins" "coins" st_coins ["shelf"]
  g_check_row : Gfn K mg "check_row" "check_row" st_check_row ["lights", "row"]
  g_check_play : Gfn K mg "check_play" "check_play" st_check_play ["one", "two", "board", "many"]
  g_least_period : Gfn K mg "least_period" "least_period" st_least_period ["lights", "row"]
  g_played : Gfn K mg "played" "played" st_played ["one", "two", "board", "many"]
  g_has : Gfn K mg "has" "has" st_has ["one", "two", "board", "many"]
  g_law : Gfn K mg "law" "law" st_law ["script"]
section
variable {P : Program} {w : World} {K : PySem.W.Frag} {mg : Str → Option Value} {base : Heap}
set_option maxHeartbeats 0 in
theorem b_is_rule (T : Fx w K mg) {a : Addr} {cdv : Value} {A : Around} {outer : List Env} {s : Shared} {H : Hp} {E : XK} (hr : Room 0 (A.deeper (envOfC "is_rule" (defScope st_is_rule) s.heap.objs.size a cdv))) : PSs (cxOf CX0 P w K mg base N_is_rule "is_rule" (defScope st_is_rule) a cdv A outer s H E).nox (defBody st_is_rule) (sV w K noE [] [] false m_is_rule) :=
  (s_one (s_ret (v_and (v_cmp (d_eq (hu64 hr)) (v_cb c_len T.b_len (a_cons (v_nm 0) a_nil)) (v_kon T.k_SIZE)) (v_one (v_cb (c_all rfl) T.b_all (a_cons (v_own (o_lc [("sign", 1)] rfl sc_is_rule.nd (i_str (v_nm 0)) (blkOk_by (N := N_is_rule) (sc := (defScope st_is_rule)) (by decide +kernel)) (fun _ _ _ _ _ => (g_nm 1 sc_is_rule.nd)) (fun _ _ _ _ _ => t_no) (fun _ _ _ _ _ => (v_cmp (d_in (hu65 hr)) (v_nm 1) (v_kon T.k_SIGNS))))) a_nil))))))
theorem c_is_rule (T : Fx w K mg) : Cal P w K mg base CX0 cl0 1 "is_rule" 1 false f_is_rule := by
  obtain ⟨a, fd, F, m, b⟩ := T.g_is_rule.ex
  exact cal_of F m sc_is_rule b rfl fun _ _ _ _ _ _ hr => b_is_rule T hr
set_option maxHeartbeats 0 in
theorem b_check_board (T : Fx w K mg) {a : Addr} {cdv : Value} {A : Around} {outer : List Env} {s : Shared} {H : Hp} {E : XK} (hr : Room 0 (A.deeper (envOfC "check_board" (defScope st_check_board) s.heap.objs.size a cdv))) : PSs (cxOf CX0 P w K mg base N_check_board "check_board" (defScope st_check_board) a cdv A outer s H E).nox (defBody st_check_board) (sV w K noE [] [] false m_check_board) :=
  (s_one (s_if (w_or (w_not (w_ch op_le op_le v_int (v_cb c_len T.b_len (a_cons (v_nm 0) a_nil)) (v_kon T.k_MOST_CELLS))) (w_or1 (w_not (w_val (v_cb (c_all rfl) T.b_all (a_cons (v_own (o_lc [("sign", 1)] rfl sc_check_board.nd (i_str (v_nm 0)) (blkOk_by (N := N_check_board) (sc := (defScope st_check_board)) (by decide +kernel)) (fun _ _ _ _ _ => (g_nm 1 sc_check_board.nd)) (fun _ _ _ _ _ => t_no) (fun _ _ _ _ _ => (v_cmp (d_in (hu65 hr)) (v_nm 1) (v_kon T.k_SIGNS))))) a_nil)))))).pt (s_one s_nev) s_nil))
theorem c_check_board (T : Fx w K mg) : Cal P w K mg base CX0 cl0 1 "check_board" 1 false f_check_board := by
  obtain ⟨a, fd, F, m, b⟩ := T.g_check_board.ex
  exact cal_of F m sc_check_board b rfl fun _ _ _ _ _ _ hr => b_check_board T hr
set_option maxHeartbeats 0 in
theorem b_check_range_rounds (T : Fx w K mg) {a : Addr} {cdv : Value} {A : Around} {outer : List Env} {s : Shared} {H : Hp} {E : XK} (hr : Room 0 (A.deeper (envOfC "check_range" (defScope st_check_range_rounds) s.heap.objs.size a cdv))) : PSs (cxOf CX0 P w K mg base N_check_range_rounds "check_range" (defScope st_check_range_rounds) a cdv A outer s H E).nox (defBody st_check_range_rounds) (sV w K noE [] [] false m_check_range_rounds) :=
  (s_one (s_if (w_not (w_ch op_le op_le (v_nm 1) (v_nm 0) (v_nm 2))) (s_one s_nev) s_nil))
theorem c_check_range_rounds (T : Fx w K mg) : Cal P w K mg base CX0 cl0 1 "check_range_rounds" 3 false f_check_range_rounds := by
  obtain ⟨a, fd, F, m, b⟩ := T.g_check_range_rounds.ex
  exact cal_of F m sc_check_range_rounds b rfl fun _ _ _ _ _ _ hr => b_check_range_rounds T hr
set_option maxHeartbeats 0 in
theorem b_step (T : Fx w K mg) {a : Addr} {cdv : Value} {A : Around} {outer : List Env} {s : Shared} {H : Hp} {E : XK} (hr : Room 0 (A.deeper (envOfC "step" (defScope st_step) s.heap.objs.size a cdv))) : PSs (cxOf CX0 P w K mg base N_step "step" (defScope st_step) a cdv A outer s H E).nox (defBody st_step) (sV w K noE [] [] false m_step) :=
  (s_cons (O1 := []) (s_set (O' := []) 2 sc_step.nd (v_cb c_len T.b_len (a_cons (v_nm 1) a_nil))) (s_cons (O1 := []) (s_set (O' := []) 3 sc_step.nd v_str) (s_cons (O1 := []) (s_for PassesOwn.never rfl (i_rg1 T.b_range (a_cons (v_nm 2) a_nil)) (g_nm 4 sc_step.nd) (s_cons (O1 := []) (s_set (O' := []) 5 sc_step.nd (v_own (o_lst (a_cons (v_ix d_ix (v_nm 1) (v_op d_sub (v_nm 4) v_int)) (a_cons (v_ix d_ix (v_nm 1) (v_nm 4)) (a_cons (v_ix d_ix (v_nm 1) (v_op d_mod (v_op d_add (v_nm 4) v_int) (v_nm 2))) a_nil)))))) (s_cons (O1 := []) (s_set (O' := []) 6 sc_step.nd v_int) (s_cons (O1 := []) (s_for PassesOwn.never rfl (i_lst (v_nm 5)) (g_nm 7 sc_step.nd) (s_one (s_set (O' := []) 6 sc_step.nd (v_op d_add (v_op d_mul v_int (v_nm 6)) (v_ct c_int T.b_int (a_cons (v_cmp (d_eq (hu64 hr)) (v_nm 7) (v_kon T.k_TAKEN)) a_nil)))))) (s_one (s_set (O' := []) 3 sc_step.nd (v_op d_add (v_nm 3) (v_ix d_ix (v_nm 0) (v_nm 6))))))))) (s_one (s_ret (v_nm 3))))))
theorem c_step (T : Fx w K mg) : Cal P w K mg base CX0 cl0 1 "step" 2 false f_step := by
  obtain ⟨a, fd, F, m, b⟩ := T.g_step.ex
  exact cal_of F m sc_step b rfl fun _ _ _ _ _ _ hr => b_step T hr
set_option maxHeartbeats 0 in
theorem b_boards_of (T : Fx w K mg) {a : Addr} {cdv : Value} {A : Around} {outer : List Env} {s : Shared} {H : Hp} {E : XK} (hr : Room 0 (A.deeper (envOfC "boards_of" (defScope st_boards_of) s.heap.objs.size a cdv))) : PSs (cxOf CX0 P w K mg base N_boards_of "boards_of" (defScope st_boards_of) a cdv A outer s H E).nox (defBody st_boards_of) (sV w K noE [] [] false m_boards_of) :=
  (s_cons (O1 := []) (s_set (O' := []) 1 sc_boards_of.nd (v_own (o_lst (a_cons v_str a_nil)))) (s_cons (O1 := []) (s_for PassesOwn.never rfl (i_rg1 T.b_range (a_cons (v_nm 0) a_nil)) (g_nm 2 sc_boards_of.nd) (s_one (s_lc2 (O' := []) 1 [("told", 3), ("sign", 4)] [4] rfl sc_boards_of.nd (i_lst (v_nm 1)) (blkOk_by (N := N_boards_of) (sc := (defScope st_boards_of)) (by decide +kernel)) (fun _ _ _ _ _ => (g_nm 3 sc_boards_of.nd)) (fun _ _ _ _ _ => t_no) (fun _ _ _ _ _ => (i_lst (v_own (o_cb (c_sorted (hu65 hr) hr.hd) T.b_sorted (a_cons (v_kon T.k_SIGNS) a_nil))))) (fun _ _ _ _ _ => (g_nm 4 sc_boards_of.nd)) (fun _ _ _ _ _ => t_no) (fun _ _ _ _ _ => (v_op d_add (v_nm 3) (v_nm 4)))))) (s_one (s_ret (v_nm 1)))))
theorem c_boards_of (T : Fx w K mg) : Cal P w K mg base CX0 cl0 1 "boards_of" 1 false f_boards_of := by
  obtain ⟨a, fd, F, m, b⟩ := T.g_boards_of.ex
  exact cal_of F m sc_boards_of b rfl fun _ _ _ _ _ _ hr => b_boards_of T hr
set_option maxHeartbeats 0 in
theorem b_check_grid (T : Fx w K mg) {a : Addr} {cdv : Value} {A : Around} {outer : List Env} {s : Shared} {H : Hp} {E : XK} (hr : Room 0 (A.deeper (envOfC "check_grid" (defScope st_check_grid) s.heap.objs.size a cdv))) : PSs (cxOf CX0 P w K mg base N_check_grid "check_grid" (defScope st_check_grid) a cdv A outer s H E).nox (defBody st_check_grid) (sV w K noE [] [] false m_check_grid) :=
  (s_cons (O1 := []) (s_if (w_not (w_ch op_le op_le v_int (v_cb c_len T.b_len (a_cons (v_nm 0) a_nil)) (v_kon T.k_MOST_SIDE))) (s_one s_nev) s_nil) (s_one (s_for PassesOwn.never rfl (i_en T.b_enumerate (a_cons (v_nm 0) a_nil)) (g_tup rfl (gs_cons (g_nm 2 sc_check_grid.nd) (gs_cons (g_nm 3 sc_check_grid.nd) gs_nil))) (s_one (s_if (w_or (w_not (w_ch op_le op_le v_int (v_cb c_len T.b_len (a_cons (v_nm 3) a_nil)) (v_kon T.k_MOST_SIDE))) (w_or (w_cmp (d_ne (hu64 hr)) (v_cb c_len T.b_len (a_cons (v_nm 3) a_nil)) (v_cb c_len T.b_len (a_cons (v_ix d_ix (v_nm 0) v_int) a_nil))) (w_or1 (w_not (w_val (v_cb (c_all rfl) T.b_all (a_cons (v_own (o_lc [("sign", 4)] rfl sc_check_grid.nd (i_str (v_nm 3)) (blkOk_by (N := N_check_grid) (sc := (defScope st_check_grid)) (by decide +kernel)) (fun _ _ _ _ _ => (g_nm 4 sc_check_grid.nd)) (fun _ _ _ _ _ => t_no) (fun _ _ _ _ _ => (v_cmp (d_in (hu65 hr)) (v_nm 4) (v_nm 1))))) a_nil))))))).pt (s_one s_nev) s_nil)))))
theorem c_check_grid (T : Fx w K mg) : Cal P w K mg base CX0 cl0 1 "check_grid" 2 false f_check_grid := by
  obtain ⟨a, fd, F, m, b⟩ := T.g_check_grid.ex
  exact cal_of F m sc_check_grid b rfl fun _ _ _ _ _ _ hr => b_check_grid T hr
set_option maxHeartbeats 0 in
theorem b_tilt_of (T : Fx w K mg) {a : Addr} {cdv : Value} {A : Around} {outer : List Env} {s : Shared} {H : Hp} {E : XK} (hr : Room 0 (A.deeper (envOfC "tilt_of" (defScope st_tilt_of) s.heap.objs.size a cdv))) : PSs (cxOf CX0 P w K mg base N_tilt_of "tilt_of" (defScope st_tilt_of) a cdv A outer s H E).nox (defBody st_tilt_of) (sV w K noE [] [] false m_tilt_of) :=
  (s_one (s_ret (v_tup (a_cons (v_own (o_lst (a_cons (v_op d_mul (v_kon T.k_EMPTY) (v_cb c_len T.b_len (a_cons (v_ix d_ix (v_nm 0) v_int) a_nil))) (a_star (v_sl d_sl (v_nm 0) p_no (p_so v_negc)) a_nil)))) (a_cons (v_count (v_ix d_ix (v_nm 0) v_negc) (v_kon T.k_COIN)) a_nil)))))
theorem c_tilt_of (T : Fx w K mg) : Cal P w K mg base CX0 cl0 1 "tilt_of" 1 false f_tilt_of := by
  obtain ⟨a, fd, F, m, b⟩ := T.g_tilt_of.ex
  exact cal_of F m sc_tilt_of b rfl fun _ _ _ _ _ _ hr => b_tilt_of T hr
set_option maxHeartbeats 0 in
theorem b_check_range (T : Fx w K mg) {a : Addr} {cdv : Value} {A : Around} {outer : List Env} {s : Shared} {H : Hp} {E : XK} (hr : Room 0 (A.deeper (envOfC "check_range" (defScope st_check_range) s.heap.objs.size a cdv))) : PSs (cxOf CX0 P w K mg base N_check_range "check_range" (defScope st_check_range) a cdv A outer s H E).nox (defBody st_check_range) (sV w K noE [] [] false m_check_range) :=
  (s_one (s_if (w_not (w_ch op_le op_le (v_nm 1) (v_nm 0) (v_nm 2))) (s_one s_nev) s_nil))
theorem c_check_range (T : Fx w K mg) : Cal P w K mg base CX0 cl0 1 "check_range" 3 false f_check_range := by
  obtain ⟨a, fd, F, m, b⟩ := T.g_check_range.ex
  exact cal_of F m sc_check_range b rfl fun _ _ _ _ _ _ hr => b_check_range T hr
theorem c_check_range_rows (T : Fx w K mg) : Cal P w K mg base CX0 cl0 1 "check_range_rows" 3 false f_check_range_rows := by
  obtain ⟨a, fd, F, m, b⟩ := T.g_check_range_rows.ex
  exact cal_of F m sc_check_range b rfl fun _ _ _ _ _ _ hr => b_check_range T hr
set_option maxHeartbeats 0 in
theorem b__law_draws (T : Fx w K mg) {a : Addr} {cdv : Value} {A : Around} {outer : List Env} {s : Shared} {H : Hp} {E : XK} (hr : Room 0 (A.deeper (envOfC "_law_draws" (defScope st__law_draws) s.heap.objs.size a cdv))) : PSs (cxOf CX0 P w K mg base N__law_draws "_law_draws" (defScope st__law_draws) a cdv A outer s H E).nox (defBody st__law_draws) (sV w K noE [] [] true m__law_draws) :=
  (s_cons (O1 := [1]) (s_setO (O' := [1]) 1 sc__law_draws.nd (o_lst a_nil)) (s_cons (O1 := [1]) (s_for PassesOwn.never rfl (i_rg1 T.b_range (a_cons (v_cb (c_min2 rfl) T.b_min (a_cons v_int (a_cons (v_cb c_len T.b_len (a_cons (v_nm 0) a_nil)) a_nil))) a_nil)) (g_nm 2 sc__law_draws.nd) (s_cons (O1 := [1]) (s_set (O' := [1]) 3 sc__law_draws.nd (v_cb c_abs T.b_abs (a_cons (v_ix d_ix (v_nm 0) (v_nm 2)) a_nil))) (s_one (s_if (w_cmp d_ge (v_nm 3) (v_op d_pow v_int v_int)) (s_one (s_for PassesOwn.never rfl (i_rg1 T.b_range (a_cons v_int a_nil)) (g_nm 4 sc__law_draws.nd) (s_one (s_if (w_cmp d_gt (v_nm 3) v_int) (s_cons (O1 := [1]) (s_app 1 (v_op d_mod (v_ct c_int T.b_int (a_cons (v_nm 3) a_nil)) v_int)) (s_one (s_set (O' := [1]) 3 sc__law_draws.nd (v_op d_fdiv (v_nm 3) v_int)))) s_nil)))) (s_cons (O1 := [1]) (s_set (O' := [1]) 5 sc__law_draws.nd (v_op d_mod (v_ct c_int T.b_int (a_cons (v_op d_add (v_op d_mul (v_nm 3) v_int) (v_op d_mul (v_op d_add (v_nm 2) v_int) v_int)) a_nil)) v_int)) (s_cons (O1 := [1]) (s_set (O' := [1]) 5 sc__law_draws.nd (v_op d_mod (v_ct c_int T.b_int (a_cons (v_op d_add (v_op d_add (v_op d_mul (v_nm 5) v_int) (v_op d_mul v_int (v_nm 2))) v_int) a_nil)) v_int)) (s_cons (O1 := [1]) (s_app 1 (v_op d_mod (v_ct c_int T.b_int (a_cons (v_nm 5) a_nil)) v_int)) (s_one (s_app 1 (v_op d_mod (v_ct c_int T.b_int (a_cons (v_op d_fdiv (v_nm 5) v_int) a_nil)) v_int)))))))))) (s_one (s_retS 1))))
theorem c__law_draws (T : Fx w K mg) : Cal P w K mg base CX0 cl0 1 "_law_draws" 1 true f__law_draws := by
  obtain ⟨a, fd, F, m, b⟩ := T.g__law_draws.ex
  exact cal_of F m sc__law_draws b rfl fun _ _ _ _ _ _ hr => b__law_draws T hr
set_option maxHeartbeats 0 in
theorem b__law_mix (T : Fx w K mg) {a : Addr} {cdv : Value} {A : Around} {outer : List Env} {s : Shared} {H : Hp} {E : XK} (hr : Room 0 (A.deeper (envOfC "_law_mix" (defScope st__law_mix) s.heap.objs.size a cdv))) : PSs (cxOf CX0 P w K mg base N__law_mix "_law_mix" (defScope st__law_mix) a cdv A outer s H E).nox (defBody st__law_mix) (sV w K noE [] [] false m__law_mix) :=
  (s_cons (O1 := []) (s_set (O' := []) 3 sc__law_mix.nd v_int) (s_cons (O1 := []) (s_if (w_cmp d_gt (v_cb c_len T.b_len (a_cons (v_nm 0) a_nil)) v_int) (s_one (s_set (O' := []) 3 sc__law_mix.nd (v_ix d_ix (v_nm 0) (v_op d_mod (v_ct c_int T.b_int (a_cons (v_nm 1) a_nil)) (v_cb c_len T.b_len (a_cons (v_nm 0) a_nil)))))) s_nil) (s_cons (O1 := []) (s_if (w_cmp d_lt (v_nm 1) (v_cb c_len T.b_len (a_cons (v_nm 0) a_nil))) (s_one (s_ret (v_op d_mod (v_ct c_int T.b_int (a_cons (v_nm 3) a_nil)) (v_nm 2)))) s_nil) (s_one (s_ret (v_op d_mod (v_ct c_int T.b_int (a_cons (v_op d_fdiv (v_ct c_int T.b_int (a_cons (v_op d_add (v_op d_mul (v_nm 3) v_int) (v_op d_mul (v_nm 1) v_int)) a_nil)) v_int) a_nil)) (v_nm 2)))))))
theorem c__law_mix (T : Fx w K mg) : Cal P w K mg base CX0 cl0 1 "_law_mix" 3 false f__law_mix := by
  obtain ⟨a, fd, F, m, b⟩ := T.g__law_mix.ex
  exact cal_of F m sc__law_mix b rfl fun _ _ _ _ _ _ hr => b__law_mix T hr
set_option maxHeartbeats 0 in
theorem b_check_rule (T : Fx w K mg) {a : Addr} {cdv : Value} {A : Around} {outer : List Env} {s : Shared} {H : Hp} {E : XK} (hr : Room 1 (A.deeper (envOfC "check_rule" (defScope st_check_rule) s.heap.objs.size a cdv))) : PSs (cxOf CX0 P w K mg base N_check_rule "check_rule" (defScope st_check_rule) a cdv A outer s H E).nox (defBody st_check_rule) (sV w K noE [] [] false m_check_rule) :=
  (s_one (s_if (w_not (w_val (v_fn (c_is_rule T) hr pass0 wish0 (a_cons (v_nm 0) a_nil)))) (s_one s_nev) s_nil))
theorem c_check_rule (T : Fx w K mg) : Cal P w K mg base CX0 cl0 2 "check_rule" 2 false f_check_rule := by
  obtain ⟨a, fd, F, m, b⟩ := T.g_check_rule.ex
  exact cal_of F m sc_check_rule b rfl fun _ _ _ _ _ _ hr => b_check_rule T hr
set_option maxHeartbeats 0 in
theorem b_behind (T : Fx w K mg) {a : Addr} {cdv : Value} {A : Around} {outer : List Env} {s : Shared} {H : Hp} {E : XK} (hr : Room 1 (A.deeper (envOfC "behind" (defScope st_behind) s.heap.objs.size a cdv))) : PSs (cxOf CX0 P w K mg base N_behind "behind" (defScope st_behind) a cdv A outer s H E).nox (defBody st_behind) (sV w K noE [] [] false m_behind) :=
  (s_cons (O1 := []) (s_set (O' := []) 4 sc_behind.nd (v_nm 2)) (s_cons (O1 := []) (s_for PassesOwn.never rfl (i_rg1 T.b_range (a_cons (v_nm 3) a_nil)) (g_nm 5 sc_behind.nd) (s_one (s_set (O' := []) 4 sc_behind.nd (v_fn (c_step T) hr pass0 wish0 (a_cons (v_if (w_cmp (d_eq (hu64 hr)) (v_op d_mod (v_nm 5) v_int) v_int) (v_nm 0) (v_nm 1)) (a_cons (v_nm 4) a_nil)))))) (s_one (s_ret (v_nm 4)))))
theorem c_behind (T : Fx w K mg) : Cal P w K mg base CX0 cl0 2 "behind" 4 false f_behind := by
  obtain ⟨a, fd, F, m, b⟩ := T.g_behind.ex
  exact cal_of F m sc_behind b rfl fun _ _ _ _ _ _ hr => b_behind T hr
set_option maxHeartbeats 0 in
theorem b_check_shelf (T : Fx w K mg) {a : Addr} {cdv : Value} {A : Around} {outer : List Env} {s : Shared} {H : Hp} {E : XK} (hr : Room 1 (A.deeper (envOfC "check_shelf" (defScope st_check_shelf) s.heap.objs.size a cdv))) : PSs (cxOf CX0 P w K mg base N_check_shelf "check_shelf" (defScope st_check_shelf) a cdv A outer s H E).nox (defBody st_check_shelf) (sV w K noE [] [] false m_check_shelf) :=
  (s_one (s_ex (v_fn (c_check_grid T) hr pass0 wish0 (a_cons (v_nm 0) (a_cons (v_op d_add (v_kon T.k_EMPTY) (v_kon T.k_COIN)) a_nil)))))
theorem c_check_shelf (T : Fx w K mg) : Cal P w K mg base CX0 cl0 2 "check_shelf" 1 false f_check_shelf := by
  obtain ⟨a, fd, F, m, b⟩ := T.g_check_shelf.ex
  exact cal_of F m sc_check_shelf b rfl fun _ _ _ _ _ _ hr => b_check_shelf T hr
set_option maxHeartbeats 0 in
theorem b_check_lights (T : Fx w K mg) {a : Addr} {cdv : Value} {A : Around} {outer : List Env} {s : Shared} {H : Hp} {E : XK} (hr : Room 1 (A.deeper (envOfC "check_lights" (defScope st_check_lights) s.heap.objs.size a cdv))) : PSs (cxOf CX0 P w K mg base N_check_lights "check_lights" (defScope st_check_lights) a cdv A outer s H E).nox (defBody st_check_lights) (sV w K noE [] [] false m_check_lights) :=
  (s_one (s_ex (v_fn (c_check_range_rows T) hr pass0 wish0 (a_cons (v_nm 0) (a_cons (v_kon T.k_LEAST_LIGHTS) (a_cons (v_kon T.k_MOST_LIGHTS) a_nil))))))
theorem c_check_lights (T : Fx w K mg) : Cal P w K mg base CX0 cl0 2 "check_lights" 1 false f_check_lights := by
  obtain ⟨a, fd, F, m, b⟩ := T.g_check_lights.ex
  exact cal_of F m sc_check_lights b rfl fun _ _ _ _ _ _ hr => b_check_lights T hr
set_option maxHeartbeats 0 in
theorem b_round_of (T : Fx w K mg) {a : Addr} {cdv : Value} {A : Around} {outer : List Env} {s : Shared} {H : Hp} {E : XK} (hr : Room 2 (A.deeper (envOfC "round_of" (defScope st_round_of) s.heap.objs.size a cdv))) : PSs (cxOf CX0 P w K mg base N_round_of "round_of" (defScope st_round_of) a cdv A outer s H E).nox (defBody st_round_of) (sV w K noE [] [] false m_round_of) :=
  (s_cons (O1 := []) (s_ex (v_fn (c_check_rule T) hr pass0 wish0 (a_cons (v_nm 0) (a_cons v_int a_nil)))) (s_cons (O1 := []) (s_ex (v_fn (c_check_board T) hr pass0 wish0 (a_cons (v_nm 1) a_nil))) (s_one (s_ret (v_fn (c_step T) hr pass0 wish0 (a_cons (v_nm 0) (a_cons (v_nm 1) a_nil)))))))
theorem c_round_of (T : Fx w K mg) : Cal P w K mg base CX0 cl0 3 "round_of" 2 false f_round_of := by
  obtain ⟨a, fd, F, m, b⟩ := T.g_round_of.ex
  exact cal_of F m sc_round_of b rfl fun _ _ _ _ _ _ hr => b_round_of T hr
set_option maxHeartbeats 0 in
theorem b_rounds (T : Fx w K mg) {a : Addr} {cdv : Value} {A : Around} {outer : List Env} {s : Shared} {H : Hp} {E : XK} (hr : Room 2 (A.deeper (envOfC "rounds" (defScope st_rounds) s.heap.objs.size a cdv))) : PSs (cxOf CX0 P w K mg base N_rounds "rounds" (defScope st_rounds) a cdv A outer s H E).nox (defBody st_rounds) (sV w K noE [] [] true m_rounds) :=
  (s_cons (O1 := []) (s_ex (v_fn (c_check_rule T) hr pass0 wish0 (a_cons (v_nm 0) (a_cons v_int a_nil)))) (s_cons (O1 := []) (s_ex (v_fn (c_check_board T) hr pass0 wish0 (a_cons (v_nm 1) a_nil))) (s_cons (O1 := []) (s_ex (v_fn (c_check_range_rounds T) hr pass0 wish0 (a_cons (v_nm 2) (a_cons v_int (a_cons (v_kon T.k_MOST_ROUNDS) a_nil))))) (s_cons (O1 := [3]) (s_setO (O' := [3]) 3 sc_rounds.nd (o_lst a_nil)) (s_cons (O1 := [3]) (s_set (O' := [3]) 4 sc_rounds.nd (v_nm 1)) (s_cons (O1 := [3]) (s_for PassesOwn.never rfl (i_rg1 T.b_range (a_cons (v_nm 2) a_nil)) (g_nm 5 sc_rounds.nd) (s_cons (O1 := [3]) (s_set (O' := [3]) 4 sc_rounds.nd (v_fn (c_step T) hr pass0 wish0 (a_cons (v_nm 0) (a_cons (v_nm 4) a_nil)))) (s_one (s_app 3 (v_nm 4))))) (s_one (s_retS 3))))))))
theorem c_rounds (T : Fx w K mg) : Cal P w K mg base CX0 cl0 3 "rounds" 3 true f_rounds := by
  obtain ⟨a, fd, F, m, b⟩ := T.g_rounds.ex
  exact cal_of F m sc_rounds b rfl fun _ _ _ _ _ _ hr => b_rounds T hr
set_option maxHeartbeats 0 in
theorem b_comes_again (T : Fx w K mg) {a : Addr} {cdv : Value} {A : Around} {outer : List Env} {s : Shared} {H : Hp} {E : XK} (hr : Room 2 (A.deeper (envOfC "comes_again" (defScope st_comes_again) s.heap.objs.size a cdv))) : PSs (cxOf CX0 P w K mg base N_comes_again "comes_again" (defScope st_comes_again) a cdv A outer s H E).nox (defBody st_comes_again) (sV w K noE [] [] false m_comes_again) :=
  (s_cons (O1 := []) (s_ex (v_fn (c_check_rule T) hr pass0 wish0 (a_cons (v_nm 0) (a_cons v_int a_nil)))) (s_cons (O1 := []) (s_ex (v_fn (c_check_board T) hr pass0 wish0 (a_cons (v_nm 1) a_nil))) (s_cons (O1 := [2]) (s_setO (O' := [2]) 2 sc_comes_again.nd (o_lst a_nil)) (s_cons (O1 := [2]) (s_set (O' := [2]) 3 sc_comes_again.nd (v_nm 1)) (s_cons (O1 := [2]) (s_while FU PassesOwn.never (w_look (w_cmp (d_nin (hu65 hr)) (v_nm 3) (v_nm 2))) (s_cons (O1 := [2]) (s_app 2 (v_nm 3)) (s_one (s_set (O' := [2]) 3 sc_comes_again.nd (v_fn (c_step T) hr pass0 wish0 (a_cons (v_nm 0) (a_cons (v_nm 3) a_nil))))))) (s_frz (O1 := []) (s_one (s_ret (v_tup (a_cons (v_index (hu65 hr) (v_nm 2) (v_nm 3)) (a_cons (v_op d_sub (v_cb c_len T.b_len (a_cons (v_nm 2) a_nil)) (v_index (hu65 hr) (v_nm 2) (v_nm 3))) a_nil)))))))))))
theorem c_comes_again (T : Fx w K mg) : Cal P w K mg base CX0 cl0 3 "comes_again" 2 false f_comes_again := by
  obtain ⟨a, fd, F, m, b⟩ := T.g_comes_again.ex
  exact cal_of F m sc_comes_again b rfl fun _ _ _ _ _ _ hr => b_comes_again T hr
set_option maxHeartbeats 0 in
theorem b_before (T : Fx w K mg) {a : Addr} {cdv : Value} {A : Around} {outer : List Env} {s : Shared} {H : Hp} {E : XK} (hr : Room 2 (A.deeper (envOfC "before" (defScope st_before) s.heap.objs.size a cdv))) : PSs (cxOf CX0 P w K mg base N_before "before" (defScope st_before) a cdv A outer s H E).nox (defBody st_before) (sV w K noE [] [] true m_before) :=
  (s_cons (O1 := []) (s_ex (v_fn (c_check_rule T) hr pass0 wish0 (a_cons (v_nm 0) (a_cons v_int a_nil)))) (s_cons (O1 := []) (s_ex (v_fn (c_check_board T) hr pass0 wish0 (a_cons (v_nm 1) a_nil))) (s_one (s_retO (o_lc [("told", 2)] rfl sc_before.nd (i_lst (v_fn (c_boards_of T) hr pass0 wish0 (a_cons (v_cb c_len T.b_len (a_cons (v_nm 1) a_nil)) a_nil))) (blkOk_by (N := N_before) (sc := (defScope st_before)) (by decide +kernel)) (fun _ _ _ _ _ => (g_nm 2 sc_before.nd)) (fun _ _ _ _ _ => t_one (w_cmp (d_eq (hu64 hr)) (v_fn (c_step T) hr pass0 wish0 (a_cons (v_nm 0) (a_cons (v_nm 2) a_nil))) (v_nm 1))) (fun _ _ _ _ _ => (v_nm 2)))))))
theorem c_before (T : Fx w K mg) : Cal P w K mg base CX0 cl0 3 "before" 2 true f_before := by
  obtain ⟨a, fd, F, m, b⟩ := T.g_before.ex
  exact cal_of F m sc_before b rfl fun _ _ _ _ _ _ hr => b_before T hr
set_option maxHeartbeats 0 in
theorem b_is_open (T : Fx w K mg) {a : Addr} {cdv : Value} {A : Around} {outer : List Env} {s : Shared} {H : Hp} {E : XK} (hr : Room 2 (A.deeper (envOfC "is_open" (defScope st_is_open) s.heap.objs.size a cdv))) : PSs (cxOf CX0 P w K mg base N_is_open "is_open" (defScope st_is_open) a cdv A outer s H E).nox (defBody st_is_open) (sV w K noE [] [] false m_is_open) :=
  (s_cons (O1 := []) (s_ex (v_fn (c_check_rule T) hr pass0 wish0 (a_cons (v_nm 0) (a_cons v_int a_nil)))) (s_cons (O1 := []) (s_ex (v_fn (c_check_range_rounds T) hr pass0 wish0 (a_cons (v_nm 1) (a_cons v_int (a_cons (v_kon T.k_MOST_CELLS) a_nil))))) (s_cons (O1 := []) (s_set (O' := []) 2 sc_is_open.nd (v_fn (c_boards_of T) hr pass0 wish0 (a_cons (v_nm 1) a_nil))) (s_one (s_ret (v_cmp (d_eq (hu64 hr)) (v_lenset T.b_len T.b_set rfl (v_own (o_lc [("board", 3)] rfl sc_is_open.nd (i_lst (v_nm 2)) (blkOk_by (N := N_is_open) (sc := (defScope st_is_open)) (by decide +kernel)) (fun _ _ _ _ _ => (g_nm 3 sc_is_open.nd)) (fun _ _ _ _ _ => t_no) (fun _ _ _ _ _ => (v_fn (c_step T) hr pass0 wish0 (a_cons (v_nm 0) (a_cons (v_nm 3) a_nil))))))) (v_cb c_len T.b_len (a_cons (v_nm 2) a_nil))))))))
theorem c_is_open (T : Fx w K mg) : Cal P w K mg base CX0 cl0 3 "is_open" 2 false f_is_open := by
  obtain ⟨a, fd, F, m, b⟩ := T.g_is_open.ex
  exact cal_of F m sc_is_open b rfl fun _ _ _ _ _ _ hr => b_is_open T hr
set_option maxHeartbeats 0 in
theorem b_keeps (T : Fx w K mg) {a : Addr} {cdv : Value} {A : Around} {outer : List Env} {s : Shared} {H : Hp} {E : XK} (hr : Room 2 (A.deeper (envOfC "keeps" (defScope st_keeps) s.heap.objs.size a cdv))) : PSs (cxOf CX0 P w K mg base N_keeps "keeps" (defScope st_keeps) a cdv A outer s H E).nox (defBody st_keeps) (sV w K noE [] [] false m_keeps) :=
  (s_cons (O1 := []) (s_ex (v_fn (c_check_rule T) hr pass0 wish0 (a_cons (v_nm 0) (a_cons v_int a_nil)))) (s_cons (O1 := []) (s_ex (v_fn (c_check_range_rounds T) hr pass0 wish0 (a_cons (v_nm 1) (a_cons v_int (a_cons (v_kon T.k_MOST_CELLS) a_nil))))) (s_one (s_ret (v_cb (c_all rfl) T.b_all (a_cons (v_own (o_lc [("board", 2)] rfl sc_keeps.nd (i_lst (v_fn (c_boards_of T) hr pass0 wish0 (a_cons (v_nm 1) a_nil))) (blkOk_by (N := N_keeps) (sc := (defScope st_keeps)) (by decide +kernel)) (fun _ _ _ _ _ => (g_nm 2 sc_keeps.nd)) (fun _ _ _ _ _ => t_no) (fun _ _ _ _ _ => (v_cmp (d_eq (hu64 hr)) (v_count (v_fn (c_step T) hr pass0 wish0 (a_cons (v_nm 0) (a_cons (v_nm 2) a_nil))) (v_kon T.k_TAKEN)) (v_count (v_nm 2) (v_kon T.k_TAKEN)))))) a_nil))))))
theorem c_keeps (T : Fx w K mg) : Cal P w K mg base CX0 cl0 3 "keeps" 2 false f_keeps := by
  obtain ⟨a, fd, F, m, b⟩ := T.g_keeps.ex
  exact cal_of F m sc_keeps b rfl fun _ _ _ _ _ _ hr => b_keeps T hr
set_option maxHeartbeats 0 in
theorem b_mirrored (T : Fx w K mg) {a : Addr} {cdv : Value} {A : Around} {outer : List Env} {s : Shared} {H : Hp} {E : XK} (hr : Room 2 (A.deeper (envOfC "mirrored" (defScope st_mirrored) s.heap.objs.size a cdv))) : PSs (cxOf CX0 P w K mg base N_mirrored "mirrored" (defScope st_mirrored) a cdv A outer s H E).nox (defBody st_mirrored) (sV w K noE [] [] false m_mirrored) :=
  (s_cons (O1 := []) (s_ex (v_fn (c_check_rule T) hr pass0 wish0 (a_cons (v_nm 0) (a_cons v_int a_nil)))) (s_one (s_ret (v_join v_str (v_own (o_lc [("k", 1)] rfl sc_mirrored.nd (i_rg1 T.b_range (a_cons (v_kon T.k_SIZE) a_nil)) (blkOk_by (N := N_mirrored) (sc := (defScope st_mirrored)) (by decide +kernel)) (fun _ _ _ _ _ => (g_nm 1 sc_mirrored.nd)) (fun _ _ _ _ _ => t_no) (fun _ _ _ _ _ => (v_ix d_ix (v_nm 0) (v_op d_add (v_op d_add (v_op d_fdiv (v_nm 1) v_int) (v_op d_mul (v_op d_mod (v_op d_fdiv (v_nm 1) v_int) v_int) v_int)) (v_op d_mul (v_op d_mod (v_nm 1) v_int) v_int))))))))))
theorem c_mirrored (T : Fx w K mg) : Cal P w K mg base CX0 cl0 3 "mirrored" 1 false f_mirrored := by
  obtain ⟨a, fd, F, m, b⟩ := T.g_mirrored.ex
  exact cal_of F m sc_mirrored b rfl fun _ _ _ _ _ _ hr => b_mirrored T hr
set_option maxHeartbeats 0 in
theorem b_check_two (T : Fx w K mg) {a : Addr} {cdv : Value} {A : Around} {outer : List Env} {s : Shared} {H : Hp} {E : XK} (hr : Room 2 (A.deeper (envOfC "check_two" (defScope st_check_two) s.heap.objs.size a cdv))) : PSs (cxOf CX0 P w K mg base N_check_two "check_two" (defScope st_check_two) a cdv A outer s H E).nox (defBody st_check_two) (sV w K noE [] [] false m_check_two) :=
  (s_cons (O1 := []) (s_ex (v_fn (c_check_rule T) hr pass0 wish0 (a_cons (v_nm 0) (a_cons v_int a_nil)))) (s_one (s_ex (v_fn (c_check_rule T) hr pass0 wish0 (a_cons (v_nm 1) (a_cons v_int a_nil))))))
theorem c_check_two (T : Fx w K mg) : Cal P w K mg base CX0 cl0 3 "check_two" 2 false f_check_two := by
  obtain ⟨a, fd, F, m, b⟩ := T.g_check_two.ex
  exact cal_of F m sc_check_two b rfl fun _ _ _ _ _ _ hr => b_check_two T hr
set_option maxHeartbeats 0 in
theorem b_tilted (T : Fx w K mg) {a : Addr} {cdv : Value} {A : Around} {outer : List Env} {s : Shared} {H : Hp} {E : XK} (hr : Room 2 (A.deeper (envOfC "tilted" (defScope st_tilted) s.heap.objs.size a cdv))) : PSs (cxOf CX0 P w K mg base N_tilted "tilted" (defScope st_tilted) a cdv A outer s H E).nox (defBody st_tilted) (sV w K noE [] [] false m_tilted) :=
  (s_cons (O1 := []) (s_ex (v_fn (c_check_shelf T) hr pass0 wish0 (a_cons (v_nm 0) a_nil))) (s_one (s_ret (v_fn (c_tilt_of T) hr pass0 wish0 (a_cons (v_nm 0) a_nil)))))
theorem c_tilted (T : Fx w K mg) : Cal P w K mg base CX0 cl0 3 "tilted" 1 false f_tilted := by
  obtain ⟨a, fd, F, m, b⟩ := T.g_tilted.ex
  exact cal_of F m sc_tilted b rfl fun _ _ _ _ _ _ hr => b_tilted T hr
set_option maxHeartbeats 0 in
theorem b_coins (T : Fx w K mg) {a : Addr} {cdv : Value} {A : Around} {outer : List Env} {s : Shared} {H : Hp} {E : XK} (hr : Room 2 (A.deeper (envOfC "coins" (defScope st_coins) s.heap.objs.size a cdv))) : PSs (cxOf CX0 P w K mg base N_coins "coins" (defScope st_coins) a cdv A outer s H E).nox (defBody st_coins) (sV w K noE [] [] false m_coins) :=
  (s_cons (O1 := []) (s_ex (v_fn (c_check_shelf T) hr pass0 wish0 (a_cons (v_nm 0) a_nil))) (s_one (s_ret (v_cb (c_sum rfl) T.b_sum (a_cons (v_own (o_lc [("row", 1)] rfl sc_coins.nd (i_lst (v_nm 0)) (blkOk_by (N := N_coins) (sc := (defScope st_coins)) (by decide +kernel)) (fun _ _ _ _ _ => (g_nm 1 sc_coins.nd)) (fun _ _ _ _ _ => t_no) (fun _ _ _ _ _ => (v_count (v_nm 1) (v_kon T.k_COIN))))) a_nil)))))
theorem c_coins (T : Fx w K mg) : Cal P w K mg base CX0 cl0 3 "coins" 1 false f_coins := by
  obtain ⟨a, fd, F, m, b⟩ := T.g_coins.ex
  exact cal_of F m sc_coins b rfl fun _ _ _ _ _ _ hr => b_coins T hr
set_option maxHeartbeats 0 in
theorem b_check_row (T : Fx w K mg) {a : Addr} {cdv : Value} {A : Around} {outer : List Env} {s : Shared} {H : Hp} {E : XK} (hr : Room 2 (A.deeper (envOfC "check_row" (defScope st_check_row) s.heap.objs.size a cdv))) : PSs (cxOf CX0 P w K mg base N_check_row "check_row" (defScope st_check_row) a cdv A outer s H E).nox (defBody st_check_row) (sV w K noE [] [] false m_check_row) :=
  (s_cons (O1 := []) (s_ex (v_fn (c_check_lights T) hr pass0 wish0 (a_cons (v_nm 0) a_nil))) (s_cons (O1 := []) (s_if (w_cmp d_gt (v_cb c_len T.b_len (a_cons (v_nm 1) a_nil)) (v_kon T.k_MOST_ROW)) (s_one s_nev) s_nil) (s_one (s_for PassesOwn.never rfl (i_en T.b_enumerate (a_cons (v_nm 1) a_nil)) (g_tup rfl (gs_cons (g_nm 2 sc_check_row.nd) (gs_cons (g_nm 3 sc_check_row.nd) gs_nil))) (s_one (s_if (w_not (w_ch op_le op_lt v_int (v_nm 3) (v_nm 0))) (s_one s_nev) s_nil))))))
theorem c_check_row (T : Fx w K mg) : Cal P w K mg base CX0 cl0 3 "check_row" 2 false f_check_row := by
  obtain ⟨a, fd, F, m, b⟩ := T.g_check_row.ex
  exact cal_of F m sc_check_row b rfl fun _ _ _ _ _ _ hr => b_check_row T hr
set_option maxHeartbeats 0 in
theorem b_check_play (T : Fx w K mg) {a : Addr} {cdv : Value} {A : Around} {outer : List Env} {s : Shared} {H : Hp} {E : XK} (hr : Room 3 (A.deeper (envOfC "check_play" (defScope st_check_play) s.heap.objs.size a cdv))) : PSs (cxOf CX0 P w K mg base N_check_play "check_play" (defScope st_check_play) a cdv A outer s H E).nox (defBody st_check_play) (sV w K noE [] [] false m_check_play) :=
  (s_cons (O1 := []) (s_ex (v_fn (c_check_two T) hr pass0 wish0 (a_cons (v_nm 0) (a_cons (v_nm 1) a_nil)))) (s_cons (O1 := []) (s_ex (v_fn (c_check_board T) hr pass0 wish0 (a_cons (v_nm 2) a_nil))) (s_one (s_ex (v_fn (c_check_range_rounds T) hr pass0 wish0 (a_cons (v_nm 3) (a_cons v_int (a_cons (v_kon T.k_MOST_ROUNDS) a_nil))))))))
theorem c_check_play (T : Fx w K mg) : Cal P w K mg base CX0 cl0 4 "check_play" 4 false f_check_play := by
  obtain ⟨a, fd, F, m, b⟩ := T.g_check_play.ex
  exact cal_of F m sc_check_play b rfl fun _ _ _ _ _ _ hr => b_check_play T hr
set_option maxHeartbeats 0 in
theorem b_least_period (T : Fx w K mg) {a : Addr} {cdv : Value} {A : Around} {outer : List Env} {s : Shared} {H : Hp} {E : XK} (hr : Room 3 (A.deeper (envOfC "least_period" (defScope st_least_period) s.heap.objs.size a cdv))) : PSs (cxOf CX0 P w K mg base N_least_period "least_period" (defScope st_least_period) a cdv A outer s H E).nox (defBody st_least_period) (sV w K noE [] [] false m_least_period) :=
  (s_cons (O1 := []) (s_ex (v_fn (c_check_row T) hr pass0 wish0 (a_cons (v_nm 0) (a_cons (v_nm 1) a_nil)))) (s_cons (O1 := []) (s_for PassesOwn.never rfl (i_rg2 T.b_range (a_cons v_int (a_cons (v_cb c_len T.b_len (a_cons (v_nm 1) a_nil)) a_nil))) (g_nm 2 sc_least_period.nd) (s_one (s_if (w_val (v_cb (c_all rfl) T.b_all (a_cons (v_own (o_lc [("k", 3)] rfl sc_least_period.nd (i_rg1 T.b_range (a_cons (v_op d_sub (v_cb c_len T.b_len (a_cons (v_nm 1) a_nil)) (v_nm 2)) a_nil)) (blkOk_by (N := N_least_period) (sc := (defScope st_least_period)) (by decide +kernel)) (fun _ _ _ _ _ => (g_nm 3 sc_least_period.nd)) (fun _ _ _ _ _ => t_no) (fun _ _ _ _ _ => (v_cmp (d_eq (hu64 hr)) (v_ix d_ix (v_nm 1) (v_nm 3)) (v_ix d_ix (v_nm 1) (v_op d_add (v_nm 3) (v_nm 2))))))) a_nil))) (s_one (s_ret (v_nm 2))) s_nil))) (s_one (s_ret (v_cb c_len T.b_len (a_cons (v_nm 1) a_nil))))))
theorem c_least_period (T : Fx w K mg) : Cal P w K mg base CX0 cl0 4 "least_period" 2 false f_least_period := by
  obtain ⟨a, fd, F, m, b⟩ := T.g_least_period.ex
  exact cal_of F m sc_least_period b rfl fun _ _ _ _ _ _ hr => b_least_period T hr
set_option maxHeartbeats 0 in
theorem b_played (T : Fx w K mg) {a : Addr} {cdv : Value} {A : Around} {outer : List Env} {s : Shared} {H : Hp} {E : XK} (hr : Room 4 (A.deeper (envOfC "played" (defScope st_played) s.heap.objs.size a cdv))) : PSs (cxOf CX0 P w K mg base N_played "played" (defScope st_played) a cdv A outer s H E).nox (defBody st_played) (sV w K noE [] [] false m_played) :=
  (s_cons (O1 := []) (s_ex (v_fn (c_check_play T) hr pass0 wish0 (a_cons (v_nm 0) (a_cons (v_nm 1) (a_cons (v_nm 2) (a_cons (v_nm 3) a_nil)))))) (s_one (s_ret (v_fn (c_behind T) hr pass0 wish0 (a_cons (v_nm 0) (a_cons (v_nm 1) (a_cons (v_nm 2) (a_cons (v_nm 3) a_nil))))))))
theorem c_played (T : Fx w K mg) : Cal P w K mg base CX0 cl0 5 "played" 4 false f_played := by
  obtain ⟨a, fd, F, m, b⟩ := T.g_played.ex
  exact cal_of F m sc_played b rfl fun _ _ _ _ _ _ hr => b_played T hr
set_option maxHeartbeats 0 in
theorem b_has (T : Fx w K mg) {a : Addr} {cdv : Value} {A : Around} {outer : List Env} {s : Shared} {H : Hp} {E : XK} (hr : Room 4 (A.deeper (envOfC "has" (defScope st_has) s.heap.objs.size a cdv))) : PSs (cxOf CX0 P w K mg base N_has "has" (defScope st_has) a cdv A outer s H E).nox (defBody st_has) (sV w K noE [] [] false m_has) :=
  (s_cons (O1 := []) (s_ex (v_fn (c_check_play T) hr pass0 wish0 (a_cons (v_nm 0) (a_cons (v_nm 1) (a_cons (v_nm 2) (a_cons (v_nm 3) a_nil)))))) (s_cons (O1 := []) (s_set (O' := []) 4 sc_has.nd (v_count (v_fn (c_behind T) hr pass0 wish0 (a_cons (v_nm 0) (a_cons (v_nm 1) (a_cons (v_nm 2) (a_cons (v_nm 3) a_nil))))) (v_kon T.k_TAKEN))) (s_one (s_ret (v_tup (a_cons (v_nm 4) (a_cons (v_op d_sub (v_cb c_len T.b_len (a_cons (v_nm 2) a_nil)) (v_nm 4)) a_nil)))))))
theorem c_has (T : Fx w K mg) : Cal P w K mg base CX0 cl0 5 "has" 4 false f_has := by
  obtain ⟨a, fd, F, m, b⟩ := T.g_has.ex
  exact cal_of F m sc_has b rfl fun _ _ _ _ _ _ hr => b_has T hr
set_option maxHeartbeats 0 in
theorem b_law (T : Fx w K mg) {a : Addr} {cdv : Value} {A : Around} {outer : List Env} {s : Shared} {H : Hp} {E : XK} (hr : Room 5 (A.deeper (envOfC "law" (defScope st_law) s.heap.objs.size a cdv))) : PSs (cxOf CX0 P w K mg base N_law "law" (defScope st_law) a cdv A outer s H E).nox (defBody st_law) (sV w K noE [] [] false m_law) :=
  (s_cons (O1 := []) (s_set (O' := []) 1 sc_law.nd (v_own (o_fn (c__law_draws T) hr pass0 wish0 (a_cons (v_nm 0) a_nil)))) (s_cons (O1 := []) (s_set (O' := []) 2 sc_law.nd v_str) (s_cons (O1 := []) (s_set (O' := []) 3 sc_law.nd (v_fn (c_mirrored T) hr pass0 wish0 (a_cons (v_nm 2) a_nil))) (s_cons (O1 := []) (s_if (w_cmp (d_ne (hu64 hr)) (v_nm 3) v_str) (s_one (s_ret v_bl)) s_nil) (s_cons (O1 := []) (s_for PassesOwn.never rfl (i_rg1 T.b_range (a_cons v_int a_nil)) (g_nm 4 sc_law.nd) (s_cons (O1 := []) (s_set (O' := []) 5 sc_law.nd (v_op d_add v_int (v_op d_mul v_int (v_nm 4)))) (s_cons (O1 := []) (s_set (O' := []) 6 sc_law.nd (v_op d_add v_int (v_fn (c__law_mix T) hr pass0 wish0 (a_cons (v_nm 1) (a_cons (v_nm 5) (a_cons v_int a_nil)))))) (s_cons (O1 := []) (s_set (O' := []) 7 sc_law.nd (v_join v_str (v_own (o_lc [("t", 15)] rfl sc_law.nd (i_rg1 T.b_range (a_cons (v_nm 6) a_nil)) (blkOk_by (N := N_law) (sc := (defScope st_law)) (by decide +kernel)) (fun _ _ _ _ _ => (g_nm 15 sc_law.nd)) (fun _ _ _ _ _ => t_no) (fun _ _ _ _ _ => (v_ix d_ix v_str (v_fn (c__law_mix T) hr pass0 wish0 (a_cons (v_nm 1) (a_cons (v_op d_add (v_op d_add (v_nm 5) v_int) (v_nm 15)) (a_cons v_int a_nil)))))))))) (s_cons (O1 := []) (s_lcV (O' := []) 8 [("sign", 14)] rfl sc_law.nd (i_str (v_nm 7)) (blkOk_by (N := N_law) (sc := (defScope st_law)) (by decide +kernel)) (fun _ _ _ _ _ => (g_nm 14 sc_law.nd)) (fun _ _ _ _ _ => t_no) (fun _ _ _ _ _ => (v_ct c_int T.b_int (a_cons (v_cmp (d_eq (hu64 hr)) (v_nm 14) v_str) a_nil)))) (s_cons (O1 := []) (s_set (O' := []) 9 sc_law.nd (v_fn (c_least_period T) hr pass0 wish0 (a_cons v_int (a_cons (v_op d_add (v_nm 8) (v_nm 8)) a_nil)))) (s_cons (O1 := []) (s_if (w_or (w_cmp (d_ne (hu64 hr)) (v_fn (c_comes_again T) hr pass0 wish0 (a_cons (v_nm 2) (a_cons (v_nm 7) a_nil))) (v_tup (a_cons v_int (a_cons (v_nm 9) a_nil)))) (w_or (w_cmp (d_ne (hu64 hr)) (v_fn (c_comes_again T) hr pass0 wish0 (a_cons (v_nm 3) (a_cons (v_nm 7) a_nil))) (v_tup (a_cons v_int (a_cons (v_nm 9) a_nil)))) (w_or1 (w_cmp (d_ne (hu64 hr)) (v_op d_mod (v_ct c_int T.b_int (a_cons (v_nm 6) a_nil)) (v_nm 9)) v_int)))).pt (s_one (s_ret v_bl)) s_nil) (s_cons (O1 := []) (s_if (w_or (w_cmp (d_ne (hu64 hr)) (v_fn (c_round_of T) hr pass0 wish0 (a_cons (v_nm 2) (a_cons (v_nm 7) a_nil))) (v_op d_add (v_sl d_sl (v_nm 7) (p_so (v_op d_sub (v_nm 6) v_int)) p_no) (v_sl d_sl (v_nm 7) p_no (p_so (v_op d_sub (v_nm 6) v_int))))) (w_or1 (w_cmp (d_ne (hu64 hr)) (v_fn (c_round_of T) hr pass0 wish0 (a_cons (v_nm 3) (a_cons (v_fn (c_round_of T) hr pass0 wish0 (a_cons (v_nm 2) (a_cons (v_nm 7) a_nil))) a_nil))) (v_nm 7)))).pt (s_one (s_ret v_bl)) s_nil) (s_cons (O1 := []) (s_if (w_or (w_cmp d_isnb (v_fn (c_is_open T) hr pass0 wish0 (a_cons (v_nm 2) (a_cons (v_nm 6) a_nil))) v_bl) (w_or (w_cmp d_isnb (v_fn (c_keeps T) hr pass0 wish0 (a_cons (v_nm 2) (a_cons (v_nm 6) a_nil))) v_bl) (w_or1 (w_cmp (d_ne (hu64 hr)) (v_own (o_fn (c_before T) hr pass0 wish0 (a_cons (v_nm 2) (a_cons (v_nm 7) a_nil)))) (v_own (o_lst (a_cons (v_fn (c_round_of T) hr pass0 wish0 (a_cons (v_nm 3) (a_cons (v_nm 7) a_nil))) a_nil))))))).pt (s_one (s_ret v_bl)) s_nil) (s_cons (O1 := []) (s_set (O' := []) 10 sc_law.nd (v_fn (c__law_mix T) hr pass0 wish0 (a_cons (v_nm 1) (a_cons (v_op d_add (v_nm 5) v_int) (a_cons v_int a_nil))))) (s_cons (O1 := []) (s_if (w_or (w_cmp (d_ne (hu64 hr)) (v_fn (c_played T) hr pass0 wish0 (a_cons (v_nm 2) (a_cons (v_nm 3) (a_cons (v_nm 7) (a_cons (v_op d_mul v_int (v_nm 10)) a_nil))))) (v_nm 7)) (w_or1 (w_cmp (d_ne (hu64 hr)) (v_fn (c_has T) hr pass0 wish0 (a_cons (v_nm 2) (a_cons (v_nm 2) (a_cons (v_nm 7) (a_cons (v_nm 10) a_nil))))) (v_tup (a_cons (v_count (v_nm 7) v_str) (a_cons (v_count (v_nm 7) v_str) a_nil)))))).pt (s_one (s_ret v_bl)) s_nil) (s_cons (O1 := []) (s_if (w_or (w_cmp (d_ne (hu64 hr)) (v_cb c_len T.b_len (a_cons (v_own (o_fn (c_rounds T) hr pass0 wish0 (a_cons (v_nm 2) (a_cons (v_nm 7) (a_cons (v_nm 10) a_nil))))) a_nil)) (v_nm 10)) (w_or1 (w_and (w_cmp d_gt (v_nm 10) v_int) (w_and1 (w_cmp (d_ne (hu64 hr)) (v_fn (c_played T) hr pass0 wish0 (a_cons (v_nm 2) (a_cons (v_nm 2) (a_cons (v_nm 7) (a_cons (v_nm 10) a_nil))))) (v_ix d_ix (v_own (o_fn (c_rounds T) hr pass0 wish0 (a_cons (v_nm 2) (a_cons (v_nm 7) (a_cons (v_nm 10) a_nil))))) v_negc)))).pt)).pt (s_one (s_ret v_bl)) s_nil) (s_cons (O1 := []) (s_lcV (O' := []) 11 [("sign", 14)] rfl sc_law.nd (i_str (v_nm 7)) (blkOk_by (N := N_law) (sc := (defScope st_law)) (by decide +kernel)) (fun _ _ _ _ _ => (g_nm 14 sc_law.nd)) (fun _ _ _ _ _ => t_no) (fun _ _ _ _ _ => (v_ix d_ix v_str (v_ct c_int T.b_int (a_cons (v_cmp (d_eq (hu64 hr)) (v_nm 14) v_str) a_nil))))) (s_cons (O1 := []) (s_tg (v_fn (c_tilted T) hr pass0 wish0 (a_cons (v_nm 11) a_nil)) (g_tup rfl (gs_cons (g_nm 12 sc_law.nd) (gs_cons (g_nm 13 sc_law.nd) gs_nil)))) (s_cons (O1 := []) (s_if (w_or (w_cmp (d_ne (hu64 hr)) (v_nm 13) (v_ct c_int T.b_int (a_cons (v_cmp (d_eq (hu64 hr)) (v_ix d_ix (v_nm 7) v_negc) v_str) a_nil))) (w_or1 (w_cmp (d_ne (hu64 hr)) (v_fn (c_coins T) hr pass0 wish0 (a_cons (v_nm 12) a_nil)) (v_op d_sub (v_count (v_nm 7) v_str) (v_nm 13))))).pt (s_one (s_ret v_bl)) s_nil) (s_one (s_if (w_and (w_cmp (d_eq (hu64 hr)) (v_ix d_ix (v_nm 7) v_negc) v_str) (w_and1 (w_cmp (d_ne (hu64 hr)) (v_nm 12) (v_own (o_lc [("sign", 14)] rfl sc_law.nd (i_str (v_fn (c_round_of T) hr pass0 wish0 (a_cons (v_nm 2) (a_cons (v_nm 7) a_nil)))) (blkOk_by (N := N_law) (sc := (defScope st_law)) (by decide +kernel)) (fun _ _ _ _ _ => (g_nm 14 sc_law.nd)) (fun _ _ _ _ _ => t_no) (fun _ _ _ _ _ => (v_ix d_ix v_str (v_ct c_int T.b_int (a_cons (v_cmp (d_eq (hu64 hr)) (v_nm 14) v_str) a_nil))))))))).pt (s_one (s_ret v_bl)) s_nil))))))))))))))))) (s_one (s_ret v_bl)))))))
theorem c_law (T : Fx w K mg) : Cal P w K mg base CX0 cl0 6 "law" 1 false f_law := by
  obtain ⟨a, fd, F, m, b⟩ := T.g_law.ex
  exact cal_of F m sc_law b rfl fun _ _ _ _ _ _ hr => b_law T hr
theorem o_law (T : Fx w K mg) {a : Addr} {fd : FuncData} (F : Fun K "law" "law" st_law a fd) : FnOk P w K mg base CX0 6 a fd ["script"] (spD w K cl0 1 false f_law) :=
  fnok_of F sc_law rfl fun _ _ _ _ _ _ hr => b_law T hr
end
end Gk94

set_option Elab.async false
set_option linter.all false
set_option maxRecDepth 100000
namespace Gk94
open PySem PySem.Spec PyProof.Rows L2 Vs
/-! ### signs -/
def sg (b : Bool) : Nat := if b then 35 else 46
def tb (b : List Bool) : D := .str (tx (b.map sg))
theorem kT : kv_TAKEN = .str (tx [35]) := rfl
theorem kS : kv_SIGNS = .str (tx [46, 35]) := rfl
theorem sg_eq (x : Bool) : eqD (.str (tx [sg x])) kv_TAKEN = .ok (.bool x) := by
  rw [kT, eq_tx]; cases x <;> rfl
theorem sg_in (x : Bool) : inD (.str (tx [sg x])) kv_SIGNS = .ok (.bool true) := by
  rw [kS, in_tx]; cases x <;> rfl
def tn (b : Bool) : Nat := if b then 1 else 0
def stepB (r b : List Bool) : List Bool := (List.range b.length).map fun k => r.getD (4 * tn (b.getD ((k + (b.length - 1)) % b.length) false) + 2 * tn (b.getD k false) + tn (b.getD ((k + 1) % b.length) false)) false
theorem atI_cyc {α : Type} {l : List α} {i : Int} {j : Nat} (h : j < l.length) (e : i = j ∨ i = (j : Int) - l.length) : atI l i = some l[j] := by
  unfold atI
  have : ixN l.length i = some j := by
    unfold ixN
    rcases e with e | e
    · rw [if_pos (by omega), if_pos (by omega)]; congr 1; omega
    · rw [if_neg (by omega), if_pos (by omega)]; congr 1; omega
  rw [this]
  exact List.getElem?_eq_getElem h
theorem atI_map {α β : Type} (f : α → β) (l : List α) (i : Int) : atI (l.map f) i = (atI l i).map f := by
  unfold atI
  rw [List.length_map]
  cases ixN l.length i with
  | none => rfl
  | some j => exact List.getElem?_map
theorem ix_tb {b : List Bool} {i : Int} {x : Bool} (h : b.length ≤ 1000) (e : atI b i = some x) : ixD (tb b) (.int i) = .ok (.str (tx [sg x])) := by
  refine ix_tx (by rw [List.length_map]; omega) ?_
  rw [atI_map, e]
  rfl
theorem b0_ok {r : Int} {x : Bool} {a0 a1 a2 a3 a4 a5 : Option D} : m_step_b0 [a0, a1, a2, a3, a4, a5, some (.int r), some (.str (tx [sg x]))] = .ok (.nx [a0, a1, a2, a3, a4, a5, some (.int (2 * r + tn x)), some (.str (tx [sg x]))]) := by
  simp -implicitDefEqProofs only [app1, app2, gN_ok, gO_ok, arg0, seq_eq, okb, setD, gv, gl_is, List.map_cons, List.map_nil, List.length_cons, List.length_nil, List.replicate, List.cons_append, List.nil_append, List.set_cons_succ, List.set_cons_zero, List.getElem?_cons_succ, List.getElem?_cons_zero, add_ii, sub_ii, mul_r, mul_l, mod_i, fdiv_i, lenD_l, lenD_t, lenD_scr, intD_i, intD_b, asB_b, lt_ii, le_ii, gt_ii, ge_ii, eq_ii, ne_ii, asI_i, itL_l, itT_t, noX_ok, fnD_is, ite_true, ite_false, Bool.false_eq_true, decide_true, decide_false, Nat.reduceAdd, Nat.reduceSub, reduceIte, tgN_is, min2_ii, max2_ii, abs_i, rg1_i, rg2_i, opt_s, ret_rt, retf_nx, and_self, true_and, and_true, or_true, true_or, not_true_eq_false, not_false_eq_true, Bool.not_true, Bool.not_false, Int.reduceLT, Int.reduceLE, Int.reduceNeg, Int.reducePow, Int.reduceAdd, Int.reduceSub, Int.reduceMul, Int.reduceMod, Int.reduceDiv, Int.reduceEq, Int.reduceNe, Nat.reduceLT, Nat.reduceLeDiff, Nat.reduceMul, Nat.reduceEqDiff, Int.reduceToNat, m_step_b0, sg_eq]
  cases x <;> rfl
theorem stepB_len (r b : List Bool) : (stepB r b).length = b.length := by
  unfold stepB; rw [List.length_map, List.length_range]
theorem step_ok {r b : List Bool} (hr : r.length = 8) (h1 : 1 ≤ b.length) (h8 : b.length ≤ 8) : f_step [tb r, tb b] = .ok (tb (stepB r b)) := by
  have hlen : lenD [tb b] = .ok (.int b.length) := by
    unfold tb; rw [len_tx (by rw [List.length_map]; omega), List.length_map]
  have loop := for_rel (tg := tgN 4) (fb := m_step_b1)
    (fun i ρ => ∃ a4 a5 a6 a7, ρ = [some (tb r), some (tb b), some (.int b.length), some (tb ((stepB r b).take i)), a4, a5, a6, a7]) (rgD 0 b.length) 0 [some (tb r), some (tb b), some (.int b.length), some (.str (tx [])), none, none, none, none] ⟨none, none, none, none, rfl⟩ fun i d ρ hd hI => by
      obtain ⟨hi, rfl⟩ := rg_at hd
      obtain ⟨a4, a5, a6, a7, rfl⟩ := hI
      rw [Int.zero_add, Nat.zero_add]
      have hp : (i + (b.length - 1)) % b.length < b.length := Nat.mod_lt _ (by omega)
      have hq : (i + 1) % b.length < b.length := Nat.mod_lt _ (by omega)
      have x1 : ixD (tb b) (.int ((i : Int) - 1)) = .ok (.str (tx [sg b[(i + (b.length - 1)) % b.length]])) := ix_tb (by omega) (atI_cyc hp (by
        by_cases h0 : i = 0
        · right; subst h0; rw [Nat.zero_add, Nat.mod_eq_of_lt (by omega)]; omega
        · left
          have : i + (b.length - 1) = b.length + (i - 1) := by omega
          rw [this, Nat.add_mod_left, Nat.mod_eq_of_lt (by omega)]; omega))
      have x2 : ixD (tb b) (.int (i : Int)) = .ok (.str (tx [sg b[i]])) := ix_tb (by omega) (atI_cyc hi (.inl rfl))
      have x3 : ixD (tb b) (.int (((i : Int) + 1) % b.length)) = .ok (.str (tx [sg b[(i + 1) % b.length]])) := ix_tb (by omega) (atI_cyc hq (.inl (by rw [Int.natCast_emod]; rfl)))
      have pos : (0 : Int) < b.length := by omega
      have h3 : lenOk 3 = .ok () := lenOk_i (by rw [sizeLine_eq]; decide)
      obtain ⟨v, hv⟩ : ∃ v, (stepB r b)[i]? = some v := ⟨_, List.getElem?_eq_getElem (by rw [stepB_len]; exact hi)⟩
      have x4 : ixD (tb r) (.int (2 * (2 * (0 + (tn b[(i + (b.length - 1)) % b.length] : Int)) + (tn b[i] : Int)) + (tn b[(i + 1) % b.length] : Int))) = .ok (.str (tx [sg v])) := by
        have t : ∀ x : Bool, tn x ≤ 1 := fun x => by cases x <;> decide
        have t1 := t b[(i + (b.length - 1)) % b.length]
        have t2 := t b[i]
        have t3 := t b[(i + 1) % b.length]
        refine ix_tb (by omega) ?_
        rw [atI_cyc (j := 4 * tn b[(i + (b.length - 1)) % b.length] + 2 * tn b[i] + tn b[(i + 1) % b.length]) (by omega) (.inl (by omega))]
        rw [← hv]
        unfold stepB
        simp only [List.getElem?_map, List.getElem?_range hi, Option.map_some, List.getElem_range, List.getD_eq_getElem?_getD, List.getElem?_eq_getElem hp, List.getElem?_eq_getElem hi, List.getElem?_eq_getElem hq, Option.getD_some]
        rw [List.getElem?_eq_getElem (by omega)]
        rfl
      have hle : ((stepB r b).take i).length ≤ b.length := by rw [List.length_take, stepB_len]; omega
      have x5 : addD (tb ((stepB r b).take i)) (.str (tx [sg v])) = .ok (tb ((stepB r b).take (i + 1))) := by
        unfold tb
        rw [add_tx (by rw [List.length_map, List.length_singleton]; omega), List.take_add_one, hv, List.map_append]
        rfl
      simp -implicitDefEqProofs only [app1, app2, gN_ok, gO_ok, arg0, seq_eq, okb, setD, gv, gl_is, List.map_cons, List.map_nil, List.length_cons, List.length_nil, List.replicate, List.cons_append, List.nil_append, List.set_cons_succ, List.set_cons_zero, List.getElem?_cons_succ, List.getElem?_cons_zero, add_ii, sub_ii, mul_r, mul_l, mod_i, fdiv_i, lenD_l, lenD_t, lenD_scr, intD_i, intD_b, asB_b, lt_ii, le_ii, gt_ii, ge_ii, eq_ii, ne_ii, asI_i, itL_l, itT_t, noX_ok, fnD_is, ite_true, ite_false, Bool.false_eq_true, decide_true, decide_false, Nat.reduceAdd, Nat.reduceSub, reduceIte, tgN_is, min2_ii, max2_ii, abs_i, rg1_i, rg2_i, opt_s, ret_rt, retf_nx, and_self, true_and, and_true, or_true, true_or, not_true_eq_false, not_false_eq_true, Bool.not_true, Bool.not_false, Int.reduceLT, Int.reduceLE, Int.reduceNeg, Int.reducePow, Int.reduceAdd, Int.reduceSub, Int.reduceMul, Int.reduceMod, Int.reduceDiv, Int.reduceEq, Int.reduceNe, Nat.reduceLT, Nat.reduceLeDiff, Nat.reduceMul, Nat.reduceEqDiff, Int.reduceToNat, m_step_b1, x1, x2, x3, x4, x5, pos, h3, for_is, for_nil, b0_ok]

      exact ⟨_, _, _, _, rfl⟩
  obtain ⟨ρ, e1, a4, a5, a6, a7, rfl⟩ := loop
  rw [rg_len, Nat.zero_add, List.take_of_length_le (by rw [stepB_len]; exact Nat.le_refl _)] at e1
  have hrg : rg1 [.int (b.length : Int)] = .ok (rgD 0 b.length) := rg1_i (by omega)
  unfold f_step
  have hs : (.str "" : D) = .str (tx []) := rfl
  simp -implicitDefEqProofs only [app1, app2, gN_ok, gO_ok, arg0, seq_eq, okb, setD, gv, gl_is, List.map_cons, List.map_nil, List.length_cons, List.length_nil, List.replicate, List.cons_append, List.nil_append, List.set_cons_succ, List.set_cons_zero, List.getElem?_cons_succ, List.getElem?_cons_zero, add_ii, sub_ii, mul_r, mul_l, mod_i, fdiv_i, lenD_l, lenD_t, lenD_scr, intD_i, intD_b, asB_b, lt_ii, le_ii, gt_ii, ge_ii, eq_ii, ne_ii, asI_i, itL_l, itT_t, noX_ok, fnD_is, ite_true, ite_false, Bool.false_eq_true, decide_true, decide_false, Nat.reduceAdd, Nat.reduceSub, reduceIte, tgN_is, min2_ii, max2_ii, abs_i, rg1_i, rg2_i, opt_s, ret_rt, retf_nx, and_self, true_and, and_true, or_true, true_or, not_true_eq_false, not_false_eq_true, Bool.not_true, Bool.not_false, Int.reduceLT, Int.reduceLE, Int.reduceNeg, Int.reducePow, Int.reduceAdd, Int.reduceSub, Int.reduceMul, Int.reduceMod, Int.reduceDiv, Int.reduceEq, Int.reduceNe, Nat.reduceLT, Nat.reduceLeDiff, Nat.reduceMul, Nat.reduceEqDiff, Int.reduceToNat, m_step, hlen, hrg, hs, e1]

/-! ### the two rules -/
def R1 : List Bool := [false, false, false, false, true, true, true, true]
def R2 : List Bool := [false, true, false, true, false, true, false, true]
def rotR (b : List Bool) : List Bool := b.drop (b.length - 1) ++ b.take (b.length - 1)
def rotL (b : List Bool) : List Bool := b.drop 1 ++ b.take 1
def allB : Nat → List (List Bool)
  | 0 => [[]]
  | n + 1 => (allB n).flatMap fun t => [t ++ [true], t ++ [false]]
theorem mem_allB : ∀ (n : Nat) (b : List Bool), b.length = n → b ∈ allB n
  | 0, b, h => by rw [List.length_eq_zero_iff.mp h]; exact List.mem_singleton.mpr rfl
  | n + 1, b, h => by
    have hne : b ≠ [] := fun e => by rw [e] at h; cases h
    have e := List.dropLast_concat_getLast hne
    have ih := mem_allB n b.dropLast (by rw [List.length_dropLast]; omega)
    refine List.mem_flatMap.mpr ⟨_, ih, ?_⟩
    rw [← e]
    cases b.getLast hne with
    | true => rw [List.dropLast_concat]; exact List.mem_cons_self
    | false => rw [List.dropLast_concat]; exact List.mem_cons_of_mem _ List.mem_cons_self
theorem each {p : List Bool → Bool} (h : ((List.range' 1 8).all fun n => (allB n).all p) = true) {b : List Bool} (h1 : 1 ≤ b.length) (h8 : b.length ≤ 8) : p b = true := by
  rw [List.all_eq_true] at h
  have := h b.length (List.mem_range'.mpr ⟨b.length - 1, by omega, by omega⟩)
  rw [List.all_eq_true] at this
  exact this b (mem_allB _ b rfl)
theorem step1 {b : List Bool} (h1 : 1 ≤ b.length) (h8 : b.length ≤ 8) : stepB R1 b = rotR b ∧ stepB R2 b = rotL b := by
  have := each (p := fun b => decide (stepB R1 b = rotR b ∧ stepB R2 b = rotL b)) (by decide +kernel) h1 h8
  exact of_decide_eq_true this
theorem rotR_len (b : List Bool) : (rotR b).length = b.length := by unfold rotR; rw [List.length_append, List.length_drop, List.length_take]; omega
theorem rotL_len (b : List Bool) : (rotL b).length = b.length := by unfold rotL; rw [List.length_append, List.length_drop, List.length_take]; omega
theorem stepR {b : List Bool} (h1 : 1 ≤ b.length) (h8 : b.length ≤ 8) : f_step [tb R1, tb b] = .ok (tb (rotR b)) := by rw [step_ok rfl h1 h8, (step1 h1 h8).1]
theorem stepL {b : List Bool} (h1 : 1 ≤ b.length) (h8 : b.length ≤ 8) : f_step [tb R2, tb b] = .ok (tb (rotL b)) := by rw [step_ok rfl h1 h8, (step1 h1 h8).2]
/-! ### checks -/
def isNo (r : R D) : Bool := match r with | .ok .none => true | _ => false
theorem isNo_eq {r : R D} (h : isNo r = true) : r = .ok .none := by
  unfold isNo at h
  split at h
  · rfl
  · cases h
theorem cr10 : f_check_rule [tb R1, .int 0] = .ok .none := isNo_eq (by decide +kernel)
theorem cr20 : f_check_rule [tb R2, .int 0] = .ok .none := isNo_eq (by decide +kernel)
theorem cr11 : f_check_rule [tb R1, .int 1] = .ok .none := isNo_eq (by decide +kernel)
theorem cr21 : f_check_rule [tb R2, .int 1] = .ok .none := isNo_eq (by decide +kernel)
theorem lenT {b : List Bool} (h8 : b.length ≤ 8) : lenD [tb b] = .ok (.int b.length) := by
  unfold tb; rw [len_tx (by rw [List.length_map]; omega), List.length_map]
theorem itT {b : List Bool} : itS (tb b) = .ok (b.map fun x => .str (tx [sg x])) := by
  unfold tb; rw [it_tx, List.map_map]; rfl
theorem cb {b : List Bool} (h1 : 1 ≤ b.length) (h8 : b.length ≤ 8) : f_check_board [tb b] = .ok .none := by
  have hc : m_check_board_c0 [some (tb b), none] = .ok (.list ((b.map fun _ => true).map .bool)) := by
    unfold m_check_board_c0
    rw [comp_is]
    have hl : lenOk b.length = .ok () := lenOk_i (by rw [sizeLine_eq]; omega)
    simp -implicitDefEqProofs only [app1, app2, gN_ok, gO_ok, arg0, seq_eq, okb, setD, gv, gl_is, List.map_cons, List.map_nil, List.length_cons, List.length_nil, List.replicate, List.cons_append, List.nil_append, List.set_cons_succ, List.set_cons_zero, List.getElem?_cons_succ, List.getElem?_cons_zero, add_ii, sub_ii, mul_r, mul_l, mod_i, fdiv_i, lenD_l, lenD_t, lenD_scr, intD_i, intD_b, asB_b, lt_ii, le_ii, gt_ii, ge_ii, eq_ii, ne_ii, asI_i, itL_l, itT_t, noX_ok, fnD_is, ite_true, ite_false, Bool.false_eq_true, decide_true, decide_false, Nat.reduceAdd, Nat.reduceSub, reduceIte, tgN_is, min2_ii, max2_ii, abs_i, rg1_i, rg2_i, opt_s, ret_rt, retf_nx, and_self, true_and, and_true, or_true, true_or, not_true_eq_false, not_false_eq_true, Bool.not_true, Bool.not_false, Int.reduceLT, Int.reduceLE, Int.reduceNeg, Int.reducePow, Int.reduceAdd, Int.reduceSub, Int.reduceMul, Int.reduceMod, Int.reduceDiv, Int.reduceEq, Int.reduceNe, Nat.reduceLT, Nat.reduceLeDiff, Nat.reduceMul, Nat.reduceEqDiff, Int.reduceToNat, itT, List.length_map, hl, wipeD]
    rw [lc_map (fun _ => .bool true) _ fun d hd => by
      obtain ⟨x, _, rfl⟩ := List.mem_map.mp hd
      simp -implicitDefEqProofs only [app1, app2, gN_ok, gO_ok, arg0, seq_eq, okb, setD, gv, gl_is, List.map_cons, List.map_nil, List.length_cons, List.length_nil, List.replicate, List.cons_append, List.nil_append, List.set_cons_succ, List.set_cons_zero, List.getElem?_cons_succ, List.getElem?_cons_zero, add_ii, sub_ii, mul_r, mul_l, mod_i, fdiv_i, lenD_l, lenD_t, lenD_scr, intD_i, intD_b, asB_b, lt_ii, le_ii, gt_ii, ge_ii, eq_ii, ne_ii, asI_i, itL_l, itT_t, noX_ok, fnD_is, ite_true, ite_false, Bool.false_eq_true, decide_true, decide_false, Nat.reduceAdd, Nat.reduceSub, reduceIte, tgN_is, min2_ii, max2_ii, abs_i, rg1_i, rg2_i, opt_s, ret_rt, retf_nx, and_self, true_and, and_true, or_true, true_or, not_true_eq_false, not_false_eq_true, Bool.not_true, Bool.not_false, Int.reduceLT, Int.reduceLE, Int.reduceNeg, Int.reducePow, Int.reduceAdd, Int.reduceSub, Int.reduceMul, Int.reduceMod, Int.reduceDiv, Int.reduceEq, Int.reduceNe, Nat.reduceLT, Nat.reduceLeDiff, Nat.reduceMul, Nat.reduceEqDiff, Int.reduceToNat, sg_in]]
    simp only [noX_ok, okb, List.map_map]
    rfl
  have k8 : kv_MOST_CELLS = .int 8 := rfl
  have hall : (b.map fun _ => true).all id = true := by rw [List.all_map]; exact List.all_eq_true.mpr fun _ _ => rfl
  have a1 : (1 : Int) ≤ b.length := by omega
  have a2 : (b.length : Int) ≤ 8 := by omega
  unfold f_check_board
  simp -implicitDefEqProofs only [app1, app2, gN_ok, gO_ok, arg0, seq_eq, okb, setD, gv, gl_is, List.map_cons, List.map_nil, List.length_cons, List.length_nil, List.replicate, List.cons_append, List.nil_append, List.set_cons_succ, List.set_cons_zero, List.getElem?_cons_succ, List.getElem?_cons_zero, add_ii, sub_ii, mul_r, mul_l, mod_i, fdiv_i, lenD_l, lenD_t, lenD_scr, intD_i, intD_b, asB_b, lt_ii, le_ii, gt_ii, ge_ii, eq_ii, ne_ii, asI_i, itL_l, itT_t, noX_ok, fnD_is, ite_true, ite_false, Bool.false_eq_true, decide_true, decide_false, Nat.reduceAdd, Nat.reduceSub, reduceIte, tgN_is, min2_ii, max2_ii, abs_i, rg1_i, rg2_i, opt_s, ret_rt, retf_nx, and_self, true_and, and_true, or_true, true_or, not_true_eq_false, not_false_eq_true, Bool.not_true, Bool.not_false, Int.reduceLT, Int.reduceLE, Int.reduceNeg, Int.reducePow, Int.reduceAdd, Int.reduceSub, Int.reduceMul, Int.reduceMod, Int.reduceDiv, Int.reduceEq, Int.reduceNe, Nat.reduceLT, Nat.reduceLeDiff, Nat.reduceMul, Nat.reduceEqDiff, Int.reduceToNat, m_check_board, chD, lenT h8, k8, hc, all_bl, hall, a1, a2]
theorem cran {n lo hi : Int} (h1 : lo ≤ n) (h2 : n ≤ hi) : f_check_range_rounds [.int n, .int lo, .int hi] = .ok .none := by
  unfold f_check_range_rounds
  simp -implicitDefEqProofs only [app1, app2, gN_ok, gO_ok, arg0, seq_eq, okb, setD, gv, gl_is, List.map_cons, List.map_nil, List.length_cons, List.length_nil, List.replicate, List.cons_append, List.nil_append, List.set_cons_succ, List.set_cons_zero, List.getElem?_cons_succ, List.getElem?_cons_zero, add_ii, sub_ii, mul_r, mul_l, mod_i, fdiv_i, lenD_l, lenD_t, lenD_scr, intD_i, intD_b, asB_b, lt_ii, le_ii, gt_ii, ge_ii, eq_ii, ne_ii, asI_i, itL_l, itT_t, noX_ok, fnD_is, ite_true, ite_false, Bool.false_eq_true, decide_true, decide_false, Nat.reduceAdd, Nat.reduceSub, reduceIte, tgN_is, min2_ii, max2_ii, abs_i, rg1_i, rg2_i, opt_s, ret_rt, retf_nx, and_self, true_and, and_true, or_true, true_or, not_true_eq_false, not_false_eq_true, Bool.not_true, Bool.not_false, Int.reduceLT, Int.reduceLE, Int.reduceNeg, Int.reducePow, Int.reduceAdd, Int.reduceSub, Int.reduceMul, Int.reduceMod, Int.reduceDiv, Int.reduceEq, Int.reduceNe, Nat.reduceLT, Nat.reduceLeDiff, Nat.reduceMul, Nat.reduceEqDiff, Int.reduceToNat, m_check_range_rounds, chD, h1, h2]

/-! ### rounds -/
/-- one of the two -/
structure Rl (r : List Bool) (g : List Bool → List Bool) : Prop where
  c0 : f_check_rule [tb r, .int 0] = .ok .none
  c1 : f_check_rule [tb r, .int 1] = .ok .none
  st : ∀ b : List Bool, 1 ≤ b.length → b.length ≤ 8 → f_step [tb r, tb b] = .ok (tb (g b))
  ln : ∀ b : List Bool, (g b).length = b.length
theorem rl1 : Rl R1 rotR := ⟨cr10, cr11, fun b h1 h8 => stepR h1 h8, rotR_len⟩
theorem rl2 : Rl R2 rotL := ⟨cr20, cr21, fun b h1 h8 => stepL h1 h8, rotL_len⟩
def it (g : List Bool → List Bool) : Nat → List Bool → List Bool
  | 0, b => b
  | n + 1, b => g (it g n b)
section
variable {r r' : List Bool} {g g' : List Bool → List Bool} (L : Rl r g) (L' : Rl r' g') {b : List Bool} (h1 : 1 ≤ b.length) (h8 : b.length ≤ 8)
include L h1 h8
theorem it_len : ∀ n, (it g n b).length = b.length
  | 0 => rfl
  | n + 1 => by show (g (it g n b)).length = _; rw [L.ln, it_len n]
theorem round_ok : f_round_of [tb r, tb b] = .ok (tb (g b)) := by
  unfold f_round_of
  simp -implicitDefEqProofs only [app1, app2, gN_ok, gO_ok, arg0, seq_eq, okb, setD, gv, gl_is, List.map_cons, List.map_nil, List.length_cons, List.length_nil, List.replicate, List.cons_append, List.nil_append, List.set_cons_succ, List.set_cons_zero, List.getElem?_cons_succ, List.getElem?_cons_zero, add_ii, sub_ii, mul_r, mul_l, mod_i, fdiv_i, lenD_l, lenD_t, lenD_scr, intD_i, intD_b, asB_b, lt_ii, le_ii, gt_ii, ge_ii, eq_ii, ne_ii, asI_i, itL_l, itT_t, noX_ok, fnD_is, ite_true, ite_false, Bool.false_eq_true, decide_true, decide_false, Nat.reduceAdd, Nat.reduceSub, reduceIte, tgN_is, min2_ii, max2_ii, abs_i, rg1_i, rg2_i, opt_s, ret_rt, retf_nx, and_self, true_and, and_true, or_true, true_or, not_true_eq_false, not_false_eq_true, Bool.not_true, Bool.not_false, Int.reduceLT, Int.reduceLE, Int.reduceNeg, Int.reducePow, Int.reduceAdd, Int.reduceSub, Int.reduceMul, Int.reduceMod, Int.reduceDiv, Int.reduceEq, Int.reduceNe, Nat.reduceLT, Nat.reduceLeDiff, Nat.reduceMul, Nat.reduceEqDiff, Int.reduceToNat, m_round_of, L.c0, cb h1 h8, L.st b h1 h8]
theorem rounds_ok {m : Nat} (hm : m ≤ 100) : f_rounds [tb r, tb b, .int m] = .ok (.list ((List.range m).map fun j => tb (it g (j + 1) b))) := by
  have loop := for_rel (tg := tgN 5) (fb := m_rounds_b0)
    (fun i ρ => ∃ a5, ρ = [some (tb r), some (tb b), some (.int m), some (.list ((List.range i).map fun j => tb (it g (j + 1) b))), some (tb (it g i b)), a5]) (rgD 0 m) 0 [some (tb r), some (tb b), some (.int m), some (.list []), some (tb b), none] ⟨none, rfl⟩ fun i d ρ hd hI => by
      obtain ⟨hi, rfl⟩ := rg_at hd
      obtain ⟨a5, rfl⟩ := hI
      rw [Int.zero_add, Nat.zero_add]
      have e := it_len L h1 h8 i
      have hs := L.st (it g i b) (by omega) (by omega)
      have hl : i < sizeLine := by rw [sizeLine_eq]; omega
      simp -implicitDefEqProofs only [app1, app2, gN_ok, gO_ok, arg0, seq_eq, okb, setD, gv, gl_is, List.map_cons, List.map_nil, List.length_cons, List.length_nil, List.replicate, List.cons_append, List.nil_append, List.set_cons_succ, List.set_cons_zero, List.getElem?_cons_succ, List.getElem?_cons_zero, add_ii, sub_ii, mul_r, mul_l, mod_i, fdiv_i, lenD_l, lenD_t, lenD_scr, intD_i, intD_b, asB_b, lt_ii, le_ii, gt_ii, ge_ii, eq_ii, ne_ii, asI_i, itL_l, itT_t, noX_ok, fnD_is, ite_true, ite_false, Bool.false_eq_true, decide_true, decide_false, Nat.reduceAdd, Nat.reduceSub, reduceIte, tgN_is, min2_ii, max2_ii, abs_i, rg1_i, rg2_i, opt_s, ret_rt, retf_nx, and_self, true_and, and_true, or_true, true_or, not_true_eq_false, not_false_eq_true, Bool.not_true, Bool.not_false, Int.reduceLT, Int.reduceLE, Int.reduceNeg, Int.reducePow, Int.reduceAdd, Int.reduceSub, Int.reduceMul, Int.reduceMod, Int.reduceDiv, Int.reduceEq, Int.reduceNe, Nat.reduceLT, Nat.reduceLeDiff, Nat.reduceMul, Nat.reduceEqDiff, Int.reduceToNat, m_rounds_b0, hs, apD, List.length_map, List.length_range, hl]
      exact ⟨_, by rw [List.range_succ, List.map_append]; rfl⟩
  obtain ⟨ρ, e1, a5, rfl⟩ := loop
  rw [rg_len, Nat.zero_add] at e1
  have hrg : rg1 [.int (m : Int)] = .ok (rgD 0 m) := rg1_i (by omega)
  have k : kv_MOST_ROUNDS = .int 100 := rfl
  have hc := cran (n := (m : Int)) (lo := 0) (hi := 100) (by omega) (by omega)
  have h0 : lenOk 0 = .ok () := lenOk_i (by rw [sizeLine_eq]; decide)
  unfold f_rounds
  simp -implicitDefEqProofs only [app1, app2, gN_ok, gO_ok, arg0, seq_eq, okb, setD, gv, gl_is, List.map_cons, List.map_nil, List.length_cons, List.length_nil, List.replicate, List.cons_append, List.nil_append, List.set_cons_succ, List.set_cons_zero, List.getElem?_cons_succ, List.getElem?_cons_zero, add_ii, sub_ii, mul_r, mul_l, mod_i, fdiv_i, lenD_l, lenD_t, lenD_scr, intD_i, intD_b, asB_b, lt_ii, le_ii, gt_ii, ge_ii, eq_ii, ne_ii, asI_i, itL_l, itT_t, noX_ok, fnD_is, ite_true, ite_false, Bool.false_eq_true, decide_true, decide_false, Nat.reduceAdd, Nat.reduceSub, reduceIte, tgN_is, min2_ii, max2_ii, abs_i, rg1_i, rg2_i, opt_s, ret_rt, retf_nx, and_self, true_and, and_true, or_true, true_or, not_true_eq_false, not_false_eq_true, Bool.not_true, Bool.not_false, Int.reduceLT, Int.reduceLE, Int.reduceNeg, Int.reducePow, Int.reduceAdd, Int.reduceSub, Int.reduceMul, Int.reduceMod, Int.reduceDiv, Int.reduceEq, Int.reduceNe, Nat.reduceLT, Nat.reduceLeDiff, Nat.reduceMul, Nat.reduceEqDiff, Int.reduceToNat, m_rounds, L.c0, cb h1 h8, k, hc, h0, hrg, e1]
end

/-! ### lists of boards -/
theorem ok_tb (b : List Bool) : (tb b).canLay0 = true := by
  show PyData.strOk (tx (b.map sg)) = true
  unfold PyData.strOk tx
  rw [List.all_toArray, List.all_map, List.all_eq_true]
  intro x _
  cases x <;> rfl
theorem ok_bs : ∀ bs : List (List Bool), PyData.canLayAll0 (bs.map tb) = true
  | [] => rfl
  | b :: bs => by
    show ((tb b).canLay0 && PyData.canLayAll0 (bs.map tb)) = true
    rw [ok_tb, ok_bs bs]; rfl
theorem dp_bs : ∀ bs : List (List Bool), PyData.depthAll (bs.map tb) = 0
  | [] => rfl
  | b :: bs => by
    show max (PyData.depth (tb b)) (PyData.depthAll (bs.map tb)) = 0
    rw [dp_bs bs]; rfl
theorem sh_tb (b : List Bool) : SeqAt.shaped (tb b) = true := by
  unfold SeqAt.shaped; rw [ok_tb]; rfl
theorem sh_bs (bs : List (List Bool)) : SeqAt.shaped (.list (bs.map tb)) = true := by
  unfold SeqAt.shaped
  rw [show (PyData.list (bs.map tb)).canLay0 = true from ok_bs bs, Bool.true_and]
  refine decide_eq_true ?_
  show PyData.depthAll (bs.map tb) + 1 ≤ 64
  rw [dp_bs]; decide
theorem map_inj {α β : Type} {f : α → β} (hf : ∀ x y, f x = f y → x = y) : ∀ {a b : List α}, a.map f = b.map f → a = b
  | [], [], _ => rfl
  | [], _ :: _, h => by cases h
  | _ :: _, [], h => by cases h
  | x :: a, y :: b, h => by
    rw [List.map_cons, List.map_cons, List.cons.injEq] at h
    rw [hf _ _ h.1, map_inj hf h.2]
theorem sg_inj : ∀ {a b : List Bool}, a.map sg = b.map sg ↔ a = b := fun {a b} => ⟨fun h => map_inj (fun x y e => by cases x <;> cases y <;> first | rfl | cases e) h, fun h => by rw [h]⟩
theorem ev_tb (a b : List Bool) : PyData.eqv (tb a) (tb b) = decide (a = b) := by
  show (tx (a.map sg) == tx (b.map sg)) = _
  rw [Bool.eq_iff_iff, beq_iff_eq, tx_inj, sg_inj, decide_eq_true_eq]
theorem ne_tb (a b : List Bool) : neD (tb a) (tb b) = .ok (.bool (!decide (a = b))) := by
  unfold tb; rw [ne_tx]; simp only [sg_inj]
theorem eq_tb (a b : List Bool) : eqD (tb a) (tb b) = .ok (.bool (decide (a = b))) := by
  unfold tb; rw [eq_tx]; simp only [sg_inj]
theorem in_bs (x : List Bool) (bs : List (List Bool)) : inB (tb x) (.list (bs.map tb)) = .ok (decide (x ∈ bs)) := by
  show (if _ then _ else _ : R Bool) = _
  rw [if_pos ⟨sh_tb x, sh_bs bs⟩]
  refine congrArg Except.ok ?_
  rw [List.any_map, Bool.eq_iff_iff, List.any_eq_true, decide_eq_true_eq]
  constructor
  · rintro ⟨y, hy, e⟩
    rw [Function.comp_apply, ev_tb, decide_eq_true_eq] at e
    exact e ▸ hy
  · intro h
    exact ⟨x, h, by rw [Function.comp_apply, ev_tb, decide_eq_true_eq]⟩
theorem ix_bs {x y : List Bool} {bs : List (List Bool)} (e : x = y) : indexD (.list ((x :: bs).map tb)) (tb y) = .ok (.int 0) := by
  show (if _ then _ else _ : R D) = _
  rw [if_pos ⟨sh_bs _, sh_tb y⟩, List.map_cons, List.findIdx?_cons, ev_tb, decide_eq_true e, if_pos rfl]
  rfl
section
variable {r : List Bool} {g : List Bool → List Bool} (L : Rl r g) {b : List Bool} (h1 : 1 ≤ b.length) (h8 : b.length ≤ 8)
include L h1 h8
theorem comes_ok {p : Nat} (hp : 1 ≤ p) (hp8 : p ≤ 8) (hb : it g p b = b) (nd : ∀ j, j < p → it g j b ∉ (List.range j).map fun i => it g i b) : f_comes_again [tb r, tb b] = .ok (.tuple [.int 0, .int p]) := by
  have hin : ∀ j, inB (tb (it g j b)) (.list ((List.range j).map fun i => tb (it g i b))) = .ok (decide (it g j b ∈ (List.range j).map fun i => it g i b)) := fun j => by
    have := in_bs (it g j b) ((List.range j).map fun i => it g i b)
    rw [List.map_map] at this
    exact this
  have loop := wh_rel (fw := m_comes_again_t0) (fb := m_comes_again_b0) (fun j ρ => ρ = [some (tb r), some (tb b), some (.list ((List.range j).map fun i => tb (it g i b))), some (tb (it g j b))]) p (fun j ρ hj hI => by
      subst hI
      have e := it_len L h1 h8 j
      have hs := L.st (it g j b) (by omega) (by omega)
      have hl : j < sizeLine := by rw [sizeLine_eq]; omega
      have hn := decide_eq_false (nd j hj)
      refine ⟨?_, ?_⟩
      · simp -implicitDefEqProofs only [app1, app2, gN_ok, gO_ok, arg0, seq_eq, okb, setD, gv, gl_is, List.map_cons, List.map_nil, List.length_cons, List.length_nil, List.replicate, List.cons_append, List.nil_append, List.set_cons_succ, List.set_cons_zero, List.getElem?_cons_succ, List.getElem?_cons_zero, add_ii, sub_ii, mul_r, mul_l, mod_i, fdiv_i, lenD_l, lenD_t, lenD_scr, intD_i, intD_b, asB_b, lt_ii, le_ii, gt_ii, ge_ii, eq_ii, ne_ii, asI_i, itL_l, itT_t, noX_ok, fnD_is, ite_true, ite_false, Bool.false_eq_true, decide_true, decide_false, Nat.reduceAdd, Nat.reduceSub, reduceIte, tgN_is, min2_ii, max2_ii, abs_i, rg1_i, rg2_i, opt_s, ret_rt, retf_nx, and_self, true_and, and_true, or_true, true_or, not_true_eq_false, not_false_eq_true, Bool.not_true, Bool.not_false, Int.reduceLT, Int.reduceLE, Int.reduceNeg, Int.reducePow, Int.reduceAdd, Int.reduceSub, Int.reduceMul, Int.reduceMod, Int.reduceDiv, Int.reduceEq, Int.reduceNe, Nat.reduceLT, Nat.reduceLeDiff, Nat.reduceMul, Nat.reduceEqDiff, Int.reduceToNat, m_comes_again_t0, ninD, hin, hn]
      · simp -implicitDefEqProofs only [app1, app2, gN_ok, gO_ok, arg0, seq_eq, okb, setD, gv, gl_is, List.map_cons, List.map_nil, List.length_cons, List.length_nil, List.replicate, List.cons_append, List.nil_append, List.set_cons_succ, List.set_cons_zero, List.getElem?_cons_succ, List.getElem?_cons_zero, add_ii, sub_ii, mul_r, mul_l, mod_i, fdiv_i, lenD_l, lenD_t, lenD_scr, intD_i, intD_b, asB_b, lt_ii, le_ii, gt_ii, ge_ii, eq_ii, ne_ii, asI_i, itL_l, itT_t, noX_ok, fnD_is, ite_true, ite_false, Bool.false_eq_true, decide_true, decide_false, Nat.reduceAdd, Nat.reduceSub, reduceIte, tgN_is, min2_ii, max2_ii, abs_i, rg1_i, rg2_i, opt_s, ret_rt, retf_nx, and_self, true_and, and_true, or_true, true_or, not_true_eq_false, not_false_eq_true, Bool.not_true, Bool.not_false, Int.reduceLT, Int.reduceLE, Int.reduceNeg, Int.reducePow, Int.reduceAdd, Int.reduceSub, Int.reduceMul, Int.reduceMod, Int.reduceDiv, Int.reduceEq, Int.reduceNe, Nat.reduceLT, Nat.reduceLeDiff, Nat.reduceMul, Nat.reduceEqDiff, Int.reduceToNat, m_comes_again_b0, hs, apD, List.length_map, List.length_range, hl]
        rw [List.range_succ, List.map_append]; rfl) (fun ρ hI => by
      subst hI
      have hy : decide (it g p b ∈ (List.range p).map fun i => it g i b) = true := decide_eq_true (by rw [hb]; exact List.mem_map.mpr ⟨0, List.mem_range.mpr (by omega), rfl⟩)
      simp -implicitDefEqProofs only [app1, app2, gN_ok, gO_ok, arg0, seq_eq, okb, setD, gv, gl_is, List.map_cons, List.map_nil, List.length_cons, List.length_nil, List.replicate, List.cons_append, List.nil_append, List.set_cons_succ, List.set_cons_zero, List.getElem?_cons_succ, List.getElem?_cons_zero, add_ii, sub_ii, mul_r, mul_l, mod_i, fdiv_i, lenD_l, lenD_t, lenD_scr, intD_i, intD_b, asB_b, lt_ii, le_ii, gt_ii, ge_ii, eq_ii, ne_ii, asI_i, itL_l, itT_t, noX_ok, fnD_is, ite_true, ite_false, Bool.false_eq_true, decide_true, decide_false, Nat.reduceAdd, Nat.reduceSub, reduceIte, tgN_is, min2_ii, max2_ii, abs_i, rg1_i, rg2_i, opt_s, ret_rt, retf_nx, and_self, true_and, and_true, or_true, true_or, not_true_eq_false, not_false_eq_true, Bool.not_true, Bool.not_false, Int.reduceLT, Int.reduceLE, Int.reduceNeg, Int.reducePow, Int.reduceAdd, Int.reduceSub, Int.reduceMul, Int.reduceMod, Int.reduceDiv, Int.reduceEq, Int.reduceNe, Nat.reduceLT, Nat.reduceLeDiff, Nat.reduceMul, Nat.reduceEqDiff, Int.reduceToNat, m_comes_again_t0, ninD, hin, hy]) p 0 [some (tb r), some (tb b), some (.list []), some (tb b)] (by omega) rfl FU (by unfold FU; omega)
  obtain ⟨ρ, e1, rfl⟩ := loop
  have hix : indexD (.list ((List.range p).map fun i => tb (it g i b))) (tb (it g p b)) = .ok (.int 0) := by
    obtain ⟨q, rfl⟩ : ∃ q, p = q + 1 := ⟨p - 1, by omega⟩
    rw [List.range_succ_eq_map, List.map_cons, List.map_map]
    have := ix_bs (x := b) (y := it g (q + 1) b) (bs := (List.range q).map fun i => it g (i + 1) b) hb.symm
    rw [List.map_cons, List.map_map] at this
    exact this
  have h0 : lenOk 0 = .ok () := lenOk_i (by rw [sizeLine_eq]; decide)
  have h2 : lenOk 2 = .ok () := lenOk_i (by rw [sizeLine_eq]; decide)
  unfold f_comes_again
  simp -implicitDefEqProofs only [app1, app2, gN_ok, gO_ok, arg0, seq_eq, okb, setD, gv, gl_is, List.map_cons, List.map_nil, List.length_cons, List.length_nil, List.replicate, List.cons_append, List.nil_append, List.set_cons_succ, List.set_cons_zero, List.getElem?_cons_succ, List.getElem?_cons_zero, add_ii, sub_ii, mul_r, mul_l, mod_i, fdiv_i, lenD_l, lenD_t, lenD_scr, intD_i, intD_b, asB_b, lt_ii, le_ii, gt_ii, ge_ii, eq_ii, ne_ii, asI_i, itL_l, itT_t, noX_ok, fnD_is, ite_true, ite_false, Bool.false_eq_true, decide_true, decide_false, Nat.reduceAdd, Nat.reduceSub, reduceIte, tgN_is, min2_ii, max2_ii, abs_i, rg1_i, rg2_i, opt_s, ret_rt, retf_nx, and_self, true_and, and_true, or_true, true_or, not_true_eq_false, not_false_eq_true, Bool.not_true, Bool.not_false, Int.reduceLT, Int.reduceLE, Int.reduceNeg, Int.reducePow, Int.reduceAdd, Int.reduceSub, Int.reduceMul, Int.reduceMod, Int.reduceDiv, Int.reduceEq, Int.reduceNe, Nat.reduceLT, Nat.reduceLeDiff, Nat.reduceMul, Nat.reduceEqDiff, Int.reduceToNat, m_comes_again, L.c0, cb h1 h8, h0, e1, hix, List.length_map, List.length_range, h2, Int.sub_zero]
end
end Gk94

set_option Elab.async false
set_option linter.all false
set_option maxRecDepth 100000
namespace Gk94
open PySem PySem.Spec PyProof.Rows L2 Vs
/-! ### plays -/
def behB (g g' : List Bool → List Bool) : Nat → List Bool → List Bool
  | 0, b => b
  | n + 1, b => (if n % 2 = 0 then g else g') (behB g g' n b)
theorem beh_e {g g' : List Bool → List Bool} {n : Nat} {b : List Bool} (h : n % 2 = 0) : behB g g' (n + 1) b = g (behB g g' n b) := by
  show (if n % 2 = 0 then g else g') (behB g g' n b) = _
  rw [if_pos h]
theorem beh_o {g g' : List Bool → List Bool} {n : Nat} {b : List Bool} (h : ¬ n % 2 = 0) : behB g g' (n + 1) b = g' (behB g g' n b) := by
  show (if n % 2 = 0 then g else g') (behB g g' n b) = _
  rw [if_neg h]
theorem cntT (b : List Bool) : countD (tb b) kv_TAKEN = .ok (.int (b.count true)) := by
  rw [kT]
  unfold tb
  rw [cnt_tx]
  refine congrArg (fun n : Nat => (.ok (.int n) : R D)) ?_
  induction b with
  | nil => rfl
  | cons x b ih =>
    rw [List.map_cons, List.count_cons, List.count_cons, ih]
    cases x <;> rfl
theorem asT (b : List Bool) : asStr (tb b) = .ok (tx (b.map sg)) := rfl
section
variable {r r' : List Bool} {g g' : List Bool → List Bool} (L : Rl r g) (L' : Rl r' g') {b : List Bool} (h1 : 1 ≤ b.length) (h8 : b.length ≤ 8)
include L L' h1 h8
theorem beh_len : ∀ n, (behB g g' n b).length = b.length
  | 0 => rfl
  | n + 1 => by
    by_cases h : n % 2 = 0
    · rw [beh_e h, L.ln, beh_len n]
    · rw [beh_o h, L'.ln, beh_len n]
theorem behind_ok {m : Nat} (hm : m ≤ 100) : f_behind [tb r, tb r', tb b, .int m] = .ok (tb (behB g g' m b)) := by
  have loop := for_rel (tg := tgN 5) (fb := m_behind_b0)
    (fun i ρ => ∃ a5, ρ = [some (tb r), some (tb r'), some (tb b), some (.int m), some (tb (behB g g' i b)), a5]) (rgD 0 m) 0 [some (tb r), some (tb r'), some (tb b), some (.int m), some (tb b), none] ⟨none, rfl⟩ fun i d ρ hd hI => by
      obtain ⟨hi, rfl⟩ := rg_at hd
      obtain ⟨a5, rfl⟩ := hI
      rw [Int.zero_add, Nat.zero_add]
      have e := beh_len L L' h1 h8 i
      have hs := L.st (behB g g' i b) (by omega) (by omega)
      have hs' := L'.st (behB g g' i b) (by omega) (by omega)
      by_cases hp : i % 2 = 0
      · have hp' : (i : Int) % 2 = 0 := by omega
        simp -implicitDefEqProofs only [app1, app2, gN_ok, gO_ok, arg0, seq_eq, okb, setD, gv, gl_is, List.map_cons, List.map_nil, List.length_cons, List.length_nil, List.replicate, List.cons_append, List.nil_append, List.set_cons_succ, List.set_cons_zero, List.getElem?_cons_succ, List.getElem?_cons_zero, add_ii, sub_ii, mul_r, mul_l, mod_i, fdiv_i, lenD_l, lenD_t, lenD_scr, intD_i, intD_b, asB_b, lt_ii, le_ii, gt_ii, ge_ii, eq_ii, ne_ii, asI_i, itL_l, itT_t, noX_ok, fnD_is, ite_true, ite_false, Bool.false_eq_true, decide_true, decide_false, Nat.reduceAdd, Nat.reduceSub, reduceIte, tgN_is, min2_ii, max2_ii, abs_i, rg1_i, rg2_i, opt_s, ret_rt, retf_nx, and_self, true_and, and_true, or_true, true_or, not_true_eq_false, not_false_eq_true, Bool.not_true, Bool.not_false, Int.reduceLT, Int.reduceLE, Int.reduceNeg, Int.reducePow, Int.reduceAdd, Int.reduceSub, Int.reduceMul, Int.reduceMod, Int.reduceDiv, Int.reduceEq, Int.reduceNe, Nat.reduceLT, Nat.reduceLeDiff, Nat.reduceMul, Nat.reduceEqDiff, Int.reduceToNat, m_behind_b0, hs, hp']
        exact ⟨_, by rw [beh_e hp]⟩
      · have hp' : ¬ (i : Int) % 2 = 0 := by omega
        simp -implicitDefEqProofs only [app1, app2, gN_ok, gO_ok, arg0, seq_eq, okb, setD, gv, gl_is, List.map_cons, List.map_nil, List.length_cons, List.length_nil, List.replicate, List.cons_append, List.nil_append, List.set_cons_succ, List.set_cons_zero, List.getElem?_cons_succ, List.getElem?_cons_zero, add_ii, sub_ii, mul_r, mul_l, mod_i, fdiv_i, lenD_l, lenD_t, lenD_scr, intD_i, intD_b, asB_b, lt_ii, le_ii, gt_ii, ge_ii, eq_ii, ne_ii, asI_i, itL_l, itT_t, noX_ok, fnD_is, ite_true, ite_false, Bool.false_eq_true, decide_true, decide_false, Nat.reduceAdd, Nat.reduceSub, reduceIte, tgN_is, min2_ii, max2_ii, abs_i, rg1_i, rg2_i, opt_s, ret_rt, retf_nx, and_self, true_and, and_true, or_true, true_or, not_true_eq_false, not_false_eq_true, Bool.not_true, Bool.not_false, Int.reduceLT, Int.reduceLE, Int.reduceNeg, Int.reducePow, Int.reduceAdd, Int.reduceSub, Int.reduceMul, Int.reduceMod, Int.reduceDiv, Int.reduceEq, Int.reduceNe, Nat.reduceLT, Nat.reduceLeDiff, Nat.reduceMul, Nat.reduceEqDiff, Int.reduceToNat, m_behind_b0, hs', hp']
        exact ⟨_, by rw [beh_o hp]⟩
  obtain ⟨ρ, e1, a5, rfl⟩ := loop
  rw [rg_len, Nat.zero_add] at e1
  have hrg : rg1 [.int (m : Int)] = .ok (rgD 0 m) := rg1_i (by omega)
  unfold f_behind
  simp -implicitDefEqProofs only [app1, app2, gN_ok, gO_ok, arg0, seq_eq, okb, setD, gv, gl_is, List.map_cons, List.map_nil, List.length_cons, List.length_nil, List.replicate, List.cons_append, List.nil_append, List.set_cons_succ, List.set_cons_zero, List.getElem?_cons_succ, List.getElem?_cons_zero, add_ii, sub_ii, mul_r, mul_l, mod_i, fdiv_i, lenD_l, lenD_t, lenD_scr, intD_i, intD_b, asB_b, lt_ii, le_ii, gt_ii, ge_ii, eq_ii, ne_ii, asI_i, itL_l, itT_t, noX_ok, fnD_is, ite_true, ite_false, Bool.false_eq_true, decide_true, decide_false, Nat.reduceAdd, Nat.reduceSub, reduceIte, tgN_is, min2_ii, max2_ii, abs_i, rg1_i, rg2_i, opt_s, ret_rt, retf_nx, and_self, true_and, and_true, or_true, true_or, not_true_eq_false, not_false_eq_true, Bool.not_true, Bool.not_false, Int.reduceLT, Int.reduceLE, Int.reduceNeg, Int.reducePow, Int.reduceAdd, Int.reduceSub, Int.reduceMul, Int.reduceMod, Int.reduceDiv, Int.reduceEq, Int.reduceNe, Nat.reduceLT, Nat.reduceLeDiff, Nat.reduceMul, Nat.reduceEqDiff, Int.reduceToNat, m_behind, hrg, e1]
theorem play_ok {m : Nat} (hm : m ≤ 100) : f_check_play [tb r, tb r', tb b, .int m] = .ok .none := by
  have k : kv_MOST_ROUNDS = .int 100 := rfl
  have hc := cran (n := (m : Int)) (lo := 0) (hi := 100) (by omega) (by omega)
  have h2 : f_check_two [tb r, tb r'] = .ok .none := by
    unfold f_check_two
    simp -implicitDefEqProofs only [app1, app2, gN_ok, gO_ok, arg0, seq_eq, okb, setD, gv, gl_is, List.map_cons, List.map_nil, List.length_cons, List.length_nil, List.replicate, List.cons_append, List.nil_append, List.set_cons_succ, List.set_cons_zero, List.getElem?_cons_succ, List.getElem?_cons_zero, add_ii, sub_ii, mul_r, mul_l, mod_i, fdiv_i, lenD_l, lenD_t, lenD_scr, intD_i, intD_b, asB_b, lt_ii, le_ii, gt_ii, ge_ii, eq_ii, ne_ii, asI_i, itL_l, itT_t, noX_ok, fnD_is, ite_true, ite_false, Bool.false_eq_true, decide_true, decide_false, Nat.reduceAdd, Nat.reduceSub, reduceIte, tgN_is, min2_ii, max2_ii, abs_i, rg1_i, rg2_i, opt_s, ret_rt, retf_nx, and_self, true_and, and_true, or_true, true_or, not_true_eq_false, not_false_eq_true, Bool.not_true, Bool.not_false, Int.reduceLT, Int.reduceLE, Int.reduceNeg, Int.reducePow, Int.reduceAdd, Int.reduceSub, Int.reduceMul, Int.reduceMod, Int.reduceDiv, Int.reduceEq, Int.reduceNe, Nat.reduceLT, Nat.reduceLeDiff, Nat.reduceMul, Nat.reduceEqDiff, Int.reduceToNat, m_check_two, L.c0, L'.c1]
  unfold f_check_play
  simp -implicitDefEqProofs only [app1, app2, gN_ok, gO_ok, arg0, seq_eq, okb, setD, gv, gl_is, List.map_cons, List.map_nil, List.length_cons, List.length_nil, List.replicate, List.cons_append, List.nil_append, List.set_cons_succ, List.set_cons_zero, List.getElem?_cons_succ, List.getElem?_cons_zero, add_ii, sub_ii, mul_r, mul_l, mod_i, fdiv_i, lenD_l, lenD_t, lenD_scr, intD_i, intD_b, asB_b, lt_ii, le_ii, gt_ii, ge_ii, eq_ii, ne_ii, asI_i, itL_l, itT_t, noX_ok, fnD_is, ite_true, ite_false, Bool.false_eq_true, decide_true, decide_false, Nat.reduceAdd, Nat.reduceSub, reduceIte, tgN_is, min2_ii, max2_ii, abs_i, rg1_i, rg2_i, opt_s, ret_rt, retf_nx, and_self, true_and, and_true, or_true, true_or, not_true_eq_false, not_false_eq_true, Bool.not_true, Bool.not_false, Int.reduceLT, Int.reduceLE, Int.reduceNeg, Int.reducePow, Int.reduceAdd, Int.reduceSub, Int.reduceMul, Int.reduceMod, Int.reduceDiv, Int.reduceEq, Int.reduceNe, Nat.reduceLT, Nat.reduceLeDiff, Nat.reduceMul, Nat.reduceEqDiff, Int.reduceToNat, m_check_play, h2, cb h1 h8, k, hc]
theorem played_ok {m : Nat} (hm : m ≤ 100) : f_played [tb r, tb r', tb b, .int m] = .ok (tb (behB g g' m b)) := by
  unfold f_played
  simp -implicitDefEqProofs only [app1, app2, gN_ok, gO_ok, arg0, seq_eq, okb, setD, gv, gl_is, List.map_cons, List.map_nil, List.length_cons, List.length_nil, List.replicate, List.cons_append, List.nil_append, List.set_cons_succ, List.set_cons_zero, List.getElem?_cons_succ, List.getElem?_cons_zero, add_ii, sub_ii, mul_r, mul_l, mod_i, fdiv_i, lenD_l, lenD_t, lenD_scr, intD_i, intD_b, asB_b, lt_ii, le_ii, gt_ii, ge_ii, eq_ii, ne_ii, asI_i, itL_l, itT_t, noX_ok, fnD_is, ite_true, ite_false, Bool.false_eq_true, decide_true, decide_false, Nat.reduceAdd, Nat.reduceSub, reduceIte, tgN_is, min2_ii, max2_ii, abs_i, rg1_i, rg2_i, opt_s, ret_rt, retf_nx, and_self, true_and, and_true, or_true, true_or, not_true_eq_false, not_false_eq_true, Bool.not_true, Bool.not_false, Int.reduceLT, Int.reduceLE, Int.reduceNeg, Int.reducePow, Int.reduceAdd, Int.reduceSub, Int.reduceMul, Int.reduceMod, Int.reduceDiv, Int.reduceEq, Int.reduceNe, Nat.reduceLT, Nat.reduceLeDiff, Nat.reduceMul, Nat.reduceEqDiff, Int.reduceToNat, m_played, play_ok L L' h1 h8 hm, behind_ok L L' h1 h8 hm]
theorem has_ok {m : Nat} (hm : m ≤ 100) : f_has [tb r, tb r', tb b, .int m] = .ok (.tuple [.int ((behB g g' m b).count true), .int (b.length - (behB g g' m b).count true)]) := by
  have h2 : lenOk 2 = .ok () := lenOk_i (by rw [sizeLine_eq]; decide)
  unfold f_has
  simp -implicitDefEqProofs only [app1, app2, gN_ok, gO_ok, arg0, seq_eq, okb, setD, gv, gl_is, List.map_cons, List.map_nil, List.length_cons, List.length_nil, List.replicate, List.cons_append, List.nil_append, List.set_cons_succ, List.set_cons_zero, List.getElem?_cons_succ, List.getElem?_cons_zero, add_ii, sub_ii, mul_r, mul_l, mod_i, fdiv_i, lenD_l, lenD_t, lenD_scr, intD_i, intD_b, asB_b, lt_ii, le_ii, gt_ii, ge_ii, eq_ii, ne_ii, asI_i, itL_l, itT_t, noX_ok, fnD_is, ite_true, ite_false, Bool.false_eq_true, decide_true, decide_false, Nat.reduceAdd, Nat.reduceSub, reduceIte, tgN_is, min2_ii, max2_ii, abs_i, rg1_i, rg2_i, opt_s, ret_rt, retf_nx, and_self, true_and, and_true, or_true, true_or, not_true_eq_false, not_false_eq_true, Bool.not_true, Bool.not_false, Int.reduceLT, Int.reduceLE, Int.reduceNeg, Int.reducePow, Int.reduceAdd, Int.reduceSub, Int.reduceMul, Int.reduceMod, Int.reduceDiv, Int.reduceEq, Int.reduceNe, Nat.reduceLT, Nat.reduceLeDiff, Nat.reduceMul, Nat.reduceEqDiff, Int.reduceToNat, m_has, play_ok L L' h1 h8 hm, behind_ok L L' h1 h8 hm, asT, cntT, lenT h8, h2]
end
/-! ### all boards -/
def strsB (r : R D) (bs : List (List Bool)) : Bool := match r with
  | .ok (.list ds) => decide (Vs.strs? ds = some (bs.map fun b => tx (b.map sg)))
  | _ => false
theorem strs_ds : ∀ {ds : List D} {ss : List Str}, Vs.strs? ds = some ss → ds = ss.map .str
  | [], ss, h => by cases h; rfl
  | d :: ds, ss, h => by
    cases d with
    | str x =>
      unfold Vs.strs? at h
      obtain ⟨ms, h1, h2⟩ := Option.map_eq_some_iff.mp h
      subst h2
      rw [strs_ds h1]; rfl
    | _ => cases h
theorem strsB_eq {r : R D} {bs : List (List Bool)} (h : strsB r bs = true) : r = .ok (.list (bs.map tb)) := by
  unfold strsB at h
  split at h
  · rename_i ds
    have := strs_ds (of_decide_eq_true h)
    rw [this, List.map_map]; rfl
  · cases h
theorem boards_ok {n : Nat} (h1 : 1 ≤ n) (h8 : n ≤ 8) : f_boards_of [.int n] = .ok (.list ((allB n).map tb)) := by
  have : ((List.range' 1 8).all fun n => strsB (f_boards_of [.int n]) (allB n)) = true := by decide +kernel
  rw [List.all_eq_true] at this
  exact strsB_eq (this n (List.mem_range'.mpr ⟨n - 1, by omega, by omega⟩))
theorem allB_len : ∀ (n : Nat) (b : List Bool), b ∈ allB n → b.length = n
  | 0, b, h => by rw [List.mem_singleton.mp h]; rfl
  | n + 1, b, h => by
    obtain ⟨t, ht, hb⟩ := List.mem_flatMap.mp h
    have := allB_len n t ht
    rcases List.mem_cons.mp hb with rfl | hb
    · rw [List.length_append, this]; rfl
    · rw [List.mem_singleton.mp hb, List.length_append, this]; rfl
theorem allB_card : ∀ n, (allB n).length = 2 ^ n
  | 0 => rfl
  | n + 1 => by
    show ((allB n).flatMap _).length = _
    rw [List.length_flatMap, Nat.pow_succ, ← allB_card n]
    generalize allB n = l
    induction l with
    | nil => rfl
    | cons x l ih =>
      rw [List.map_cons, List.sum_cons, ih]
      show 2 + l.length * 2 = (l.length + 1) * 2
      omega
theorem pow8 {n : Nat} (h : n ≤ 8) : 2 ^ n ≤ 256 := Nat.pow_le_pow_right (by decide) h
theorem keys_tb : ∀ bs : List (List Bool), keys? (bs.map tb) = some (bs.map fun b => .inr (tx (b.map sg)))
  | [] => rfl
  | b :: bs => by
    show (match atomK (tb b) with | some k => (keys? (bs.map tb)).map (k :: ·) | none => none) = _
    rw [keys_tb bs]; rfl
theorem once_nodup {α : Type} [DecidableEq α] : ∀ (l acc : List α), (acc ++ l).Nodup → l.foldl addK acc = acc ++ l
  | [], acc, _ => (List.append_nil acc).symm
  | x :: l, acc, h => by
    have hx : x ∉ acc := fun hm => by
      have := (List.nodup_append.mp h).2.2 x hm x List.mem_cons_self
      exact this rfl
    have e : addK acc x = acc ++ [x] := if_neg hx
    show l.foldl addK (addK acc x) = _
    rw [e, once_nodup l (acc ++ [x]) (by rw [List.append_assoc]; exact h), List.append_assoc]
    rfl
theorem map_nodup {α β : Type} {f : α → β} : ∀ {l : List α}, l.Nodup → (∀ x ∈ l, ∀ y ∈ l, f x = f y → x = y) → (l.map f).Nodup
  | [], _, _ => List.nodup_nil
  | x :: l, h, hf => by
    rw [List.map_cons, List.nodup_cons]
    have h2 := List.nodup_cons.mp h
    refine ⟨fun hm => ?_, map_nodup h2.2 fun a ha b hb => hf a (List.mem_cons_of_mem _ ha) b (List.mem_cons_of_mem _ hb)⟩
    obtain ⟨y, hy, e⟩ := List.mem_map.mp hm
    have := hf y (List.mem_cons_of_mem _ hy) x List.mem_cons_self e
    exact h2.1 (this ▸ hy)
theorem flat_nodup : ∀ {l : List (List Bool)}, l.Nodup → (l.flatMap fun t => [t ++ [true], t ++ [false]]).Nodup
  | [], _ => List.nodup_nil
  | x :: l, h => by
    have h2 := List.nodup_cons.mp h
    show ([x ++ [true], x ++ [false]] ++ l.flatMap fun t => [t ++ [true], t ++ [false]]).Nodup
    refine List.nodup_append.mpr ⟨?_, flat_nodup h2.2, ?_⟩
    · simp
    · intro a ha b hb e
      subst e
      obtain ⟨t, ht, hm⟩ := List.mem_flatMap.mp hb
      have : t = x := by
        simp only [List.mem_cons, List.not_mem_nil, or_false] at ha hm
        rcases ha with rfl | rfl <;> rcases hm with e | e <;> simp_all
      exact h2.1 (this ▸ ht)
theorem allB_nodup : ∀ n, (allB n).Nodup
  | 0 => by decide
  | n + 1 => flat_nodup (allB_nodup n)
section
variable {r : List Bool} {g : List Bool → List Bool} (L : Rl r g)
include L
theorem before_ok {b : List Bool} (h1 : 1 ≤ b.length) (h8 : b.length ≤ 8) : f_before [tb r, tb b] = .ok (.list (((allB b.length).filter fun t => decide (g t = b)).map tb)) := by
  have hl : lenOk (allB b.length).length = .ok () := lenOk_i (by rw [sizeLine_eq, allB_card]; have := pow8 h8; omega)
  have hc : m_before_c0 [some (tb r), some (tb b), none] = .ok (.list (((allB b.length).filter fun t => decide (g t = b)).map tb)) := by
    unfold m_before_c0
    rw [comp_is]
    simp -implicitDefEqProofs only [app1, app2, gN_ok, gO_ok, arg0, seq_eq, okb, setD, gv, gl_is, List.map_cons, List.map_nil, List.length_cons, List.length_nil, List.replicate, List.cons_append, List.nil_append, List.set_cons_succ, List.set_cons_zero, List.getElem?_cons_succ, List.getElem?_cons_zero, add_ii, sub_ii, mul_r, mul_l, mod_i, fdiv_i, lenD_l, lenD_t, lenD_scr, intD_i, intD_b, asB_b, lt_ii, le_ii, gt_ii, ge_ii, eq_ii, ne_ii, asI_i, itL_l, itT_t, noX_ok, fnD_is, ite_true, ite_false, Bool.false_eq_true, decide_true, decide_false, Nat.reduceAdd, Nat.reduceSub, reduceIte, tgN_is, min2_ii, max2_ii, abs_i, rg1_i, rg2_i, opt_s, ret_rt, retf_nx, and_self, true_and, and_true, or_true, true_or, not_true_eq_false, not_false_eq_true, Bool.not_true, Bool.not_false, Int.reduceLT, Int.reduceLE, Int.reduceNeg, Int.reducePow, Int.reduceAdd, Int.reduceSub, Int.reduceMul, Int.reduceMod, Int.reduceDiv, Int.reduceEq, Int.reduceNe, Nat.reduceLT, Nat.reduceLeDiff, Nat.reduceMul, Nat.reduceEqDiff, Int.reduceToNat, lenT h8, boards_ok h1 h8, List.length_map, hl, wipeD]
    have key : ∀ bs : List (List Bool), (∀ t ∈ bs, t.length = b.length) → lcD (tgN 2) (fun ρ => ((((gv ρ 0 >>= fun x => (gv ρ 2 >>= fun x => .ok [] >>= fun xs => .ok (x :: xs)) >>= fun xs => .ok (x :: xs)) >>= fnD 2 f_step) >>= fun x => gv ρ 1 >>= fun y => eqD x y) >>= asB)) (fun ρ => gv ρ 2) [some (tb r), some (tb b), none] (bs.map tb) = .ok ((bs.filter fun t => decide (g t = b)).map tb) := by
      intro bs
      induction bs with
      | nil => intro _; rfl
      | cons t bs ih =>
        intro hb
        have ht := hb t List.mem_cons_self
        have hs := L.st t (by omega) (by omega)
        rw [List.map_cons, lc_is, ih fun t h => hb t (List.mem_cons_of_mem _ h)]
        by_cases e : g t = b
        · simp -implicitDefEqProofs only [app1, app2, gN_ok, gO_ok, arg0, seq_eq, okb, setD, gv, gl_is, List.map_cons, List.map_nil, List.length_cons, List.length_nil, List.replicate, List.cons_append, List.nil_append, List.set_cons_succ, List.set_cons_zero, List.getElem?_cons_succ, List.getElem?_cons_zero, add_ii, sub_ii, mul_r, mul_l, mod_i, fdiv_i, lenD_l, lenD_t, lenD_scr, intD_i, intD_b, asB_b, lt_ii, le_ii, gt_ii, ge_ii, eq_ii, ne_ii, asI_i, itL_l, itT_t, noX_ok, fnD_is, ite_true, ite_false, Bool.false_eq_true, decide_true, decide_false, Nat.reduceAdd, Nat.reduceSub, reduceIte, tgN_is, min2_ii, max2_ii, abs_i, rg1_i, rg2_i, opt_s, ret_rt, retf_nx, and_self, true_and, and_true, or_true, true_or, not_true_eq_false, not_false_eq_true, Bool.not_true, Bool.not_false, Int.reduceLT, Int.reduceLE, Int.reduceNeg, Int.reducePow, Int.reduceAdd, Int.reduceSub, Int.reduceMul, Int.reduceMod, Int.reduceDiv, Int.reduceEq, Int.reduceNe, Nat.reduceLT, Nat.reduceLeDiff, Nat.reduceMul, Nat.reduceEqDiff, Int.reduceToNat, hs, eq_tb, e, List.filter_cons]
        · simp -implicitDefEqProofs only [app1, app2, gN_ok, gO_ok, arg0, seq_eq, okb, setD, gv, gl_is, List.map_cons, List.map_nil, List.length_cons, List.length_nil, List.replicate, List.cons_append, List.nil_append, List.set_cons_succ, List.set_cons_zero, List.getElem?_cons_succ, List.getElem?_cons_zero, add_ii, sub_ii, mul_r, mul_l, mod_i, fdiv_i, lenD_l, lenD_t, lenD_scr, intD_i, intD_b, asB_b, lt_ii, le_ii, gt_ii, ge_ii, eq_ii, ne_ii, asI_i, itL_l, itT_t, noX_ok, fnD_is, ite_true, ite_false, Bool.false_eq_true, decide_true, decide_false, Nat.reduceAdd, Nat.reduceSub, reduceIte, tgN_is, min2_ii, max2_ii, abs_i, rg1_i, rg2_i, opt_s, ret_rt, retf_nx, and_self, true_and, and_true, or_true, true_or, not_true_eq_false, not_false_eq_true, Bool.not_true, Bool.not_false, Int.reduceLT, Int.reduceLE, Int.reduceNeg, Int.reducePow, Int.reduceAdd, Int.reduceSub, Int.reduceMul, Int.reduceMod, Int.reduceDiv, Int.reduceEq, Int.reduceNe, Nat.reduceLT, Nat.reduceLeDiff, Nat.reduceMul, Nat.reduceEqDiff, Int.reduceToNat, hs, eq_tb, e, List.filter_cons]
    have k2 := key (allB b.length) fun t ht => allB_len _ _ ht
    exact congrArg (fun r => (noX r >>= fun ys => .ok (.list ys) : R D)) k2
  unfold f_before
  simp -implicitDefEqProofs only [app1, app2, gN_ok, gO_ok, arg0, seq_eq, okb, setD, gv, gl_is, List.map_cons, List.map_nil, List.length_cons, List.length_nil, List.replicate, List.cons_append, List.nil_append, List.set_cons_succ, List.set_cons_zero, List.getElem?_cons_succ, List.getElem?_cons_zero, add_ii, sub_ii, mul_r, mul_l, mod_i, fdiv_i, lenD_l, lenD_t, lenD_scr, intD_i, intD_b, asB_b, lt_ii, le_ii, gt_ii, ge_ii, eq_ii, ne_ii, asI_i, itL_l, itT_t, noX_ok, fnD_is, ite_true, ite_false, Bool.false_eq_true, decide_true, decide_false, Nat.reduceAdd, Nat.reduceSub, reduceIte, tgN_is, min2_ii, max2_ii, abs_i, rg1_i, rg2_i, opt_s, ret_rt, retf_nx, and_self, true_and, and_true, or_true, true_or, not_true_eq_false, not_false_eq_true, Bool.not_true, Bool.not_false, Int.reduceLT, Int.reduceLE, Int.reduceNeg, Int.reducePow, Int.reduceAdd, Int.reduceSub, Int.reduceMul, Int.reduceMod, Int.reduceDiv, Int.reduceEq, Int.reduceNe, Nat.reduceLT, Nat.reduceLeDiff, Nat.reduceMul, Nat.reduceEqDiff, Int.reduceToNat, m_before, L.c0, cb h1 h8, hc]
theorem open_ok {n : Nat} (h1 : 1 ≤ n) (h8 : n ≤ 8) (inj : ∀ a b : List Bool, a.length = n → b.length = n → g a = g b → a = b) : f_is_open [tb r, .int n] = .ok (.bool true) := by
  have hcard := allB_card n
  have hp := pow8 h8
  have hl : lenOk (allB n).length = .ok () := lenOk_i (by rw [sizeLine_eq]; omega)
  have hc : m_is_open_c0 [some (tb r), some (.int n), some (.list ((allB n).map tb)), none] = .ok (.list (((allB n).map g).map tb)) := by
    unfold m_is_open_c0
    rw [comp_is]
    simp -implicitDefEqProofs only [app1, app2, gN_ok, gO_ok, arg0, seq_eq, okb, setD, gv, gl_is, List.map_cons, List.map_nil, List.length_cons, List.length_nil, List.replicate, List.cons_append, List.nil_append, List.set_cons_succ, List.set_cons_zero, List.getElem?_cons_succ, List.getElem?_cons_zero, add_ii, sub_ii, mul_r, mul_l, mod_i, fdiv_i, lenD_l, lenD_t, lenD_scr, intD_i, intD_b, asB_b, lt_ii, le_ii, gt_ii, ge_ii, eq_ii, ne_ii, asI_i, itL_l, itT_t, noX_ok, fnD_is, ite_true, ite_false, Bool.false_eq_true, decide_true, decide_false, Nat.reduceAdd, Nat.reduceSub, reduceIte, tgN_is, min2_ii, max2_ii, abs_i, rg1_i, rg2_i, opt_s, ret_rt, retf_nx, and_self, true_and, and_true, or_true, true_or, not_true_eq_false, not_false_eq_true, Bool.not_true, Bool.not_false, Int.reduceLT, Int.reduceLE, Int.reduceNeg, Int.reducePow, Int.reduceAdd, Int.reduceSub, Int.reduceMul, Int.reduceMod, Int.reduceDiv, Int.reduceEq, Int.reduceNe, Nat.reduceLT, Nat.reduceLeDiff, Nat.reduceMul, Nat.reduceEqDiff, Int.reduceToNat, List.length_map, hl, wipeD]
    have key : ∀ bs : List (List Bool), (∀ t ∈ bs, t.length = n) → lcD (tgN 3) (fun ρ => .ok true) (fun ρ => ((gv ρ 0 >>= fun x => (gv ρ 3 >>= fun x => .ok [] >>= fun xs => .ok (x :: xs)) >>= fun xs => .ok (x :: xs)) >>= fnD 2 f_step)) [some (tb r), some (.int n), some (.list ((allB n).map tb)), none] (bs.map tb) = .ok ((bs.map g).map tb) := by
      intro bs
      induction bs with
      | nil => intro _; rfl
      | cons t bs ih =>
        intro hb
        have ht := hb t List.mem_cons_self
        have hs := L.st t (by omega) (by omega)
        rw [List.map_cons, lc_is, ih fun t h => hb t (List.mem_cons_of_mem _ h)]
        simp -implicitDefEqProofs only [app1, app2, gN_ok, gO_ok, arg0, seq_eq, okb, setD, gv, gl_is, List.map_cons, List.map_nil, List.length_cons, List.length_nil, List.replicate, List.cons_append, List.nil_append, List.set_cons_succ, List.set_cons_zero, List.getElem?_cons_succ, List.getElem?_cons_zero, add_ii, sub_ii, mul_r, mul_l, mod_i, fdiv_i, lenD_l, lenD_t, lenD_scr, intD_i, intD_b, asB_b, lt_ii, le_ii, gt_ii, ge_ii, eq_ii, ne_ii, asI_i, itL_l, itT_t, noX_ok, fnD_is, ite_true, ite_false, Bool.false_eq_true, decide_true, decide_false, Nat.reduceAdd, Nat.reduceSub, reduceIte, tgN_is, min2_ii, max2_ii, abs_i, rg1_i, rg2_i, opt_s, ret_rt, retf_nx, and_self, true_and, and_true, or_true, true_or, not_true_eq_false, not_false_eq_true, Bool.not_true, Bool.not_false, Int.reduceLT, Int.reduceLE, Int.reduceNeg, Int.reducePow, Int.reduceAdd, Int.reduceSub, Int.reduceMul, Int.reduceMod, Int.reduceDiv, Int.reduceEq, Int.reduceNe, Nat.reduceLT, Nat.reduceLeDiff, Nat.reduceMul, Nat.reduceEqDiff, Int.reduceToNat, hs]
    exact congrArg (fun r => (noX r >>= fun ys => .ok (.list ys) : R D)) (key (allB n) fun t ht => allB_len _ _ ht)
  have k : kv_MOST_CELLS = .int 8 := rfl
  have hr := cran (n := (n : Int)) (lo := 1) (hi := 8) (by omega) (by omega)
  have nd : ((((allB n).map g)).map fun b => (Sum.inr (tx (b.map sg)) : Key)).Nodup := by
    rw [List.map_map]
    refine map_nodup (allB_nodup n) fun x hx y hy e => inj x y (allB_len _ _ hx) (allB_len _ _ hy) ?_
    exact sg_inj.mp (tx_inj.mp (Sum.inr.inj e))
  have hset : lenSetD (.list (((allB n).map g).map tb)) = .ok (.int (allB n).length) := by
    show (opt (keys? (((allB n).map g).map tb)) >>= fun ks => _ : R D) = _
    rw [keys_tb]
    show (if _ then (.ok (.int (once _).length) : R D) else stk) = _
    rw [if_pos (by rw [List.length_map, List.length_map, hcard]; omega)]
    unfold once
    rw [once_nodup _ [] (by rw [List.nil_append]; exact nd), List.nil_append, List.length_map, List.length_map]
  unfold f_is_open
  simp -implicitDefEqProofs only [app1, app2, gN_ok, gO_ok, arg0, seq_eq, okb, setD, gv, gl_is, List.map_cons, List.map_nil, List.length_cons, List.length_nil, List.replicate, List.cons_append, List.nil_append, List.set_cons_succ, List.set_cons_zero, List.getElem?_cons_succ, List.getElem?_cons_zero, add_ii, sub_ii, mul_r, mul_l, mod_i, fdiv_i, lenD_l, lenD_t, lenD_scr, intD_i, intD_b, asB_b, lt_ii, le_ii, gt_ii, ge_ii, eq_ii, ne_ii, asI_i, itL_l, itT_t, noX_ok, fnD_is, ite_true, ite_false, Bool.false_eq_true, decide_true, decide_false, Nat.reduceAdd, Nat.reduceSub, reduceIte, tgN_is, min2_ii, max2_ii, abs_i, rg1_i, rg2_i, opt_s, ret_rt, retf_nx, and_self, true_and, and_true, or_true, true_or, not_true_eq_false, not_false_eq_true, Bool.not_true, Bool.not_false, Int.reduceLT, Int.reduceLE, Int.reduceNeg, Int.reducePow, Int.reduceAdd, Int.reduceSub, Int.reduceMul, Int.reduceMod, Int.reduceDiv, Int.reduceEq, Int.reduceNe, Nat.reduceLT, Nat.reduceLeDiff, Nat.reduceMul, Nat.reduceEqDiff, Int.reduceToNat, m_is_open, L.c0, k, hr, boards_ok h1 h8, hc, hset, List.length_map]
theorem keeps_ok {n : Nat} (h1 : 1 ≤ n) (h8 : n ≤ 8) (cnt : ∀ a : List Bool, a.length = n → (g a).count true = a.count true) : f_keeps [tb r, .int n] = .ok (.bool true) := by
  have hcard := allB_card n
  have hp := pow8 h8
  have hl : lenOk (allB n).length = .ok () := lenOk_i (by rw [sizeLine_eq]; omega)
  have hc : m_keeps_c0 [some (tb r), some (.int n), none] = .ok (.list (((allB n).map fun _ => true).map .bool)) := by
    unfold m_keeps_c0
    rw [comp_is]
    simp -implicitDefEqProofs only [app1, app2, gN_ok, gO_ok, arg0, seq_eq, okb, setD, gv, gl_is, List.map_cons, List.map_nil, List.length_cons, List.length_nil, List.replicate, List.cons_append, List.nil_append, List.set_cons_succ, List.set_cons_zero, List.getElem?_cons_succ, List.getElem?_cons_zero, add_ii, sub_ii, mul_r, mul_l, mod_i, fdiv_i, lenD_l, lenD_t, lenD_scr, intD_i, intD_b, asB_b, lt_ii, le_ii, gt_ii, ge_ii, eq_ii, ne_ii, asI_i, itL_l, itT_t, noX_ok, fnD_is, ite_true, ite_false, Bool.false_eq_true, decide_true, decide_false, Nat.reduceAdd, Nat.reduceSub, reduceIte, tgN_is, min2_ii, max2_ii, abs_i, rg1_i, rg2_i, opt_s, ret_rt, retf_nx, and_self, true_and, and_true, or_true, true_or, not_true_eq_false, not_false_eq_true, Bool.not_true, Bool.not_false, Int.reduceLT, Int.reduceLE, Int.reduceNeg, Int.reducePow, Int.reduceAdd, Int.reduceSub, Int.reduceMul, Int.reduceMod, Int.reduceDiv, Int.reduceEq, Int.reduceNe, Nat.reduceLT, Nat.reduceLeDiff, Nat.reduceMul, Nat.reduceEqDiff, Int.reduceToNat, boards_ok h1 h8, List.length_map, hl, wipeD]
    have key : ∀ bs : List (List Bool), (∀ t ∈ bs, t.length = n) → lcD (tgN 2) (fun ρ => .ok true) (fun ρ => ((((gv ρ 0 >>= fun x => (gv ρ 2 >>= fun x => .ok [] >>= fun xs => .ok (x :: xs)) >>= fun xs => .ok (x :: xs)) >>= fnD 2 f_step) >>= fun x => asStr x >>= fun _ => .ok kv_TAKEN >>= fun y => countD x y) >>= fun x => (gv ρ 2 >>= fun x => asStr x >>= fun _ => .ok kv_TAKEN >>= fun y => countD x y) >>= fun y => eqD x y)) [some (tb r), some (.int n), none] (bs.map tb) = .ok ((bs.map fun _ => true).map .bool) := by
      intro bs
      induction bs with
      | nil => intro _; rfl
      | cons t bs ih =>
        intro hb
        have ht := hb t List.mem_cons_self
        have hs := L.st t (by omega) (by omega)
        have hn := cnt t ht
        rw [List.map_cons, lc_is, ih fun t h => hb t (List.mem_cons_of_mem _ h)]
        simp -implicitDefEqProofs only [app1, app2, gN_ok, gO_ok, arg0, seq_eq, okb, setD, gv, gl_is, List.map_cons, List.map_nil, List.length_cons, List.length_nil, List.replicate, List.cons_append, List.nil_append, List.set_cons_succ, List.set_cons_zero, List.getElem?_cons_succ, List.getElem?_cons_zero, add_ii, sub_ii, mul_r, mul_l, mod_i, fdiv_i, lenD_l, lenD_t, lenD_scr, intD_i, intD_b, asB_b, lt_ii, le_ii, gt_ii, ge_ii, eq_ii, ne_ii, asI_i, itL_l, itT_t, noX_ok, fnD_is, ite_true, ite_false, Bool.false_eq_true, decide_true, decide_false, Nat.reduceAdd, Nat.reduceSub, reduceIte, tgN_is, min2_ii, max2_ii, abs_i, rg1_i, rg2_i, opt_s, ret_rt, retf_nx, and_self, true_and, and_true, or_true, true_or, not_true_eq_false, not_false_eq_true, Bool.not_true, Bool.not_false, Int.reduceLT, Int.reduceLE, Int.reduceNeg, Int.reducePow, Int.reduceAdd, Int.reduceSub, Int.reduceMul, Int.reduceMod, Int.reduceDiv, Int.reduceEq, Int.reduceNe, Nat.reduceLT, Nat.reduceLeDiff, Nat.reduceMul, Nat.reduceEqDiff, Int.reduceToNat, hs, asT, cntT, hn]
    exact congrArg (fun r => (noX r >>= fun ys => .ok (.list ys) : R D)) (key (allB n) fun t ht => allB_len _ _ ht)
  have k : kv_MOST_CELLS = .int 8 := rfl
  have hr := cran (n := (n : Int)) (lo := 1) (hi := 8) (by omega) (by omega)
  have hall : ((allB n).map fun _ => true).all id = true := by rw [List.all_map]; exact List.all_eq_true.mpr fun _ _ => rfl
  unfold f_keeps
  simp -implicitDefEqProofs only [app1, app2, gN_ok, gO_ok, arg0, seq_eq, okb, setD, gv, gl_is, List.map_cons, List.map_nil, List.length_cons, List.length_nil, List.replicate, List.cons_append, List.nil_append, List.set_cons_succ, List.set_cons_zero, List.getElem?_cons_succ, List.getElem?_cons_zero, add_ii, sub_ii, mul_r, mul_l, mod_i, fdiv_i, lenD_l, lenD_t, lenD_scr, intD_i, intD_b, asB_b, lt_ii, le_ii, gt_ii, ge_ii, eq_ii, ne_ii, asI_i, itL_l, itT_t, noX_ok, fnD_is, ite_true, ite_false, Bool.false_eq_true, decide_true, decide_false, Nat.reduceAdd, Nat.reduceSub, reduceIte, tgN_is, min2_ii, max2_ii, abs_i, rg1_i, rg2_i, opt_s, ret_rt, retf_nx, and_self, true_and, and_true, or_true, true_or, not_true_eq_false, not_false_eq_true, Bool.not_true, Bool.not_false, Int.reduceLT, Int.reduceLE, Int.reduceNeg, Int.reducePow, Int.reduceAdd, Int.reduceSub, Int.reduceMul, Int.reduceMod, Int.reduceDiv, Int.reduceEq, Int.reduceNe, Nat.reduceLT, Nat.reduceLeDiff, Nat.reduceMul, Nat.reduceEqDiff, Int.reduceToNat, m_keeps, L.c0, k, hr, hc, all_bl, hall]
end
end Gk94

set_option Elab.async false
set_option linter.all false
set_option maxRecDepth 100000
namespace Gk94
open PySem PySem.Spec PyProof.Rows L2 Vs
/-! ### shelves -/
def sho (b : Bool) : Nat := if b then 111 else 46
def so (x : Bool) : D := .str (tx [sho x])
def sh (b : List Bool) : D := .list (b.map so)
theorem kC : kv_COIN = .str (tx [111]) := rfl
theorem kE : kv_EMPTY = .str (tx [46]) := rfl
theorem co_in (x : Bool) : inD (so x) (.str (tx [46, 111])) = .ok (.bool true) := by
  unfold so; rw [in_tx]; cases x <;> rfl
theorem co_cnt (x : Bool) : countD (so x) (.str (tx [111])) = .ok (.int (tn x)) := by
  unfold so; rw [cnt_tx]; cases x <;> rfl
theorem as_so (x : Bool) : asStr (so x) = .ok (tx [sho x]) := rfl
theorem len_so (x : Bool) : lenD [so x] = .ok (.int 1) := by unfold so; rw [len_tx (by simp)]; rfl
theorem it_so (x : Bool) : itS (so x) = .ok [so x] := rfl
theorem grid_ok {b : List Bool} (h1 : 1 ≤ b.length) (h8 : b.length ≤ 8) : f_check_grid [sh b, .str (tx [46, 111])] = .ok .none := by
  obtain ⟨x0, b', rfl⟩ : ∃ x0 b', b = x0 :: b' := by
    cases b with
    | nil => exact absurd h1 (by decide)
    | cons x b => exact ⟨x, b, rfl⟩
  have x0d : ixD (sh (x0 :: b')) (.int 0) = .ok (so x0) := ix_li (L2.atI_nat (j := 0) rfl)
  have h1l : lenOk 1 = .ok () := lenOk_i (by rw [sizeLine_eq]; decide)
  have loop := for_rel (tg := unT 2 (tsC (tgN 2) (tsC (tgN 3) tsN))) (fb := m_check_grid_b0) (fun i ρ => ∃ a2 a3, ρ = [some (sh (x0 :: b')), some (.str (tx [46, 111])), a2, a3, none]) (enD 0 ((x0 :: b').map so)) 0 _ ⟨none, none, rfl⟩ fun i d ρ hd hI => by
    obtain ⟨z, hz, rfl⟩ := enD_get _ _ _ _ hd
    rw [List.getElem?_map] at hz
    obtain ⟨x, hx, rfl⟩ := Option.map_eq_some_iff.mp hz
    obtain ⟨a2, a3, rfl⟩ := hI
    have k : kv_MOST_SIDE = .int 8 := rfl
    have hc : ∀ a2, m_check_grid_c0 [some (sh (x0 :: b')), some (.str (tx [46, 111])), a2, some (so x), none] = .ok (.list [.bool true]) := fun a2 => by
      unfold m_check_grid_c0
      rw [comp_is]
      simp -implicitDefEqProofs only [app1, app2, gN_ok, gO_ok, arg0, seq_eq, okb, setD, gv, gl_is, List.map_cons, List.map_nil, List.length_cons, List.length_nil, List.replicate, List.cons_append, List.nil_append, List.set_cons_succ, List.set_cons_zero, List.getElem?_cons_succ, List.getElem?_cons_zero, add_ii, sub_ii, mul_r, mul_l, mod_i, fdiv_i, lenD_l, lenD_t, lenD_scr, intD_i, intD_b, asB_b, lt_ii, le_ii, gt_ii, ge_ii, eq_ii, ne_ii, asI_i, itL_l, itT_t, noX_ok, fnD_is, ite_true, ite_false, Bool.false_eq_true, decide_true, decide_false, Nat.reduceAdd, Nat.reduceSub, reduceIte, tgN_is, min2_ii, max2_ii, abs_i, rg1_i, rg2_i, opt_s, ret_rt, retf_nx, and_self, true_and, and_true, or_true, true_or, not_true_eq_false, not_false_eq_true, Bool.not_true, Bool.not_false, Int.reduceLT, Int.reduceLE, Int.reduceNeg, Int.reducePow, Int.reduceAdd, Int.reduceSub, Int.reduceMul, Int.reduceMod, Int.reduceDiv, Int.reduceEq, Int.reduceNe, Nat.reduceLT, Nat.reduceLeDiff, Nat.reduceMul, Nat.reduceEqDiff, Int.reduceToNat, it_so, h1l, wipeD, lc_is, co_in, lcD]
    have ha : allD [.list [.bool true]] = .ok (.bool true) := rfl
    simp -implicitDefEqProofs only [app1, app2, gN_ok, gO_ok, arg0, seq_eq, okb, setD, gv, gl_is, List.map_cons, List.map_nil, List.length_cons, List.length_nil, List.replicate, List.cons_append, List.nil_append, List.set_cons_succ, List.set_cons_zero, List.getElem?_cons_succ, List.getElem?_cons_zero, add_ii, sub_ii, mul_r, mul_l, mod_i, fdiv_i, lenD_l, lenD_t, lenD_scr, intD_i, intD_b, asB_b, lt_ii, le_ii, gt_ii, ge_ii, eq_ii, ne_ii, asI_i, itL_l, itT_t, noX_ok, fnD_is, ite_true, ite_false, Bool.false_eq_true, decide_true, decide_false, Nat.reduceAdd, Nat.reduceSub, reduceIte, tgN_is, min2_ii, max2_ii, abs_i, rg1_i, rg2_i, opt_s, ret_rt, retf_nx, and_self, true_and, and_true, or_true, true_or, not_true_eq_false, not_false_eq_true, Bool.not_true, Bool.not_false, Int.reduceLT, Int.reduceLE, Int.reduceNeg, Int.reducePow, Int.reduceAdd, Int.reduceSub, Int.reduceMul, Int.reduceMod, Int.reduceDiv, Int.reduceEq, Int.reduceNe, Nat.reduceLT, Nat.reduceLeDiff, Nat.reduceMul, Nat.reduceEqDiff, Int.reduceToNat, unT, tsC, tsN, m_check_grid_b0, chD, len_so, k, x0d, hc, ha]
    exact ⟨_, _, rfl⟩
  obtain ⟨ρ, e1, a2, a3, rfl⟩ := loop
  have hl : lenD [sh (x0 :: b')] = .ok (.int (x0 :: b').length) := by unfold sh; rw [lenD_l, List.length_map]
  have k : kv_MOST_SIDE = .int 8 := rfl
  have a1 : (1 : Int) ≤ (x0 :: b').length := by omega
  have a2 : ((x0 :: b').length : Int) ≤ 8 := by omega
  have he : en1 [sh (x0 :: b')] = .ok (enD 0 ((x0 :: b').map so)) := rfl
  unfold f_check_grid
  unfold m_check_grid
  rw [seq_eq]
  have hn : ((x0 :: b').length : Int) = (b'.length : Int) + 1 := by rw [List.length_cons]; omega
  rw [hn] at hl a1 a2
  rw [List.map_cons] at e1 he
  simp -implicitDefEqProofs only [app1, app2, gN_ok, gO_ok, arg0, seq_eq, okb, setD, gv, gl_is, List.map_cons, List.map_nil, List.length_cons, List.length_nil, List.replicate, List.cons_append, List.nil_append, List.set_cons_succ, List.set_cons_zero, List.getElem?_cons_succ, List.getElem?_cons_zero, add_ii, sub_ii, mul_r, mul_l, mod_i, fdiv_i, lenD_l, lenD_t, lenD_scr, intD_i, intD_b, asB_b, lt_ii, le_ii, gt_ii, ge_ii, eq_ii, ne_ii, asI_i, itL_l, itT_t, noX_ok, fnD_is, ite_true, ite_false, Bool.false_eq_true, decide_true, decide_false, Nat.reduceAdd, Nat.reduceSub, reduceIte, tgN_is, min2_ii, max2_ii, abs_i, rg1_i, rg2_i, opt_s, ret_rt, retf_nx, and_self, true_and, and_true, or_true, true_or, not_true_eq_false, not_false_eq_true, Bool.not_true, Bool.not_false, Int.reduceLT, Int.reduceLE, Int.reduceNeg, Int.reducePow, Int.reduceAdd, Int.reduceSub, Int.reduceMul, Int.reduceMod, Int.reduceDiv, Int.reduceEq, Int.reduceNe, Nat.reduceLT, Nat.reduceLeDiff, Nat.reduceMul, Nat.reduceEqDiff, Int.reduceToNat, chD, hl, k, a1, a2, he, e1]
theorem shelf_ok {b : List Bool} (h1 : 1 ≤ b.length) (h8 : b.length ≤ 8) : f_check_shelf [sh b] = .ok .none := by
  have e : addD kv_EMPTY kv_COIN = .ok (.str (tx [46, 111])) := by rw [kE, kC, add_tx (by decide)]; rfl
  unfold f_check_shelf
  simp -implicitDefEqProofs only [app1, app2, gN_ok, gO_ok, arg0, seq_eq, okb, setD, gv, gl_is, List.map_cons, List.map_nil, List.length_cons, List.length_nil, List.replicate, List.cons_append, List.nil_append, List.set_cons_succ, List.set_cons_zero, List.getElem?_cons_succ, List.getElem?_cons_zero, add_ii, sub_ii, mul_r, mul_l, mod_i, fdiv_i, lenD_l, lenD_t, lenD_scr, intD_i, intD_b, asB_b, lt_ii, le_ii, gt_ii, ge_ii, eq_ii, ne_ii, asI_i, itL_l, itT_t, noX_ok, fnD_is, ite_true, ite_false, Bool.false_eq_true, decide_true, decide_false, Nat.reduceAdd, Nat.reduceSub, reduceIte, tgN_is, min2_ii, max2_ii, abs_i, rg1_i, rg2_i, opt_s, ret_rt, retf_nx, and_self, true_and, and_true, or_true, true_or, not_true_eq_false, not_false_eq_true, Bool.not_true, Bool.not_false, Int.reduceLT, Int.reduceLE, Int.reduceNeg, Int.reducePow, Int.reduceAdd, Int.reduceSub, Int.reduceMul, Int.reduceMod, Int.reduceDiv, Int.reduceEq, Int.reduceNe, Nat.reduceLT, Nat.reduceLeDiff, Nat.reduceMul, Nat.reduceEqDiff, Int.reduceToNat, m_check_shelf, e, grid_ok h1 h8]

theorem cut_last {α : Type} (xs : List α) : cutA xs none (some (-1)) = xs.dropLast := by
  unfold cutA
  have e : HT.sIx xs.length xs.length (some (-1)) = xs.length - 1 := by
    show (if (-1 : Int) < 0 then ((-1 : Int) + (xs.length : Int)).toNat else min (-1 : Int).toNat xs.length) = _
    rw [if_pos (by decide)]; omega
  rw [e, HT.sIx_none, Nat.sub_zero, List.drop_zero, List.dropLast_eq_take]
theorem tilt_ok {b : List Bool} {x : Bool} (hx : b.getLast? = some x) (h8 : b.length ≤ 8) : f_tilt_of [sh b] = .ok (.tuple [sh (false :: b.dropLast), .int (tn x)]) := by
  have h1 : 1 ≤ b.length := by
    cases b with
    | nil => cases hx
    | cons y b => rw [List.length_cons]; omega
  have i0 : ixD (sh b) (.int 0) = .ok (so b[0]) := ix_li (by rw [atI_map, atI_cyc (i := 0) (j := 0) (by omega) (.inl rfl)]; rfl)
  have il : ixD (sh b) (.int (-1)) = .ok (so x) := ix_li (by
    rw [atI_map, atI_cyc (j := b.length - 1) (by omega) (.inr (by omega))]
    rw [List.getLast?_eq_getElem?, List.getElem?_eq_getElem (by omega)] at hx
    rw [Option.some.inj hx]; rfl)
  have hm : mulD kv_EMPTY (.int 1) = .ok (so false) := rfl
  have hs : slD (sh b) none (some (-1)) = .ok (.list (b.dropLast.map so)) := by
    show (.ok (.list (cutA (b.map so) none (some (-1)))) : R D) = _
    rw [cut_last, ← List.map_dropLast]
  have hq : ∀ ds, seqOf (.list ds) = .ok ds := fun _ => rfl
  have hl : lenOk (b.dropLast.length + 1) = .ok () := lenOk_i (by rw [sizeLine_eq, List.length_dropLast]; omega)
  have h2 : lenOk 2 = .ok () := lenOk_i (by rw [sizeLine_eq]; decide)
  unfold f_tilt_of
  simp -implicitDefEqProofs only [app1, app2, gN_ok, gO_ok, arg0, seq_eq, okb, setD, gv, gl_is, List.map_cons, List.map_nil, List.length_cons, List.length_nil, List.replicate, List.cons_append, List.nil_append, List.set_cons_succ, List.set_cons_zero, List.getElem?_cons_succ, List.getElem?_cons_zero, add_ii, sub_ii, mul_r, mul_l, mod_i, fdiv_i, lenD_l, lenD_t, lenD_scr, intD_i, intD_b, asB_b, lt_ii, le_ii, gt_ii, ge_ii, eq_ii, ne_ii, asI_i, itL_l, itT_t, noX_ok, fnD_is, ite_true, ite_false, Bool.false_eq_true, decide_true, decide_false, Nat.reduceAdd, Nat.reduceSub, reduceIte, tgN_is, min2_ii, max2_ii, abs_i, rg1_i, rg2_i, opt_s, ret_rt, retf_nx, and_self, true_and, and_true, or_true, true_or, not_true_eq_false, not_false_eq_true, Bool.not_true, Bool.not_false, Int.reduceLT, Int.reduceLE, Int.reduceNeg, Int.reducePow, Int.reduceAdd, Int.reduceSub, Int.reduceMul, Int.reduceMod, Int.reduceDiv, Int.reduceEq, Int.reduceNe, Nat.reduceLT, Nat.reduceLeDiff, Nat.reduceMul, Nat.reduceEqDiff, Int.reduceToNat, m_tilt_of, i0, il, len_so, hm, hs, hq, List.append_nil, List.length_map, hl, as_so, kC, co_cnt, h2]
  rfl
theorem tilted_ok {b : List Bool} {x : Bool} (hx : b.getLast? = some x) (h1 : 1 ≤ b.length) (h8 : b.length ≤ 8) : f_tilted [sh b] = .ok (.tuple [sh (false :: b.dropLast), .int (tn x)]) := by
  unfold f_tilted
  simp -implicitDefEqProofs only [app1, app2, gN_ok, gO_ok, arg0, seq_eq, okb, setD, gv, gl_is, List.map_cons, List.map_nil, List.length_cons, List.length_nil, List.replicate, List.cons_append, List.nil_append, List.set_cons_succ, List.set_cons_zero, List.getElem?_cons_succ, List.getElem?_cons_zero, add_ii, sub_ii, mul_r, mul_l, mod_i, fdiv_i, lenD_l, lenD_t, lenD_scr, intD_i, intD_b, asB_b, lt_ii, le_ii, gt_ii, ge_ii, eq_ii, ne_ii, asI_i, itL_l, itT_t, noX_ok, fnD_is, ite_true, ite_false, Bool.false_eq_true, decide_true, decide_false, Nat.reduceAdd, Nat.reduceSub, reduceIte, tgN_is, min2_ii, max2_ii, abs_i, rg1_i, rg2_i, opt_s, ret_rt, retf_nx, and_self, true_and, and_true, or_true, true_or, not_true_eq_false, not_false_eq_true, Bool.not_true, Bool.not_false, Int.reduceLT, Int.reduceLE, Int.reduceNeg, Int.reducePow, Int.reduceAdd, Int.reduceSub, Int.reduceMul, Int.reduceMod, Int.reduceDiv, Int.reduceEq, Int.reduceNe, Nat.reduceLT, Nat.reduceLeDiff, Nat.reduceMul, Nat.reduceEqDiff, Int.reduceToNat, m_tilted, shelf_ok h1 h8, tilt_ok hx h8]
theorem sum_tn : ∀ b : List Bool, (b.map fun x => (tn x : Int)).sum = (b.count true : Int)
  | [] => rfl
  | x :: b => by
    rw [List.map_cons, List.sum_cons, sum_tn b, List.count_cons]
    cases x
    · show (0 : Int) + _ = _; simp
    · show (1 : Int) + _ = _; simp; omega
theorem coins_ok {b : List Bool} (h1 : 1 ≤ b.length) (h8 : b.length ≤ 8) : f_coins [sh b] = .ok (.int (b.count true)) := by
  have hl : lenOk b.length = .ok () := lenOk_i (by rw [sizeLine_eq]; omega)
  have hc : m_coins_c0 [some (sh b), none] = .ok (.list ((b.map fun x => (tn x : Int)).map .int)) := by
    unfold m_coins_c0 sh
    rw [comp_is]
    simp -implicitDefEqProofs only [app1, app2, gN_ok, gO_ok, arg0, seq_eq, okb, setD, gv, gl_is, List.map_cons, List.map_nil, List.length_cons, List.length_nil, List.replicate, List.cons_append, List.nil_append, List.set_cons_succ, List.set_cons_zero, List.getElem?_cons_succ, List.getElem?_cons_zero, add_ii, sub_ii, mul_r, mul_l, mod_i, fdiv_i, lenD_l, lenD_t, lenD_scr, intD_i, intD_b, asB_b, lt_ii, le_ii, gt_ii, ge_ii, eq_ii, ne_ii, asI_i, itL_l, itT_t, noX_ok, fnD_is, ite_true, ite_false, Bool.false_eq_true, decide_true, decide_false, Nat.reduceAdd, Nat.reduceSub, reduceIte, tgN_is, min2_ii, max2_ii, abs_i, rg1_i, rg2_i, opt_s, ret_rt, retf_nx, and_self, true_and, and_true, or_true, true_or, not_true_eq_false, not_false_eq_true, Bool.not_true, Bool.not_false, Int.reduceLT, Int.reduceLE, Int.reduceNeg, Int.reducePow, Int.reduceAdd, Int.reduceSub, Int.reduceMul, Int.reduceMod, Int.reduceDiv, Int.reduceEq, Int.reduceNe, Nat.reduceLT, Nat.reduceLeDiff, Nat.reduceMul, Nat.reduceEqDiff, Int.reduceToNat, List.length_map, hl, wipeD]
    have key : ∀ ys : List Bool, lcD (tgN 1) (fun ρ => .ok true) (fun ρ => (gv ρ 1 >>= fun x => asStr x >>= fun _ => .ok kv_COIN >>= fun y => countD x y)) [some (.list (b.map so)), none] (ys.map so) = .ok ((ys.map fun x => (tn x : Int)).map .int) := by
      intro ys
      induction ys with
      | nil => rfl
      | cons t ys ih =>
        rw [List.map_cons, lc_is, ih]
        simp -implicitDefEqProofs only [app1, app2, gN_ok, gO_ok, arg0, seq_eq, okb, setD, gv, gl_is, List.map_cons, List.map_nil, List.length_cons, List.length_nil, List.replicate, List.cons_append, List.nil_append, List.set_cons_succ, List.set_cons_zero, List.getElem?_cons_succ, List.getElem?_cons_zero, add_ii, sub_ii, mul_r, mul_l, mod_i, fdiv_i, lenD_l, lenD_t, lenD_scr, intD_i, intD_b, asB_b, lt_ii, le_ii, gt_ii, ge_ii, eq_ii, ne_ii, asI_i, itL_l, itT_t, noX_ok, fnD_is, ite_true, ite_false, Bool.false_eq_true, decide_true, decide_false, Nat.reduceAdd, Nat.reduceSub, reduceIte, tgN_is, min2_ii, max2_ii, abs_i, rg1_i, rg2_i, opt_s, ret_rt, retf_nx, and_self, true_and, and_true, or_true, true_or, not_true_eq_false, not_false_eq_true, Bool.not_true, Bool.not_false, Int.reduceLT, Int.reduceLE, Int.reduceNeg, Int.reducePow, Int.reduceAdd, Int.reduceSub, Int.reduceMul, Int.reduceMod, Int.reduceDiv, Int.reduceEq, Int.reduceNe, Nat.reduceLT, Nat.reduceLeDiff, Nat.reduceMul, Nat.reduceEqDiff, Int.reduceToNat, as_so, kC, co_cnt]
    exact congrArg (fun r => (noX r >>= fun ys => .ok (.list ys) : R D)) (key b)
  unfold f_coins
  simp -implicitDefEqProofs only [app1, app2, gN_ok, gO_ok, arg0, seq_eq, okb, setD, gv, gl_is, List.map_cons, List.map_nil, List.length_cons, List.length_nil, List.replicate, List.cons_append, List.nil_append, List.set_cons_succ, List.set_cons_zero, List.getElem?_cons_succ, List.getElem?_cons_zero, add_ii, sub_ii, mul_r, mul_l, mod_i, fdiv_i, lenD_l, lenD_t, lenD_scr, intD_i, intD_b, asB_b, lt_ii, le_ii, gt_ii, ge_ii, eq_ii, ne_ii, asI_i, itL_l, itT_t, noX_ok, fnD_is, ite_true, ite_false, Bool.false_eq_true, decide_true, decide_false, Nat.reduceAdd, Nat.reduceSub, reduceIte, tgN_is, min2_ii, max2_ii, abs_i, rg1_i, rg2_i, opt_s, ret_rt, retf_nx, and_self, true_and, and_true, or_true, true_or, not_true_eq_false, not_false_eq_true, Bool.not_true, Bool.not_false, Int.reduceLT, Int.reduceLE, Int.reduceNeg, Int.reducePow, Int.reduceAdd, Int.reduceSub, Int.reduceMul, Int.reduceMod, Int.reduceDiv, Int.reduceEq, Int.reduceNe, Nat.reduceLT, Nat.reduceLeDiff, Nat.reduceMul, Nat.reduceEqDiff, Int.reduceToNat, m_coins, shelf_ok h1 h8, hc, sum_in, sum_tn]
/-! ### lights -/
def li (b : List Bool) : D := .list (b.map fun x => .int (tn x))
def perB (c : List Bool) (p : Nat) : Bool := (List.range (c.length - p)).all fun k => c.getD k false == c.getD (k + p) false
theorem row_ok {c : List Bool} (h : c.length ≤ 16) : f_check_row [.int 2, li c] = .ok .none := by
  have hr : f_check_range_rows [.int 2, .int 2, .int 6] = .ok .none := isNo_eq (by decide +kernel)
  have hli : f_check_lights [.int 2] = .ok .none := by
    have k1 : kv_LEAST_LIGHTS = .int 2 := rfl
    have k2 : kv_MOST_LIGHTS = .int 6 := rfl
    unfold f_check_lights
    simp -implicitDefEqProofs only [app1, app2, gN_ok, gO_ok, arg0, seq_eq, okb, setD, gv, gl_is, List.map_cons, List.map_nil, List.length_cons, List.length_nil, List.replicate, List.cons_append, List.nil_append, List.set_cons_succ, List.set_cons_zero, List.getElem?_cons_succ, List.getElem?_cons_zero, add_ii, sub_ii, mul_r, mul_l, mod_i, fdiv_i, lenD_l, lenD_t, lenD_scr, intD_i, intD_b, asB_b, lt_ii, le_ii, gt_ii, ge_ii, eq_ii, ne_ii, asI_i, itL_l, itT_t, noX_ok, fnD_is, ite_true, ite_false, Bool.false_eq_true, decide_true, decide_false, Nat.reduceAdd, Nat.reduceSub, reduceIte, tgN_is, min2_ii, max2_ii, abs_i, rg1_i, rg2_i, opt_s, ret_rt, retf_nx, and_self, true_and, and_true, or_true, true_or, not_true_eq_false, not_false_eq_true, Bool.not_true, Bool.not_false, Int.reduceLT, Int.reduceLE, Int.reduceNeg, Int.reducePow, Int.reduceAdd, Int.reduceSub, Int.reduceMul, Int.reduceMod, Int.reduceDiv, Int.reduceEq, Int.reduceNe, Nat.reduceLT, Nat.reduceLeDiff, Nat.reduceMul, Nat.reduceEqDiff, Int.reduceToNat, m_check_lights, k1, k2, hr]
  have loop := for_rel (tg := unT 2 (tsC (tgN 2) (tsC (tgN 3) tsN))) (fb := m_check_row_b0) (fun i ρ => ∃ a2 a3, ρ = [some (.int 2), some (li c), a2, a3]) (enD 0 (c.map fun x => .int (tn x))) 0 _ ⟨none, none, rfl⟩ fun i d ρ hd hI => by
    obtain ⟨z, hz, rfl⟩ := enD_get _ _ _ _ hd
    rw [List.getElem?_map] at hz
    obtain ⟨x, hx, rfl⟩ := Option.map_eq_some_iff.mp hz
    obtain ⟨a2, a3, rfl⟩ := hI
    have t1 : (0 : Int) ≤ (tn x : Int) := by omega
    have t2 : (tn x : Int) < 2 := by cases x <;> decide
    simp -implicitDefEqProofs only [app1, app2, gN_ok, gO_ok, arg0, seq_eq, okb, setD, gv, gl_is, List.map_cons, List.map_nil, List.length_cons, List.length_nil, List.replicate, List.cons_append, List.nil_append, List.set_cons_succ, List.set_cons_zero, List.getElem?_cons_succ, List.getElem?_cons_zero, add_ii, sub_ii, mul_r, mul_l, mod_i, fdiv_i, lenD_l, lenD_t, lenD_scr, intD_i, intD_b, asB_b, lt_ii, le_ii, gt_ii, ge_ii, eq_ii, ne_ii, asI_i, itL_l, itT_t, noX_ok, fnD_is, ite_true, ite_false, Bool.false_eq_true, decide_true, decide_false, Nat.reduceAdd, Nat.reduceSub, reduceIte, tgN_is, min2_ii, max2_ii, abs_i, rg1_i, rg2_i, opt_s, ret_rt, retf_nx, and_self, true_and, and_true, or_true, true_or, not_true_eq_false, not_false_eq_true, Bool.not_true, Bool.not_false, Int.reduceLT, Int.reduceLE, Int.reduceNeg, Int.reducePow, Int.reduceAdd, Int.reduceSub, Int.reduceMul, Int.reduceMod, Int.reduceDiv, Int.reduceEq, Int.reduceNe, Nat.reduceLT, Nat.reduceLeDiff, Nat.reduceMul, Nat.reduceEqDiff, Int.reduceToNat, unT, tsC, tsN, m_check_row_b0, chD, t1, t2]
    exact ⟨_, _, rfl⟩
  obtain ⟨ρ, e1, a2, a3, rfl⟩ := loop
  have he : en1 [li c] = .ok (enD 0 (c.map fun x => .int (tn x))) := rfl
  have hl : lenD [li c] = .ok (.int c.length) := by unfold li; rw [lenD_l, List.length_map]
  have k : kv_MOST_ROW = .int 40 := rfl
  have h40 : ¬ (40 : Int) < c.length := by omega
  unfold f_check_row
  simp -implicitDefEqProofs only [app1, app2, gN_ok, gO_ok, arg0, seq_eq, okb, setD, gv, gl_is, List.map_cons, List.map_nil, List.length_cons, List.length_nil, List.replicate, List.cons_append, List.nil_append, List.set_cons_succ, List.set_cons_zero, List.getElem?_cons_succ, List.getElem?_cons_zero, add_ii, sub_ii, mul_r, mul_l, mod_i, fdiv_i, lenD_l, lenD_t, lenD_scr, intD_i, intD_b, asB_b, lt_ii, le_ii, gt_ii, ge_ii, eq_ii, ne_ii, asI_i, itL_l, itT_t, noX_ok, fnD_is, ite_true, ite_false, Bool.false_eq_true, decide_true, decide_false, Nat.reduceAdd, Nat.reduceSub, reduceIte, tgN_is, min2_ii, max2_ii, abs_i, rg1_i, rg2_i, opt_s, ret_rt, retf_nx, and_self, true_and, and_true, or_true, true_or, not_true_eq_false, not_false_eq_true, Bool.not_true, Bool.not_false, Int.reduceLT, Int.reduceLE, Int.reduceNeg, Int.reducePow, Int.reduceAdd, Int.reduceSub, Int.reduceMul, Int.reduceMod, Int.reduceDiv, Int.reduceEq, Int.reduceNe, Nat.reduceLT, Nat.reduceLeDiff, Nat.reduceMul, Nat.reduceEqDiff, Int.reduceToNat, m_check_row, hli, hl, k, h40, he, e1]
theorem least_ok {c : List Bool} {p : Nat} (h : c.length ≤ 16) (hp1 : 1 ≤ p) (hp : p < c.length) (hy : perB c p = true) (hn : ∀ j, 1 ≤ j → j < p → perB c j = false) : f_least_period [.int 2, li c] = .ok (.int p) := by
  have hl : lenD [li c] = .ok (.int c.length) := by unfold li; rw [lenD_l, List.length_map]
  have hix : ∀ (k : Nat), k < c.length → ixD (li c) (.int (k : Int)) = .ok (.int (tn (c.getD k false))) := fun k hk => ix_li (by
    rw [atI_map, atI_cyc hk (.inl rfl), List.getD_eq_getElem?_getD, List.getElem?_eq_getElem hk]; rfl)
  have tni : ∀ x y : Bool, decide ((tn x : Int) = (tn y : Int)) = (x == y) := fun x y => by cases x <;> cases y <;> decide
  have hc : ∀ (j : Nat) (a3 : Option D), 1 ≤ j → j < c.length → m_least_period_c0 [some (.int 2), some (li c), some (.int j), a3] = .ok (.list (((List.range (c.length - j)).map fun k => c.getD k false == c.getD (k + j) false).map .bool)) := fun j a3 hj hj2 => by
    unfold m_least_period_c0
    rw [comp_is]
    have hlo : lenOk (c.length - j) = .ok () := lenOk_i (by rw [sizeLine_eq]; omega)
    have hrg : rg1 [.int ((c.length : Int) - (j : Int))] = .ok (rgD 0 (c.length - j)) := by rw [rg1_i (by omega)]; congr 2; omega
    simp -implicitDefEqProofs only [app1, app2, gN_ok, gO_ok, arg0, seq_eq, okb, setD, gv, gl_is, List.map_cons, List.map_nil, List.length_cons, List.length_nil, List.replicate, List.cons_append, List.nil_append, List.set_cons_succ, List.set_cons_zero, List.getElem?_cons_succ, List.getElem?_cons_zero, add_ii, sub_ii, mul_r, mul_l, mod_i, fdiv_i, lenD_l, lenD_t, lenD_scr, intD_i, intD_b, asB_b, lt_ii, le_ii, gt_ii, ge_ii, eq_ii, ne_ii, asI_i, itL_l, itT_t, noX_ok, fnD_is, ite_true, ite_false, Bool.false_eq_true, decide_true, decide_false, Nat.reduceAdd, Nat.reduceSub, reduceIte, tgN_is, min2_ii, max2_ii, abs_i, rg1_i, rg2_i, opt_s, ret_rt, retf_nx, and_self, true_and, and_true, or_true, true_or, not_true_eq_false, not_false_eq_true, Bool.not_true, Bool.not_false, Int.reduceLT, Int.reduceLE, Int.reduceNeg, Int.reducePow, Int.reduceAdd, Int.reduceSub, Int.reduceMul, Int.reduceMod, Int.reduceDiv, Int.reduceEq, Int.reduceNe, Nat.reduceLT, Nat.reduceLeDiff, Nat.reduceMul, Nat.reduceEqDiff, Int.reduceToNat, hl, hrg, rg_len, hlo, wipeD]
    rw [lc_map (fun d => match d with | .int i => .bool (c.getD i.toNat false == c.getD (i.toNat + j) false) | _ => .none) _ fun d hd => by
      obtain ⟨i, hi⟩ := List.mem_iff_getElem?.mp hd
      obtain ⟨hi2, rfl⟩ := rg_at hi
      have q1 := hix i (by omega)
      have q2 := hix (i + j) (by omega)
      rw [show ((i + j : Nat) : Int) = (i : Int) + (j : Int) by omega] at q2
      rw [Int.zero_add]
      simp -implicitDefEqProofs only [app1, app2, gN_ok, gO_ok, arg0, seq_eq, okb, setD, gv, gl_is, List.map_cons, List.map_nil, List.length_cons, List.length_nil, List.replicate, List.cons_append, List.nil_append, List.set_cons_succ, List.set_cons_zero, List.getElem?_cons_succ, List.getElem?_cons_zero, add_ii, sub_ii, mul_r, mul_l, mod_i, fdiv_i, lenD_l, lenD_t, lenD_scr, intD_i, intD_b, asB_b, lt_ii, le_ii, gt_ii, ge_ii, eq_ii, ne_ii, asI_i, itL_l, itT_t, noX_ok, fnD_is, ite_true, ite_false, Bool.false_eq_true, decide_true, decide_false, Nat.reduceAdd, Nat.reduceSub, reduceIte, tgN_is, min2_ii, max2_ii, abs_i, rg1_i, rg2_i, opt_s, ret_rt, retf_nx, and_self, true_and, and_true, or_true, true_or, not_true_eq_false, not_false_eq_true, Bool.not_true, Bool.not_false, Int.reduceLT, Int.reduceLE, Int.reduceNeg, Int.reducePow, Int.reduceAdd, Int.reduceSub, Int.reduceMul, Int.reduceMod, Int.reduceDiv, Int.reduceEq, Int.reduceNe, Nat.reduceLT, Nat.reduceLeDiff, Nat.reduceMul, Nat.reduceEqDiff, Int.reduceToNat, q1, q2, tni, Int.toNat_natCast]]
    simp only [noX_ok, okb]
    unfold rgD
    rw [List.map_map, List.map_map]
    refine congrArg (fun l => (.ok (.list l) : R D)) (List.map_congr_left fun k _ => ?_)
    show PyData.bool _ = PyData.bool _
    rw [Int.zero_add]; rfl
  have hall : ∀ j : Nat, ((List.range (c.length - j)).map fun k => c.getD k false == c.getD (k + j) false).all id = perB c j := fun j => by unfold perB; rw [List.all_map]; rfl
  have loop := for_out (tg := tgN 2) (fb := m_least_period_b0) (fun i ρ => i < p ∧ ∃ a2 a3, ρ = [some (.int 2), some (li c), a2, a3]) (fun o => o = .rt (.int p)) (rgD 1 (c.length - 1)) 0 [some (.int 2), some (li c), none, none] ⟨by omega, none, none, rfl⟩ (fun i d ρ hd hI => by
    obtain ⟨hi, rfl⟩ := rg_at hd
    obtain ⟨hip, a2, a3, rfl⟩ := hI
    rw [Nat.zero_add] at hip ⊢
    have e : (1 : Int) + (i : Int) = ((i + 1 : Nat) : Int) := by omega
    rw [e]
    by_cases hpe : i + 1 = p
    · have hy2 : perB c (i + 1) = true := by rw [hpe]; exact hy
      simp -implicitDefEqProofs only [app1, app2, gN_ok, gO_ok, arg0, seq_eq, okb, setD, gv, gl_is, List.map_cons, List.map_nil, List.length_cons, List.length_nil, List.replicate, List.cons_append, List.nil_append, List.set_cons_succ, List.set_cons_zero, List.getElem?_cons_succ, List.getElem?_cons_zero, add_ii, sub_ii, mul_r, mul_l, mod_i, fdiv_i, lenD_l, lenD_t, lenD_scr, intD_i, intD_b, asB_b, lt_ii, le_ii, gt_ii, ge_ii, eq_ii, ne_ii, asI_i, itL_l, itT_t, noX_ok, fnD_is, ite_true, ite_false, Bool.false_eq_true, decide_true, decide_false, Nat.reduceAdd, Nat.reduceSub, reduceIte, tgN_is, min2_ii, max2_ii, abs_i, rg1_i, rg2_i, opt_s, ret_rt, retf_nx, and_self, true_and, and_true, or_true, true_or, not_true_eq_false, not_false_eq_true, Bool.not_true, Bool.not_false, Int.reduceLT, Int.reduceLE, Int.reduceNeg, Int.reducePow, Int.reduceAdd, Int.reduceSub, Int.reduceMul, Int.reduceMod, Int.reduceDiv, Int.reduceEq, Int.reduceNe, Nat.reduceLT, Nat.reduceLeDiff, Nat.reduceMul, Nat.reduceEqDiff, Int.reduceToNat, m_least_period_b0, hc (i + 1) a3 (by omega) (by omega), all_bl, hall, hy2]
      rw [hpe]
    · have hn2 := hn (i + 1) (by omega) (by omega)
      simp -implicitDefEqProofs only [app1, app2, gN_ok, gO_ok, arg0, seq_eq, okb, setD, gv, gl_is, List.map_cons, List.map_nil, List.length_cons, List.length_nil, List.replicate, List.cons_append, List.nil_append, List.set_cons_succ, List.set_cons_zero, List.getElem?_cons_succ, List.getElem?_cons_zero, add_ii, sub_ii, mul_r, mul_l, mod_i, fdiv_i, lenD_l, lenD_t, lenD_scr, intD_i, intD_b, asB_b, lt_ii, le_ii, gt_ii, ge_ii, eq_ii, ne_ii, asI_i, itL_l, itT_t, noX_ok, fnD_is, ite_true, ite_false, Bool.false_eq_true, decide_true, decide_false, Nat.reduceAdd, Nat.reduceSub, reduceIte, tgN_is, min2_ii, max2_ii, abs_i, rg1_i, rg2_i, opt_s, ret_rt, retf_nx, and_self, true_and, and_true, or_true, true_or, not_true_eq_false, not_false_eq_true, Bool.not_true, Bool.not_false, Int.reduceLT, Int.reduceLE, Int.reduceNeg, Int.reducePow, Int.reduceAdd, Int.reduceSub, Int.reduceMul, Int.reduceMod, Int.reduceDiv, Int.reduceEq, Int.reduceNe, Nat.reduceLT, Nat.reduceLeDiff, Nat.reduceMul, Nat.reduceEqDiff, Int.reduceToNat, m_least_period_b0, hc (i + 1) a3 (by omega) (by omega), all_bl, hall, hn2]
      exact ⟨by omega, _, _, rfl⟩) (fun ρ hI => by
    exfalso
    have := hI.1
    rw [rg_len] at this
    omega)
  obtain ⟨o, e1, rfl⟩ := loop
  have hrg : rg2 [.int 1, .int (c.length : Int)] = .ok (rgD 1 (c.length - 1)) := by
    rw [rg2_i (by omega)]; congr 2; omega
  unfold f_least_period
  simp -implicitDefEqProofs only [app1, app2, gN_ok, gO_ok, arg0, seq_eq, okb, setD, gv, gl_is, List.map_cons, List.map_nil, List.length_cons, List.length_nil, List.replicate, List.cons_append, List.nil_append, List.set_cons_succ, List.set_cons_zero, List.getElem?_cons_succ, List.getElem?_cons_zero, add_ii, sub_ii, mul_r, mul_l, mod_i, fdiv_i, lenD_l, lenD_t, lenD_scr, intD_i, intD_b, asB_b, lt_ii, le_ii, gt_ii, ge_ii, eq_ii, ne_ii, asI_i, itL_l, itT_t, noX_ok, fnD_is, ite_true, ite_false, Bool.false_eq_true, decide_true, decide_false, Nat.reduceAdd, Nat.reduceSub, reduceIte, tgN_is, min2_ii, max2_ii, abs_i, rg1_i, rg2_i, opt_s, ret_rt, retf_nx, and_self, true_and, and_true, or_true, true_or, not_true_eq_false, not_false_eq_true, Bool.not_true, Bool.not_false, Int.reduceLT, Int.reduceLE, Int.reduceNeg, Int.reducePow, Int.reduceAdd, Int.reduceSub, Int.reduceMul, Int.reduceMod, Int.reduceDiv, Int.reduceEq, Int.reduceNe, Nat.reduceLT, Nat.reduceLeDiff, Nat.reduceMul, Nat.reduceEqDiff, Int.reduceToNat, m_least_period, row_ok h, hl, hrg, e1]
end Gk94

set_option Elab.async false
set_option linter.all false
set_option maxRecDepth 100000
namespace Gk94
open PySem PySem.Spec PyProof.Rows L2 Vs
/-! ### facts of all boards -/
def lpB (b : List Bool) : Nat := ((List.range' 1 (2 * b.length - 1)).find? (perB (b ++ b))).getD 0
def apart (g : List Bool → List Bool) (p : Nat) (b : List Bool) : Bool := (List.range p).all fun j => decide (it g j b ∉ (List.range j).map fun i => it g i b)
def goodB (b : List Bool) : Bool :=
  let p := lpB b
  decide (1 ≤ p) && decide (p ≤ 8) && decide (p < 2 * b.length) && decide (b.length % p = 0) && perB (b ++ b) p && ((List.range p).all fun j => j == 0 || !perB (b ++ b) j) && decide (it rotR p b = b) && decide (it rotL p b = b) && apart rotR p b && apart rotL p b &&
    decide (rotL (rotR b) = b) && decide (rotR (rotL b) = b) && decide ((rotR b).count true = b.count true)
theorem good {b : List Bool} (h1 : 1 ≤ b.length) (h8 : b.length ≤ 8) : goodB b = true := each (p := goodB) (by decide +kernel) h1 h8
structure Good (b : List Bool) (p : Nat) : Prop where
  p1 : 1 ≤ p
  p8 : p ≤ 8
  pn : p < 2 * b.length
  dv : b.length % p = 0
  py : perB (b ++ b) p = true
  pj : ∀ j, 1 ≤ j → j < p → perB (b ++ b) j = false
  rr : it rotR p b = b
  ll : it rotL p b = b
  ar : ∀ j, j < p → it rotR j b ∉ (List.range j).map fun i => it rotR i b
  al : ∀ j, j < p → it rotL j b ∉ (List.range j).map fun i => it rotL i b
  lr : rotL (rotR b) = b
  rl : rotR (rotL b) = b
  ct : (rotR b).count true = b.count true
theorem good_is {b : List Bool} (h1 : 1 ≤ b.length) (h8 : b.length ≤ 8) : Good b (lpB b) := by
  have h := good h1 h8
  unfold goodB at h
  simp only [Bool.and_eq_true, decide_eq_true_eq] at h
  obtain ⟨⟨⟨⟨⟨⟨⟨⟨⟨⟨⟨⟨a1, a2⟩, a3⟩, a4⟩, a5⟩, a6⟩, a7⟩, a8⟩, a9⟩, a10⟩, a11⟩, a12⟩, a13⟩ := h
  unfold apart at a9 a10
  rw [List.all_eq_true] at a6 a9 a10
  refine ⟨a1, a2, a3, a4, a5, fun j j1 jp => ?_, a7, a8, fun j jp => ?_, fun j jp => ?_, a11, a12, a13⟩
  · have := a6 j (List.mem_range.mpr jp)
    rw [Bool.or_eq_true, Bool.not_eq_true', beq_iff_eq] at this
    rcases this with e | e
    · omega
    · exact e
  · exact of_decide_eq_true (a9 j (List.mem_range.mpr jp))
  · exact of_decide_eq_true (a10 j (List.mem_range.mpr jp))
theorem it_R_len {b : List Bool} : ∀ n, (it rotR n b).length = b.length
  | 0 => rfl
  | n + 1 => by show (rotR (it rotR n b)).length = _; rw [rotR_len, it_R_len n]
theorem it_R_ct {b : List Bool} (h1 : 1 ≤ b.length) (h8 : b.length ≤ 8) : ∀ n, (it rotR n b).count true = b.count true
  | 0 => rfl
  | n + 1 => by
    show (rotR (it rotR n b)).count true = _
    have e := it_R_len (b := b) n
    rw [(good_is (b := it rotR n b) (by omega) (by omega)).ct, it_R_ct h1 h8 n]
theorem behRR (b : List Bool) : ∀ n, behB rotR rotR n b = it rotR n b
  | 0 => rfl
  | n + 1 => by
    show (if n % 2 = 0 then rotR else rotR) (behB rotR rotR n b) = rotR (it rotR n b)
    rw [behRR b n]; split <;> rfl
theorem behRL {b : List Bool} (h1 : 1 ≤ b.length) (h8 : b.length ≤ 8) : ∀ n, behB rotR rotL (2 * n) b = b
  | 0 => rfl
  | n + 1 => by
    rw [show 2 * (n + 1) = 2 * n + 1 + 1 by omega, beh_o (by omega), beh_e (by omega), behRL h1 h8 n]
    exact (good_is h1 h8).lr
theorem filter_one {α : Type} [DecidableEq α] {p : α → Bool} {a : α} : ∀ {l : List α}, l.Nodup → a ∈ l → (∀ x ∈ l, p x = true ↔ x = a) → l.filter p = [a]
  | [], _, h, _ => by cases h
  | x :: l, hn, hm, hp => by
    have h2 := List.nodup_cons.mp hn
    by_cases e : x = a
    · subst e
      rw [List.filter_cons_of_pos ((hp x List.mem_cons_self).mpr rfl)]
      have : l.filter p = [] := List.filter_eq_nil_iff.mpr fun y hy hpy => by
        have := (hp y (List.mem_cons_of_mem _ hy)).mp hpy
        exact h2.1 (this ▸ hy)
      rw [this]
    · rw [List.filter_cons_of_neg fun hpx => e ((hp x List.mem_cons_self).mp hpx)]
      refine filter_one h2.2 ?_ fun y hy => hp y (List.mem_cons_of_mem _ hy)
      rcases List.mem_cons.mp hm with e2 | h
      · exact absurd e2.symm e
      · exact h
theorem before_one {b : List Bool} (h1 : 1 ≤ b.length) (h8 : b.length ≤ 8) : f_before [tb R1, tb b] = .ok (.list [tb (rotL b)]) := by
  rw [before_ok rl1 h1 h8, filter_one (a := rotL b) (allB_nodup _) (mem_allB _ _ (rotL_len b)) fun x hx => ?_]
  · rfl
  · have e := allB_len _ _ hx
    rw [decide_eq_true_eq]
    constructor
    · intro h; rw [← h, (good_is (b := x) (by omega) (by omega)).lr]
    · intro h; rw [h, (good_is h1 h8).rl]
theorem opens {n : Nat} (h1 : 1 ≤ n) (h8 : n ≤ 8) : f_is_open [tb R1, .int n] = .ok (.bool true) := open_ok rl1 h1 h8 fun a b ha hb e => by
  rw [← (good_is (b := a) (by omega) (by omega)).lr, e, (good_is (b := b) (by omega) (by omega)).lr]
theorem keepsR {n : Nat} (h1 : 1 ≤ n) (h8 : n ≤ 8) : f_keeps [tb R1, .int n] = .ok (.bool true) := keeps_ok rl1 h1 h8 fun a ha => (good_is (b := a) (by omega) (by omega)).ct
def isTx (r : R D) (x : List Nat) : Bool := match r with | .ok (.str y) => decide (y = tx x) | _ => false
theorem isTx_eq {r : R D} {x : List Nat} (h : isTx r x = true) : r = .ok (.str (tx x)) := by
  unfold isTx at h
  split at h
  · rw [of_decide_eq_true h]
  · cases h
theorem mirR : f_mirrored [tb R1] = .ok (tb R2) := isTx_eq (by decide +kernel)
end Gk94

set_option Elab.async false
set_option linter.all false
set_option maxRecDepth 100000
namespace Gk94
open PySem PySem.Spec PyProof.Rows L2 Vs
theorem cut_tb (b : List Bool) (lo hi : Option Int) (h : b.length ≤ 1000) : slD (tb b) lo hi = .ok (tb (cutA b lo hi)) := by
  have e : cutS (tx (b.map sg)) lo hi = tx ((cutA b lo hi).map sg) := by
    unfold cutS cutA tx
    have hl : (⟨(b.map sg).toArray⟩ : Str).length = b.length := by show (b.map sg).toArray.size = _; rw [List.size_toArray, List.length_map]
    simp only [List.map_take, List.map_drop, hl]
  show (lenOk (tx (b.map sg)).length >>= fun _ => .ok (.str (cutS (tx (b.map sg)) lo hi)) : R D) = _
  rw [lenOk_i (by rw [tx_len, List.length_map, sizeLine_eq]; omega), okb, e]
  rfl
theorem cut_hi {b : List Bool} {k : Nat} (h : k ≤ b.length) : cutA b (some (k : Int)) none = b.drop k := by
  unfold cutA
  rw [HT.sIx_nat, HT.sIx_none, Nat.min_eq_left h]
  exact List.take_of_length_le (by rw [List.length_drop]; omega)
theorem cut_lo {b : List Bool} {k : Nat} (h : k ≤ b.length) : cutA b none (some (k : Int)) = b.take k := by
  unfold cutA
  rw [HT.sIx_nat, HT.sIx_none, Nat.min_eq_left h, List.drop_zero, Nat.sub_zero]
theorem add_tb {a b : List Bool} (h : a.length + b.length ≤ 1000) : addD (tb a) (tb b) = .ok (tb (a ++ b)) := by
  unfold tb
  rw [add_tx (by rw [List.length_map, List.length_map]; omega), List.map_append]
theorem ne_self {d : D} (h : SeqAt.shaped d = true) (hs : ∀ x, d ≠ .str x) (he : PyData.eqv d d = true) : neD d d = .ok (.bool false) := by
  unfold neD
  split
  · exact absurd rfl (hs _)
  · rw [if_pos ⟨h, h⟩, he]; rfl
theorem ne_t2 (p : Int) : neD (.tuple [.int 0, .int p]) (.tuple [.int 0, .int p]) = .ok (.bool false) := ne_self rfl (fun _ => by simp) (by
  show ((0 : Int) == 0 && ((p == p) && true)) = true
  simp)
theorem ne_tt (p q : Int) : neD (.tuple [.int p, .int q]) (.tuple [.int p, .int q]) = .ok (.bool false) := ne_self rfl (fun _ => by simp) (by
  show ((p : Int) == p && ((q == q) && true)) = true
  simp)
theorem ev_bs : ∀ bs : List (List Bool), PyData.eqvAll (bs.map tb) (bs.map tb) = true
  | [] => rfl
  | b :: bs => by
    show (PyData.eqv (tb b) (tb b) && PyData.eqvAll (bs.map tb) (bs.map tb)) = true
    rw [ev_tb, ev_bs bs, decide_eq_true rfl]; rfl
theorem ne_bs (bs : List (List Bool)) : neD (.list (bs.map tb)) (.list (bs.map tb)) = .ok (.bool false) := ne_self (sh_bs bs) (fun _ => by simp) (ev_bs bs)
theorem ne_b1 (b : List Bool) : neD (.list [tb b]) (.list [tb b]) = .ok (.bool false) := ne_bs [b]
theorem ok_so (x : Bool) : (so x).canLay0 = true := by
  show PyData.strOk (tx [sho x]) = true
  cases x <;> decide +kernel
theorem lay_so : ∀ b : List Bool, PyData.canLayAll0 (b.map so) = true ∧ PyData.depthAll (b.map so) = 0 ∧ PyData.eqvAll (b.map so) (b.map so) = true
  | [] => ⟨rfl, rfl, rfl⟩
  | x :: b => by
    obtain ⟨h1, h2, h3⟩ := lay_so b
    refine ⟨?_, ?_, ?_⟩
    · show ((so x).canLay0 && PyData.canLayAll0 (b.map so)) = true
      rw [ok_so, h1]; rfl
    · show max 0 (PyData.depthAll (b.map so)) = 0
      rw [h2]; rfl
    · show (PyData.eqv (so x) (so x) && PyData.eqvAll (b.map so) (b.map so)) = true
      rw [h3]; cases x <;> rfl
theorem ne_sh (b : List Bool) : neD (sh b) (sh b) = .ok (.bool false) := by
  obtain ⟨h1, h2, h3⟩ := lay_so b
  refine ne_self ?_ (fun _ => by unfold sh; simp) h3
  unfold SeqAt.shaped sh
  rw [show (PyData.list (b.map so)).canLay0 = true from h1, Bool.true_and]
  refine decide_eq_true ?_
  show PyData.depthAll (b.map so) + 1 ≤ 64
  rw [h2]; decide
theorem len_sum : ∀ b : List Bool, ((b.map fun x => tx [sg x]).map (·.length)).sum = b.length
  | [] => rfl
  | x :: b => by
    rw [List.map_cons, List.map_cons, List.sum_cons, len_sum b, tx_len, List.length_cons]
    show 1 + b.length = b.length + 1
    omega
theorem flat_sg : ∀ b : List Bool, (b.map fun x => [sg x]).flatten = b.map sg
  | [] => rfl
  | x :: b => by rw [List.map_cons, List.flatten_cons, flat_sg b]; rfl
theorem join_tb (b : List Bool) (h8 : b.length ≤ 8) : joinD (.str (tx [])) (.list (b.map fun x => .str (tx [sg x]))) = .ok (tb b) := by
  have e : Vs.strs? (b.map fun x => PyData.str (tx [sg x])) = some (b.map fun x => tx [sg x]) := by
    have := Vs.strs_map (b.map fun x => tx [sg x])
    rw [List.map_map] at this
    exact this
  show (opt (Vs.strs? (b.map fun x => PyData.str (tx [sg x]))) >>= fun ys => if (ys.map (·.length)).sum + ys.length * (tx []).length ≤ 16777216 then .ok (.str (Str.join (tx []) ys)) else stk : R D) = _
  rw [e, opt_s, okb]
  have hs : ((b.map fun x => tx [sg x]).map (·.length)).sum = b.length := len_sum b
  rw [if_pos (by rw [hs, List.length_map]; show b.length + b.length * 0 ≤ _; omega)]
  have hj : Str.join (tx []) (b.map fun x => tx [sg x]) = tx (b.map sg) := by
    have := join_tx (b.map fun x => [sg x])
    rw [List.map_map] at this
    rw [show (b.map fun x => tx [sg x]) = b.map (tx ∘ fun x => [sg x]) from rfl, this]
    rw [flat_sg]
  rw [hj]; rfl
theorem ix_sg (x : Bool) : ixD (.str (tx [46, 35])) (.int (tn x)) = .ok (.str (tx [sg x])) := by
  cases x <;> rfl
theorem ix_sho (x : Bool) : ixD (.str (tx [46, 111])) (.int (tn x)) = .ok (so x) := by
  cases x <;> rfl
theorem intb (x : Bool) : intD [.bool x] = .ok (.int (tn x)) := by cases x <;> rfl
/-! ### the comprehensions of the law -/
theorem c_board {S Z : D} {F : Nat → Bool} {n : Nat} {at0 : Int} (h8 : n ≤ 8) {a2 a3 a4 a7 a8 a9 a10 a11 a12 a13 a14 a15 : Option D} (hF : ∀ t : Nat, f__law_mix [Z, .int (at0 + 2 + (t : Int)), .int 2] = .ok (.int (tn (F t)))) :
    m_law_c0 [some S, some Z, a2, a3, a4, some (.int at0), some (.int n), a7, a8, a9, a10, a11, a12, a13, a14, a15] = .ok (.list (((List.range n).map F).map fun x => .str (tx [sg x]))) := by
  have l1 : (".#" : Str) = tx [46, 35] := rfl
  have hrg : rg1 [.int (n : Int)] = .ok (rgD 0 n) := by rw [rg1_i (by omega)]; rfl
  have hl : lenOk n = .ok () := lenOk_i (by rw [sizeLine_eq]; omega)
  unfold m_law_c0
  rw [comp_is]
  simp -implicitDefEqProofs only [app1, app2, gN_ok, gO_ok, arg0, seq_eq, okb, setD, gv, gl_is, List.map_cons, List.map_nil, List.length_cons, List.length_nil, List.replicate, List.cons_append, List.nil_append, List.set_cons_succ, List.set_cons_zero, List.getElem?_cons_succ, List.getElem?_cons_zero, add_ii, sub_ii, mul_r, mul_l, mod_i, fdiv_i, lenD_l, lenD_t, lenD_scr, intD_i, intD_b, asB_b, lt_ii, le_ii, gt_ii, ge_ii, eq_ii, ne_ii, asI_i, itL_l, itT_t, noX_ok, fnD_is, ite_true, ite_false, Bool.false_eq_true, decide_true, decide_false, Nat.reduceAdd, Nat.reduceSub, reduceIte, tgN_is, min2_ii, max2_ii, abs_i, rg1_i, rg2_i, opt_s, ret_rt, retf_nx, and_self, true_and, and_true, or_true, true_or, not_true_eq_false, not_false_eq_true, Bool.not_true, Bool.not_false, Int.reduceLT, Int.reduceLE, Int.reduceNeg, Int.reducePow, Int.reduceAdd, Int.reduceSub, Int.reduceMul, Int.reduceMod, Int.reduceDiv, Int.reduceEq, Int.reduceNe, Nat.reduceLT, Nat.reduceLeDiff, Nat.reduceMul, Nat.reduceEqDiff, Int.reduceToNat, hrg, rg_len, hl, wipeD, l1]
  rw [lc_map (fun d => match d with | .int i => .str (tx [sg (F i.toNat)]) | _ => .none) _ fun d hd => by
    obtain ⟨i, hi⟩ := List.mem_iff_getElem?.mp hd
    obtain ⟨hi2, rfl⟩ := rg_at hi
    have q := hF i
    rw [Int.zero_add]
    simp -implicitDefEqProofs only [app1, app2, gN_ok, gO_ok, arg0, seq_eq, okb, setD, gv, gl_is, List.map_cons, List.map_nil, List.length_cons, List.length_nil, List.replicate, List.cons_append, List.nil_append, List.set_cons_succ, List.set_cons_zero, List.getElem?_cons_succ, List.getElem?_cons_zero, add_ii, sub_ii, mul_r, mul_l, mod_i, fdiv_i, lenD_l, lenD_t, lenD_scr, intD_i, intD_b, asB_b, lt_ii, le_ii, gt_ii, ge_ii, eq_ii, ne_ii, asI_i, itL_l, itT_t, noX_ok, fnD_is, ite_true, ite_false, Bool.false_eq_true, decide_true, decide_false, Nat.reduceAdd, Nat.reduceSub, reduceIte, tgN_is, min2_ii, max2_ii, abs_i, rg1_i, rg2_i, opt_s, ret_rt, retf_nx, and_self, true_and, and_true, or_true, true_or, not_true_eq_false, not_false_eq_true, Bool.not_true, Bool.not_false, Int.reduceLT, Int.reduceLE, Int.reduceNeg, Int.reducePow, Int.reduceAdd, Int.reduceSub, Int.reduceMul, Int.reduceMod, Int.reduceDiv, Int.reduceEq, Int.reduceNe, Nat.reduceLT, Nat.reduceLeDiff, Nat.reduceMul, Nat.reduceEqDiff, Int.reduceToNat, q, ix_sg, Int.toNat_natCast]]
  simp only [noX_ok, okb]
  unfold rgD
  rw [List.map_map, List.map_map]
  refine congrArg (fun l => (.ok (.list l) : R D)) (List.map_congr_left fun k _ => ?_)
  show PyData.str _ = PyData.str _
  rw [Int.zero_add]; rfl
theorem c_lights {b : List Bool} (h8 : b.length ≤ 8) {a0 a1 a2 a3 a4 a5 a6 a8 a9 a10 a11 a12 a13 a14 a15 : Option D} : m_law_c1 [a0, a1, a2, a3, a4, a5, a6, some (tb b), a8, a9, a10, a11, a12, a13, a14, a15] = .ok (li b) := by
  have hl : lenOk b.length = .ok () := lenOk_i (by rw [sizeLine_eq]; omega)
  have key : ∀ x : Bool, eqD (.str (tx [sg x])) (.str "#") = .ok (.bool x) := sg_eq
  unfold m_law_c1
  rw [comp_is]
  simp -implicitDefEqProofs only [app1, app2, gN_ok, gO_ok, arg0, seq_eq, okb, setD, gv, gl_is, List.map_cons, List.map_nil, List.length_cons, List.length_nil, List.replicate, List.cons_append, List.nil_append, List.set_cons_succ, List.set_cons_zero, List.getElem?_cons_succ, List.getElem?_cons_zero, add_ii, sub_ii, mul_r, mul_l, mod_i, fdiv_i, lenD_l, lenD_t, lenD_scr, intD_i, intD_b, asB_b, lt_ii, le_ii, gt_ii, ge_ii, eq_ii, ne_ii, asI_i, itL_l, itT_t, noX_ok, fnD_is, ite_true, ite_false, Bool.false_eq_true, decide_true, decide_false, Nat.reduceAdd, Nat.reduceSub, reduceIte, tgN_is, min2_ii, max2_ii, abs_i, rg1_i, rg2_i, opt_s, ret_rt, retf_nx, and_self, true_and, and_true, or_true, true_or, not_true_eq_false, not_false_eq_true, Bool.not_true, Bool.not_false, Int.reduceLT, Int.reduceLE, Int.reduceNeg, Int.reducePow, Int.reduceAdd, Int.reduceSub, Int.reduceMul, Int.reduceMod, Int.reduceDiv, Int.reduceEq, Int.reduceNe, Nat.reduceLT, Nat.reduceLeDiff, Nat.reduceMul, Nat.reduceEqDiff, Int.reduceToNat, itT, List.length_map, hl, wipeD]
  have loop : ∀ ys : List Bool, lcD (tgN 14) (fun ρ => .ok true) (fun ρ => (((gv ρ 14 >>= fun x => .ok (.str "#") >>= fun y => eqD x y) >>= fun x => .ok [] >>= fun xs => .ok (x :: xs)) >>= intD)) [a0, a1, a2, a3, a4, a5, a6, some (tb b), a8, a9, a10, a11, a12, a13, none, a15] (ys.map fun x => .str (tx [sg x])) = .ok (ys.map fun x => .int (tn x)) := by
    intro ys
    induction ys with
    | nil => rfl
    | cons t ys ih =>
      rw [List.map_cons, lc_is, ih]
      simp -implicitDefEqProofs only [okb, gv, tgN_is, List.set_cons_succ, List.set_cons_zero, List.getElem?_cons_succ, List.getElem?_cons_zero, key, intb, ite_true, List.map_cons]
  exact congrArg (fun r => (noX r >>= fun ys => .ok (.list ys) : R D)) (loop b)
theorem c_shelf {b : List Bool} (h8 : b.length ≤ 8) {a0 a1 a2 a3 a4 a5 a6 a8 a9 a10 a11 a12 a13 a14 a15 : Option D} : m_law_c2 [a0, a1, a2, a3, a4, a5, a6, some (tb b), a8, a9, a10, a11, a12, a13, a14, a15] = .ok (sh b) := by
  have hl : lenOk b.length = .ok () := lenOk_i (by rw [sizeLine_eq]; omega)
  have key : ∀ x : Bool, eqD (.str (tx [sg x])) (.str "#") = .ok (.bool x) := sg_eq
  have k2 : ∀ x : Bool, ixD (.str ".o") (.int (tn x)) = .ok (so x) := ix_sho
  unfold m_law_c2
  rw [comp_is]
  simp -implicitDefEqProofs only [app1, app2, gN_ok, gO_ok, arg0, seq_eq, okb, setD, gv, gl_is, List.map_cons, List.map_nil, List.length_cons, List.length_nil, List.replicate, List.cons_append, List.nil_append, List.set_cons_succ, List.set_cons_zero, List.getElem?_cons_succ, List.getElem?_cons_zero, add_ii, sub_ii, mul_r, mul_l, mod_i, fdiv_i, lenD_l, lenD_t, lenD_scr, intD_i, intD_b, asB_b, lt_ii, le_ii, gt_ii, ge_ii, eq_ii, ne_ii, asI_i, itL_l, itT_t, noX_ok, fnD_is, ite_true, ite_false, Bool.false_eq_true, decide_true, decide_false, Nat.reduceAdd, Nat.reduceSub, reduceIte, tgN_is, min2_ii, max2_ii, abs_i, rg1_i, rg2_i, opt_s, ret_rt, retf_nx, and_self, true_and, and_true, or_true, true_or, not_true_eq_false, not_false_eq_true, Bool.not_true, Bool.not_false, Int.reduceLT, Int.reduceLE, Int.reduceNeg, Int.reducePow, Int.reduceAdd, Int.reduceSub, Int.reduceMul, Int.reduceMod, Int.reduceDiv, Int.reduceEq, Int.reduceNe, Nat.reduceLT, Nat.reduceLeDiff, Nat.reduceMul, Nat.reduceEqDiff, Int.reduceToNat, itT, List.length_map, hl, wipeD]
  have loop : ∀ ys : List Bool, lcD (tgN 14) (fun ρ => .ok true) (fun ρ => (.ok (.str ".o") >>= fun x => (((gv ρ 14 >>= fun x => .ok (.str "#") >>= fun y => eqD x y) >>= fun x => .ok [] >>= fun xs => .ok (x :: xs)) >>= intD) >>= fun y => ixD x y)) [a0, a1, a2, a3, a4, a5, a6, some (tb b), a8, a9, a10, a11, a12, a13, none, a15] (ys.map fun x => .str (tx [sg x])) = .ok (ys.map so) := by
    intro ys
    induction ys with
    | nil => rfl
    | cons t ys ih =>
      rw [List.map_cons, lc_is, ih]
      simp -implicitDefEqProofs only [okb, gv, tgN_is, List.set_cons_succ, List.set_cons_zero, List.getElem?_cons_succ, List.getElem?_cons_zero, key, intb, k2, ite_true, List.map_cons]
  exact congrArg (fun r => (noX r >>= fun ys => .ok (.list ys) : R D)) (loop b)
theorem c_told {b : List Bool} (h1 : 1 ≤ b.length) (h8 : b.length ≤ 8) {a0 a1 a3 a4 a5 a6 a8 a9 a10 a11 a12 a13 a14 a15 : Option D} : m_law_c3 [a0, a1, some (tb R1), a3, a4, a5, a6, some (tb b), a8, a9, a10, a11, a12, a13, a14, a15] = .ok (sh (rotR b)) := by
  have hl : lenOk (rotR b).length = .ok () := lenOk_i (by rw [sizeLine_eq, rotR_len]; omega)
  have key : ∀ x : Bool, eqD (.str (tx [sg x])) (.str "#") = .ok (.bool x) := sg_eq
  have k2 : ∀ x : Bool, ixD (.str ".o") (.int (tn x)) = .ok (so x) := ix_sho
  have hr := round_ok rl1 h1 h8
  unfold m_law_c3
  rw [comp_is]
  simp -implicitDefEqProofs only [app1, app2, gN_ok, gO_ok, arg0, seq_eq, okb, setD, gv, gl_is, List.map_cons, List.map_nil, List.length_cons, List.length_nil, List.replicate, List.cons_append, List.nil_append, List.set_cons_succ, List.set_cons_zero, List.getElem?_cons_succ, List.getElem?_cons_zero, add_ii, sub_ii, mul_r, mul_l, mod_i, fdiv_i, lenD_l, lenD_t, lenD_scr, intD_i, intD_b, asB_b, lt_ii, le_ii, gt_ii, ge_ii, eq_ii, ne_ii, asI_i, itL_l, itT_t, noX_ok, fnD_is, ite_true, ite_false, Bool.false_eq_true, decide_true, decide_false, Nat.reduceAdd, Nat.reduceSub, reduceIte, tgN_is, min2_ii, max2_ii, abs_i, rg1_i, rg2_i, opt_s, ret_rt, retf_nx, and_self, true_and, and_true, or_true, true_or, not_true_eq_false, not_false_eq_true, Bool.not_true, Bool.not_false, Int.reduceLT, Int.reduceLE, Int.reduceNeg, Int.reducePow, Int.reduceAdd, Int.reduceSub, Int.reduceMul, Int.reduceMod, Int.reduceDiv, Int.reduceEq, Int.reduceNe, Nat.reduceLT, Nat.reduceLeDiff, Nat.reduceMul, Nat.reduceEqDiff, Int.reduceToNat, hr, itT, List.length_map, hl, wipeD]
  have loop : ∀ ys : List Bool, lcD (tgN 14) (fun ρ => .ok true) (fun ρ => (.ok (.str ".o") >>= fun x => (((gv ρ 14 >>= fun x => .ok (.str "#") >>= fun y => eqD x y) >>= fun x => .ok [] >>= fun xs => .ok (x :: xs)) >>= intD) >>= fun y => ixD x y)) [a0, a1, some (tb R1), a3, a4, a5, a6, some (tb b), a8, a9, a10, a11, a12, a13, none, a15] (ys.map fun x => .str (tx [sg x])) = .ok (ys.map so) := by
    intro ys
    induction ys with
    | nil => rfl
    | cons t ys ih =>
      rw [List.map_cons, lc_is, ih]
      simp -implicitDefEqProofs only [okb, gv, tgN_is, List.set_cons_succ, List.set_cons_zero, List.getElem?_cons_succ, List.getElem?_cons_zero, key, intb, k2, ite_true, List.map_cons]
  exact congrArg (fun r => (noX r >>= fun ys => .ok (.list ys) : R D)) (loop (rotR b))
/-! ### one turn -/
theorem cnt46 : ∀ b : List Bool, ((b.map sg).count 46 : Int) = b.length - b.count true
  | [] => rfl
  | y :: b => by
    have ih := cnt46 b
    rw [List.map_cons, List.count_cons, List.count_cons, List.length_cons]
    cases y
    · show ((List.count 46 (b.map sg) + 1 : Nat) : Int) = ((b.length + 1 : Nat) : Int) - ((List.count true b + 0 : Nat) : Int)
      omega
    · show ((List.count 46 (b.map sg) + 0 : Nat) : Int) = ((b.length + 1 : Nat) : Int) - ((List.count true b + 1 : Nat) : Int)
      omega
theorem mix_is : f__law_mix = f_mix := rfl
theorem tn_of {r : Int} (h0 : 0 ≤ r) (h2 : r < 2) : ∃ x : Bool, r = (tn x : Int) := by
  by_cases e : r = 0
  · exact ⟨false, by rw [e]; rfl⟩
  · exact ⟨true, by show r = 1; omega⟩
theorem turn_ok {S : D} {zs : List Int} {k : Nat} {a5 a6 a7 a8 a9 a10 a11 a12 a13 a14 a15 : Option D} :
    gN (m_law_b0 [some S, some (.list (zs.map .int)), some (tb R1), some (tb R2), some (.int k), a5, a6, a7, a8, a9, a10, a11, a12, a13, a14, a15]) fun ρ => ∃ a4 a5 a6 a7 a8 a9 a10 a11 a12 a13 a14 a15, ρ = [some S, some (.list (zs.map .int)), some (tb R1), some (tb R2), a4, a5, a6, a7, a8, a9, a10, a11, a12, a13, a14, a15] := by
  obtain ⟨r8, p1, p2, m8⟩ := mix_ok (zs := zs) (k := 10 + 12 * (k : Int)) (many := 8) (by omega) (by decide)
  obtain ⟨rs, q1, q2, ms⟩ := mix_ok (zs := zs) (k := 10 + 12 * (k : Int) + 1) (many := 12) (by omega) (by decide)
  have hx : ∀ t : Nat, ∃ x : Bool, f__law_mix [.list (zs.map .int), .int (10 + 12 * (k : Int) + 2 + (t : Int)), .int 2] = .ok (.int (tn x)) := fun t => by
    obtain ⟨r, w1, w2, w3⟩ := mix_ok (zs := zs) (k := 10 + 12 * (k : Int) + 2 + (t : Int)) (many := 2) (by omega) (by decide)
    obtain ⟨x, e⟩ := tn_of w1 w2
    exact ⟨x, by rw [mix_is, w3, e]⟩
  obtain ⟨F, hF⟩ : ∃ F : Nat → Bool, ∀ t : Nat, f__law_mix [.list (zs.map .int), .int (10 + 12 * (k : Int) + 2 + (t : Int)), .int 2] = .ok (.int (tn (F t))) := ⟨fun t => (hx t).choose, fun t => (hx t).choose_spec⟩
  obtain ⟨n, hn⟩ : ∃ n : Nat, (1 : Int) + r8 = n := ⟨(1 + r8).toNat, by omega⟩
  obtain ⟨s, hs⟩ : ∃ s : Nat, rs = s := ⟨rs.toNat, by omega⟩
  subst hs
  have hn1 : 1 ≤ n := by omega
  have hn8 : n ≤ 8 := by omega
  generalize hb : (List.range n).map F = b
  have lb : b.length = n := by rw [← hb, List.length_map, List.length_range]
  have h1 : 1 ≤ b.length := by omega
  have h8 : b.length ≤ 8 := by omega
  have hc0 := fun a7 a8 a9 a10 a11 a12 a13 a14 a15 => c_board (S := S) (Z := .list (zs.map .int)) (at0 := 10 + 12 * (k : Int)) hn8 (a2 := some (tb R1)) (a3 := some (tb R2)) (a4 := some (.int k)) (a7 := a7) (a8 := a8) (a9 := a9) (a10 := a10) (a11 := a11) (a12 := a12) (a13 := a13) (a14 := a14) (a15 := a15) hF
  rw [hb] at hc0
  have G := good_is h1 h8
  have hp := G.p1
  obtain ⟨x, hx⟩ : ∃ x, b.getLast? = some x := by
    cases e : b.getLast? with
    | none => rw [List.getLast?_eq_none_iff] at e; rw [e] at h1; exact absurd h1 (by decide)
    | some x => exact ⟨x, rfl⟩
  have M8 : f__law_mix [.list (zs.map .int), .int (10 + 12 * (k : Int)), .int 8] = .ok (.int r8) := m8
  have MS : f__law_mix [.list (zs.map .int), .int (10 + 12 * (k : Int) + 1), .int 12] = .ok (.int (s : Int)) := ms
  have L0 : (.str "" : D) = .str (tx []) := rfl
  have OZ : opt (match (PyData.str (tx []) : D) with | .str z => some z | _ => none) = .ok (tx []) := rfl
  have JO := join_tb b h8
  have AL : addD (li b) (li b) = .ok (li (b ++ b)) := by
    unfold li
    show (if (b.map fun x => PyData.int (tn x)).length + (b.map fun x => PyData.int (tn x)).length ≤ sizeLine then _ else _ : R D) = _
    rw [if_pos (by rw [List.length_map, sizeLine_eq]; omega), List.map_append]
  have LP := least_ok (c := b ++ b) (p := lpB b) (by rw [List.length_append]; omega) G.p1 (by rw [List.length_append]; have := G.pn; omega) G.py G.pj
  have C1 := comes_ok rl1 h1 h8 G.p1 G.p8 G.rr G.ar
  have C2 := comes_ok rl2 h1 h8 G.p1 G.p8 G.ll G.al
  have K1 : lenOk 1 = .ok () := lenOk_i (by rw [sizeLine_eq]; decide)
  have K2 : lenOk 2 = .ok () := lenOk_i (by rw [sizeLine_eq]; decide)
  have PP : (0 : Int) < (lpB b : Int) := by omega
  have DV : (n : Int) % (lpB b : Int) = 0 := by have := G.dv; rw [lb] at this; omega
  have RR := round_ok rl1 h1 h8
  have RL := round_ok rl2 h1 h8
  have RLR : f_round_of [tb R2, tb (rotR b)] = .ok (tb b) := by
    have e := rotR_len b
    rw [round_ok rl2 (b := rotR b) (by omega) (by omega), G.lr]
  have e1 : (n : Int) - 1 = ((b.length - 1 : Nat) : Int) := by omega
  have S1 : slD (tb b) (some ((n : Int) - 1)) none = .ok (tb (b.drop (b.length - 1))) := by rw [cut_tb b _ _ (by omega), e1, cut_hi (by omega)]
  have S2 : slD (tb b) none (some ((n : Int) - 1)) = .ok (tb (b.take (b.length - 1))) := by rw [cut_tb b _ _ (by omega), e1, cut_lo (by omega)]
  have AD : addD (tb (b.drop (b.length - 1))) (tb (b.take (b.length - 1))) = .ok (tb (rotR b)) := add_tb (by rw [List.length_drop, List.length_take]; omega)
  have NE : ∀ a : List Bool, neD (tb a) (tb a) = .ok (.bool false) := fun a => by rw [ne_tb, decide_eq_true rfl]; rfl
  have OP : f_is_open [tb R1, .int (n : Int)] = .ok (.bool true) := opens hn1 hn8
  have KE : f_keeps [tb R1, .int (n : Int)] = .ok (.bool true) := keepsR hn1 hn8
  have NB : notBD (.bool true) (.bool true) = .ok (.bool false) := rfl
  have BE := before_one h1 h8
  have P1 : f_played [tb R1, tb R2, tb b, .int (2 * (s : Int))] = .ok (tb b) := by
    have := played_ok rl1 rl2 h1 h8 (m := 2 * s) (by omega)
    rw [behRL h1 h8, show ((2 * s : Nat) : Int) = 2 * (s : Int) by omega] at this
    exact this
  have HA : f_has [tb R1, tb R1, tb b, .int (s : Int)] = .ok (.tuple [.int (b.count true), .int (b.length - b.count true)]) := by
    have := has_ok rl1 rl1 h1 h8 (m := s) (by omega)
    rw [behRR, it_R_ct h1 h8] at this
    exact this
  have CT : countD (tb b) (.str "#") = .ok (.int (b.count true)) := cntT b
  have CF : countD (tb b) (.str ".") = .ok (.int (b.length - b.count true)) := by
    have e : countD (tb b) (.str ".") = .ok (.int ((b.map sg).count 46)) := cnt_tx (b.map sg) 46
    rw [e]
    rw [cnt46]
  have RO := rounds_ok rl1 h1 h8 (m := s) (by omega)
  have P2 : f_played [tb R1, tb R1, tb b, .int (s : Int)] = .ok (tb (it rotR s b)) := by
    have := played_ok rl1 rl1 h1 h8 (m := s) (by omega)
    rw [behRR] at this
    exact this
  have XL : ixD (tb b) (.int (-1)) = .ok (.str (tx [sg x])) := ix_tb (by omega) (by
    rw [atI_cyc (j := b.length - 1) (by omega) (.inr (by omega))]
    rw [List.getLast?_eq_getElem?, List.getElem?_eq_getElem (by omega)] at hx
    exact hx)
  have EH : eqD (.str (tx [sg x])) (.str "#") = .ok (.bool x) := sg_eq x
  have ED : eqD (.str (tx [sg x])) (.str ".") = .ok (.bool (!x)) := by cases x <;> rfl
  have TI : f_tilted [sh b] = .ok (.tuple [sh (false :: b.dropLast), .int (if x = true then 1 else 0)]) := by
    rw [tilted_ok hx h1 h8]; cases x <;> rfl
  have SP : b = b.dropLast ++ [x] := by
    have hne : b ≠ [] := fun e => by rw [e] at h1; exact absurd h1 (by decide)
    rw [List.getLast?_eq_getLast hne] at hx
    have := List.dropLast_concat_getLast hne
    rw [Option.some.inj hx] at this
    exact this.symm
  have CO : f_coins [sh (false :: b.dropLast)] = .ok (.int ((b.count true : Int) - (if x = true then 1 else 0))) := by
    rw [coins_ok (by rw [List.length_cons]; omega) (by rw [List.length_cons, List.length_dropLast]; omega)]
    refine congrArg (fun i : Int => (.ok (.int i) : R D)) ?_
    have e2 : b.count true = b.dropLast.count true + (if x = true then 1 else 0) := by
      conv => lhs; rw [SP]
      rw [List.count_append, List.count_cons, List.count_nil]
      cases x <;> rfl
    rw [e2, List.count_cons]
    cases x <;> simp
  have RT : x = false → rotR b = false :: b.dropLast := fun e => by
    have e3 : b.length - 1 = b.dropLast.length := by rw [List.length_dropLast]
    unfold rotR
    rw [e3]
    conv => lhs; rw [SP]
    rw [List.drop_left' (by rw [List.dropLast_concat]), List.take_left' (by rw [List.dropLast_concat]), e]
    rfl
  by_cases sp : (0 : Int) < (s : Int)
  · have IX : ixD (.list ((List.range s).map fun j => tb (it rotR (j + 1) b))) (.int (-1)) = .ok (tb (it rotR s b)) := ix_li (by
      rw [atI_cyc (j := s - 1) (by rw [List.length_map, List.length_range]; omega) (.inr (by rw [List.length_map, List.length_range]; omega))]
      rw [List.getElem_map, List.getElem_range, show s - 1 + 1 = s by omega])
    cases x
    · have RT2 := RT rfl
      have NS : neD (sh (false :: b.dropLast)) (sh (rotR b)) = .ok (.bool false) := by rw [RT2]; exact ne_sh _
      simp -implicitDefEqProofs only [app1, app2, gN_ok, gO_ok, arg0, seq_eq, okb, setD, gv, gl_is, List.map_cons, List.map_nil, List.length_cons, List.length_nil, List.replicate, List.cons_append, List.nil_append, List.set_cons_succ, List.set_cons_zero, List.getElem?_cons_succ, List.getElem?_cons_zero, add_ii, sub_ii, mul_r, mul_l, mod_i, fdiv_i, lenD_l, lenD_t, lenD_scr, intD_i, intD_b, asB_b, lt_ii, le_ii, gt_ii, ge_ii, eq_ii, ne_ii, asI_i, itL_l, itT_t, noX_ok, fnD_is, ite_true, ite_false, Bool.false_eq_true, decide_true, decide_false, Nat.reduceAdd, Nat.reduceSub, reduceIte, tgN_is, min2_ii, max2_ii, abs_i, rg1_i, rg2_i, opt_s, ret_rt, retf_nx, and_self, true_and, and_true, or_true, true_or, not_true_eq_false, not_false_eq_true, Bool.not_true, Bool.not_false, Int.reduceLT, Int.reduceLE, Int.reduceNeg, Int.reducePow, Int.reduceAdd, Int.reduceSub, Int.reduceMul, Int.reduceMod, Int.reduceDiv, Int.reduceEq, Int.reduceNe, Nat.reduceLT, Nat.reduceLeDiff, Nat.reduceMul, Nat.reduceEqDiff, Int.reduceToNat, m_law_b0, M8, hn, L0, OZ, hc0, JO, c_lights h8, AL, LP, C1, C2, K1, K2, ne_t2, PP, DV, RR, RL, RLR, S1, S2, AD, NE, OP, KE, NB, BE, ne_b1, MS, P1, HA, asT, CT, CF, ne_tt, RO, List.length_map, List.length_range, eq_self, sp, P2, IX, c_shelf h8, TI, unT, tsC, tsN, XL, EH, ED, CO, c_told h1 h8, NS, Int.sub_zero]
      exact ⟨_, _, _, _, _, _, _, _, _, _, _, _, rfl⟩
    · simp -implicitDefEqProofs only [app1, app2, gN_ok, gO_ok, arg0, seq_eq, okb, setD, gv, gl_is, List.map_cons, List.map_nil, List.length_cons, List.length_nil, List.replicate, List.cons_append, List.nil_append, List.set_cons_succ, List.set_cons_zero, List.getElem?_cons_succ, List.getElem?_cons_zero, add_ii, sub_ii, mul_r, mul_l, mod_i, fdiv_i, lenD_l, lenD_t, lenD_scr, intD_i, intD_b, asB_b, lt_ii, le_ii, gt_ii, ge_ii, eq_ii, ne_ii, asI_i, itL_l, itT_t, noX_ok, fnD_is, ite_true, ite_false, Bool.false_eq_true, decide_true, decide_false, Nat.reduceAdd, Nat.reduceSub, reduceIte, tgN_is, min2_ii, max2_ii, abs_i, rg1_i, rg2_i, opt_s, ret_rt, retf_nx, and_self, true_and, and_true, or_true, true_or, not_true_eq_false, not_false_eq_true, Bool.not_true, Bool.not_false, Int.reduceLT, Int.reduceLE, Int.reduceNeg, Int.reducePow, Int.reduceAdd, Int.reduceSub, Int.reduceMul, Int.reduceMod, Int.reduceDiv, Int.reduceEq, Int.reduceNe, Nat.reduceLT, Nat.reduceLeDiff, Nat.reduceMul, Nat.reduceEqDiff, Int.reduceToNat, m_law_b0, M8, hn, L0, OZ, hc0, JO, c_lights h8, AL, LP, C1, C2, K1, K2, ne_t2, PP, DV, RR, RL, RLR, S1, S2, AD, NE, OP, KE, NB, BE, ne_b1, MS, P1, HA, asT, CT, CF, ne_tt, RO, List.length_map, List.length_range, eq_self, sp, P2, IX, c_shelf h8, TI, unT, tsC, tsN, XL, EH, ED, CO, Int.sub_zero]
      exact ⟨_, _, _, _, _, _, _, _, _, _, _, _, rfl⟩
  · cases x
    · have RT2 := RT rfl
      have NS : neD (sh (false :: b.dropLast)) (sh (rotR b)) = .ok (.bool false) := by rw [RT2]; exact ne_sh _
      simp -implicitDefEqProofs only [app1, app2, gN_ok, gO_ok, arg0, seq_eq, okb, setD, gv, gl_is, List.map_cons, List.map_nil, List.length_cons, List.length_nil, List.replicate, List.cons_append, List.nil_append, List.set_cons_succ, List.set_cons_zero, List.getElem?_cons_succ, List.getElem?_cons_zero, add_ii, sub_ii, mul_r, mul_l, mod_i, fdiv_i, lenD_l, lenD_t, lenD_scr, intD_i, intD_b, asB_b, lt_ii, le_ii, gt_ii, ge_ii, eq_ii, ne_ii, asI_i, itL_l, itT_t, noX_ok, fnD_is, ite_true, ite_false, Bool.false_eq_true, decide_true, decide_false, Nat.reduceAdd, Nat.reduceSub, reduceIte, tgN_is, min2_ii, max2_ii, abs_i, rg1_i, rg2_i, opt_s, ret_rt, retf_nx, and_self, true_and, and_true, or_true, true_or, not_true_eq_false, not_false_eq_true, Bool.not_true, Bool.not_false, Int.reduceLT, Int.reduceLE, Int.reduceNeg, Int.reducePow, Int.reduceAdd, Int.reduceSub, Int.reduceMul, Int.reduceMod, Int.reduceDiv, Int.reduceEq, Int.reduceNe, Nat.reduceLT, Nat.reduceLeDiff, Nat.reduceMul, Nat.reduceEqDiff, Int.reduceToNat, m_law_b0, M8, hn, L0, OZ, hc0, JO, c_lights h8, AL, LP, C1, C2, K1, K2, ne_t2, PP, DV, RR, RL, RLR, S1, S2, AD, NE, OP, KE, NB, BE, ne_b1, MS, P1, HA, asT, CT, CF, ne_tt, RO, List.length_map, List.length_range, eq_self, sp, c_shelf h8, TI, unT, tsC, tsN, XL, EH, ED, CO, c_told h1 h8, NS, Int.sub_zero]
      exact ⟨_, _, _, _, _, _, _, _, _, _, _, _, rfl⟩
    · simp -implicitDefEqProofs only [app1, app2, gN_ok, gO_ok, arg0, seq_eq, okb, setD, gv, gl_is, List.map_cons, List.map_nil, List.length_cons, List.length_nil, List.replicate, List.cons_append, List.nil_append, List.set_cons_succ, List.set_cons_zero, List.getElem?_cons_succ, List.getElem?_cons_zero, add_ii, sub_ii, mul_r, mul_l, mod_i, fdiv_i, lenD_l, lenD_t, lenD_scr, intD_i, intD_b, asB_b, lt_ii, le_ii, gt_ii, ge_ii, eq_ii, ne_ii, asI_i, itL_l, itT_t, noX_ok, fnD_is, ite_true, ite_false, Bool.false_eq_true, decide_true, decide_false, Nat.reduceAdd, Nat.reduceSub, reduceIte, tgN_is, min2_ii, max2_ii, abs_i, rg1_i, rg2_i, opt_s, ret_rt, retf_nx, and_self, true_and, and_true, or_true, true_or, not_true_eq_false, not_false_eq_true, Bool.not_true, Bool.not_false, Int.reduceLT, Int.reduceLE, Int.reduceNeg, Int.reducePow, Int.reduceAdd, Int.reduceSub, Int.reduceMul, Int.reduceMod, Int.reduceDiv, Int.reduceEq, Int.reduceNe, Nat.reduceLT, Nat.reduceLeDiff, Nat.reduceMul, Nat.reduceEqDiff, Int.reduceToNat, m_law_b0, M8, hn, L0, OZ, hc0, JO, c_lights h8, AL, LP, C1, C2, K1, K2, ne_t2, PP, DV, RR, RL, RLR, S1, S2, AD, NE, OP, KE, NB, BE, ne_b1, MS, P1, HA, asT, CT, CF, ne_tt, RO, List.length_map, List.length_range, eq_self, sp, c_shelf h8, TI, unT, tsC, tsN, XL, EH, ED, CO, Int.sub_zero]
      exact ⟨_, _, _, _, _, _, _, _, _, _, _, _, rfl⟩
end Gk94

set_option Elab.async false
set_option linter.all false
set_option maxRecDepth 100000
namespace Gk94
open PySem PySem.Spec PyProof.Rows L2 Vs
theorem draws_is : f__law_draws = f_draws := rfl
theorem litR1 : (.str "....####" : D) = tb R1 := rfl
theorem litR2 : (.str ".#.#.#.#" : D) = tb R2 := rfl
theorem rg4 : rg1 [.int 4] = .ok (rgD 0 4) := rg1_i (by decide)
theorem law_true (ns : List Int) (hl : ns.length ≤ 63) : f_law [.dict [(.none, .list (ns.map .int)), (.none, .none)]] = .ok (.bool true) := by
  obtain ⟨zs, hd⟩ := draws_ok ns
  have HD : f__law_draws [.dict [(.none, .list (ns.map .int)), (.none, .none)]] = .ok (.list (zs.map .int)) := by rw [draws_is]; exact hd
  have loop := for_rel (tg := tgN 4) (fb := m_law_b0) (fun i ρ => ∃ a4 a5 a6 a7 a8 a9 a10 a11 a12 a13 a14 a15, ρ = [some (scr ns), some (.list (zs.map .int)), some (tb R1), some (tb R2), a4, a5, a6, a7, a8, a9, a10, a11, a12, a13, a14, a15]) (rgD 0 4) 0 [some (scr ns), some (.list (zs.map .int)), some (tb R1), some (tb R2), none, none, none, none, none, none, none, none, none, none, none, none] ⟨_, _, _, _, _, _, _, _, _, _, _, _, rfl⟩ fun i d ρ hd hI => by
    obtain ⟨hi, rfl⟩ := rg_at hd
    obtain ⟨a4, a5, a6, a7, a8, a9, a10, a11, a12, a13, a14, a15, rfl⟩ := hI
    rw [Int.zero_add]
    simp -implicitDefEqProofs only [tgN_is, okb, List.set_cons_succ, List.set_cons_zero]
    exact turn_ok
  obtain ⟨ρ, e1, a4, a5, a6, a7, a8, a9, a10, a11, a12, a13, a14, a15, rfl⟩ := loop
  have E1 := litR1
  have E2 := litR2
  have NE : neD (tb R2) (tb R2) = .ok (.bool false) := by rw [ne_tb, decide_eq_true rfl]; rfl
  have RG : rg1 [.int 4] = .ok (rgD 0 4) := rg4
  unfold scr at e1
  unfold f_law
  simp -implicitDefEqProofs only [app1, app2, gN_ok, gO_ok, arg0, seq_eq, okb, setD, gv, gl_is, List.map_cons, List.map_nil, List.length_cons, List.length_nil, List.replicate, List.cons_append, List.nil_append, List.set_cons_succ, List.set_cons_zero, List.getElem?_cons_succ, List.getElem?_cons_zero, add_ii, sub_ii, mul_r, mul_l, mod_i, fdiv_i, lenD_l, lenD_t, lenD_scr, intD_i, intD_b, asB_b, lt_ii, le_ii, gt_ii, ge_ii, eq_ii, ne_ii, asI_i, itL_l, itT_t, noX_ok, fnD_is, ite_true, ite_false, Bool.false_eq_true, decide_true, decide_false, Nat.reduceAdd, Nat.reduceSub, reduceIte, tgN_is, min2_ii, max2_ii, abs_i, rg1_i, rg2_i, opt_s, ret_rt, retf_nx, and_self, true_and, and_true, or_true, true_or, not_true_eq_false, not_false_eq_true, Bool.not_true, Bool.not_false, Int.reduceLT, Int.reduceLE, Int.reduceNeg, Int.reducePow, Int.reduceAdd, Int.reduceSub, Int.reduceMul, Int.reduceMod, Int.reduceDiv, Int.reduceEq, Int.reduceNe, Nat.reduceLT, Nat.reduceLeDiff, Nat.reduceMul, Nat.reduceEqDiff, Int.reduceToNat, m_law, HD, E1, E2, mirR, NE, RG, e1]
end Gk94

set_option Elab.async false
set_option linter.all false
set_option maxRecDepth 100000
namespace Gk94
open PySem PySem.Spec PyProof.Rows L2 Vs
theorem all_mk {l : PySem.W.OpenLaw} {w : World} {K : PySem.W.Frag} {h : Heap} {mg : Str → Option Value} {fa : Addr} (X : K.In h) (G : h.Ns mainGlobals mg) (hfa : mg "law" = some (.ref fa))
    {f0 f1 f2 f3 f4 f5 f6 f7 f8 f9 f10 f11 f12 f13 f14 f15 f16 f17 f18 f19 f20 f21 f22 f23 f24 f25 f26 f27 f28 f29 : Addr} {od0 an0 od1 an1 od2 an2 od3 an3 od4 an4 od5 an5 od6 an6 od7 an7 od8 an8 od9 an9 od10 an10 od11 an11 od12 an12 od13 an13 od14 an14 od15 an15 od16 an16 od17 an17 od18 an18 od19 an19 od20 an20 od21 an21 od22 an22 od23 an23 od24 an24 od25 an25 od26 an26 od27 an27 od28 an28 od29 an29 : Option Addr} {sl0 sl1 sl2 sl3 sl4 sl5 sl6 sl7 sl8 sl9 sl10 sl11 sl12 sl13 sl14 sl15 sl16 sl17 sl18 sl19 sl20 sl21 sl22 sl23 sl24 sl25 sl26 sl27 sl28 sl29 : Array (Option Value)} {oc0 kV0 dc0 pm0 cd0 ct0 oc1 kV1 dc1 pm1 cd1 ct1 oc2 kV2 dc2 pm2 cd2 ct2 oc3 kV3 dc3 pm3 cd3 ct3 oc4 kV4 dc4 pm4 cd4 ct4 oc5 kV5 dc5 pm5 cd5 ct5 oc6 kV6 dc6 pm6 cd6 ct6 oc7 kV7 dc7 pm7 cd7 ct7 oc8 kV8 dc8 pm8 cd8 ct8 oc9 kV9 dc9 pm9 cd9 ct9 oc10 kV10 dc10 pm10 cd10 ct10 oc11 kV11 dc11 pm11 cd11 ct11 oc12 kV12 dc12 pm12 cd12 ct12 oc13 kV13 dc13 pm13 cd13 ct13 oc14 kV14 dc14 pm14 cd14 ct14 oc15 kV15 dc15 pm15 cd15 ct15 oc16 kV16 dc16 pm16 cd16 ct16 oc17 kV17 dc17 pm17 cd17 ct17 oc18 kV18 dc18 pm18 cd18 ct18 oc19 kV19 dc19 pm19 cd19 ct19 oc20 kV20 dc20 pm20 cd20 ct20 oc21 kV21 dc21 pm21 cd21 ct21 oc22 kV22 dc22 pm22 cd22 ct22 oc23 kV23 dc23 pm23 cd23 ct23 oc24 kV24 dc24 pm24 cd24 ct24 oc25 kV25 dc25 pm25 cd25 ct25 oc26 kV26 dc26 pm26 cd26 ct26 oc27 kV27 dc27 pm27 cd27 ct27 oc28 kV28 dc28 pm28 cd28 ct28 oc29 kV29 dc29 pm29 cd29 ct29 : Value} {t_COIN : Tok} {t_EMPTY : Tok} {t_LEAST_LIGHTS : Tok} {t_MOST_CELLS : Tok} {t_MOST_LIGHTS : Tok} {t_MOST_ROUNDS : Tok} {t_MOST_ROW : Tok} {t_MOST_SIDE : Tok} {t_SIGNS : Tok} {t_SIZE : Tok} {t_TAKEN : Tok}
    (z_abs : PySem.W.nsIn K mainGlobals "abs" = some none)
    (z_all : PySem.W.nsIn K mainGlobals "all" = some none)
    (z_enumerate : PySem.W.nsIn K mainGlobals "enumerate" = some none)
    (z_int : PySem.W.nsIn K mainGlobals "int" = some none)
    (z_len : PySem.W.nsIn K mainGlobals "len" = some none)
    (z_min : PySem.W.nsIn K mainGlobals "min" = some none)
    (z_range : PySem.W.nsIn K mainGlobals "range" = some none)
    (z_set : PySem.W.nsIn K mainGlobals "set" = some none)
    (z_sorted : PySem.W.nsIn K mainGlobals "sorted" = some none)
    (z_sum : PySem.W.nsIn K mainGlobals "sum" = some none)
    (q_COIN : PySem.W.nsIn K mainGlobals "COIN" = some (some (.str "o" t_COIN)))
    (q_EMPTY : PySem.W.nsIn K mainGlobals "EMPTY" = some (some (.str "." t_EMPTY)))
    (q_LEAST_LIGHTS : PySem.W.nsIn K mainGlobals "LEAST_LIGHTS" = some (some (.int 2 t_LEAST_LIGHTS)))
    (q_MOST_CELLS : PySem.W.nsIn K mainGlobals "MOST_CELLS" = some (some (.int 8 t_MOST_CELLS)))
    (q_MOST_LIGHTS : PySem.W.nsIn K mainGlobals "MOST_LIGHTS" = some (some (.int 6 t_MOST_LIGHTS)))
    (q_MOST_ROUNDS : PySem.W.nsIn K mainGlobals "MOST_ROUNDS" = some (some (.int 100 t_MOST_ROUNDS)))
    (q_MOST_ROW : PySem.W.nsIn K mainGlobals "MOST_ROW" = some (some (.int 40 t_MOST_ROW)))
    (q_MOST_SIDE : PySem.W.nsIn K mainGlobals "MOST_SIDE" = some (some (.int 8 t_MOST_SIDE)))
    (q_SIGNS : PySem.W.nsIn K mainGlobals "SIGNS" = some (some (.str ".#" t_SIGNS)))
    (q_SIZE : PySem.W.nsIn K mainGlobals "SIZE" = some (some (.int 8 t_SIZE)))
    (q_TAKEN : PySem.W.nsIn K mainGlobals "TAKEN" = some (some (.str "#" t_TAKEN)))
    (a_is_rule : PySem.W.nsIn K mainGlobals "is_rule" = some (some (.ref f0)))
    (l_0 : K.lookup f0 = some ⟨oc0, od0, .func (PySem.W.fnOf "is_rule" "is_rule" (defArgs st_is_rule) (defBody st_is_rule) (defScope st_is_rule) .none kV0 dc0 pm0 an0 cd0 ct0), sl0⟩)
    (c_0 : PySem.W.codeIn K cd0 "is_rule" = true)
    (k_0 : PySem.W.keepIn K (.ref f0) = true)
    (a_check_board : PySem.W.nsIn K mainGlobals "check_board" = some (some (.ref f1)))
    (l_1 : K.lookup f1 = some ⟨oc1, od1, .func (PySem.W.fnOf "check_board" "check_board" (defArgs st_check_board) (defBody st_check_board) (defScope st_check_board) .none kV1 dc1 pm1 an1 cd1 ct1), sl1⟩)
    (c_1 : PySem.W.codeIn K cd1 "check_board" = true)
    (k_1 : PySem.W.keepIn K (.ref f1) = true)
    (a_check_range_rounds : PySem.W.nsIn K mainGlobals "check_range_rounds" = some (some (.ref f2)))
    (l_2 : K.lookup f2 = some ⟨oc2, od2, .func (PySem.W.fnOf "check_range" "check_range" (defArgs st_check_range_rounds) (defBody st_check_range_rounds) (defScope st_check_range_rounds) .none kV2 dc2 pm2 an2 cd2 ct2), sl2⟩)
    (c_2 : PySem.W.codeIn K cd2 "check_range" = true)
    (k_2 : PySem.W.keepIn K (.ref f2) = true)
    (a_step : PySem.W.nsIn K mainGlobals "step" = some (some (.ref f3)))
    (l_3 : K.lookup f3 = some ⟨oc3, od3, .func (PySem.W.fnOf "step" "step" (defArgs st_step) (defBody st_step) (defScope st_step) .none kV3 dc3 pm3 an3 cd3 ct3), sl3⟩)
    (c_3 : PySem.W.codeIn K cd3 "step" = true)
    (k_3 : PySem.W.keepIn K (.ref f3) = true)
    (a_boards_of : PySem.W.nsIn K mainGlobals "boards_of" = some (some (.ref f4)))
    (l_4 : K.lookup f4 = some ⟨oc4, od4, .func (PySem.W.fnOf "boards_of" "boards_of" (defArgs st_boards_of) (defBody st_boards_of) (defScope st_boards_of) .none kV4 dc4 pm4 an4 cd4 ct4), sl4⟩)
    (c_4 : PySem.W.codeIn K cd4 "boards_of" = true)
    (k_4 : PySem.W.keepIn K (.ref f4) = true)
    (a_check_grid : PySem.W.nsIn K mainGlobals "check_grid" = some (some (.ref f5)))
    (l_5 : K.lookup f5 = some ⟨oc5, od5, .func (PySem.W.fnOf "check_grid" "check_grid" (defArgs st_check_grid) (defBody st_check_grid) (defScope st_check_grid) .none kV5 dc5 pm5 an5 cd5 ct5), sl5⟩)
    (c_5 : PySem.W.codeIn K cd5 "check_grid" = true)
    (k_5 : PySem.W.keepIn K (.ref f5) = true)
    (a_tilt_of : PySem.W.nsIn K mainGlobals "tilt_of" = some (some (.ref f6)))
    (l_6 : K.lookup f6 = some ⟨oc6, od6, .func (PySem.W.fnOf "tilt_of" "tilt_of" (defArgs st_tilt_of) (defBody st_tilt_of) (defScope st_tilt_of) .none kV6 dc6 pm6 an6 cd6 ct6), sl6⟩)
    (c_6 : PySem.W.codeIn K cd6 "tilt_of" = true)
    (k_6 : PySem.W.keepIn K (.ref f6) = true)
    (a_check_range : PySem.W.nsIn K mainGlobals "check_range" = some (some (.ref f7)))
    (a_check_range_rows : PySem.W.nsIn K mainGlobals "check_range_rows" = some (some (.ref f7)))
    (l_7 : K.lookup f7 = some ⟨oc7, od7, .func (PySem.W.fnOf "check_range" "check_range" (defArgs st_check_range) (defBody st_check_range) (defScope st_check_range) .none kV7 dc7 pm7 an7 cd7 ct7), sl7⟩)
    (c_7 : PySem.W.codeIn K cd7 "check_range" = true)
    (k_7 : PySem.W.keepIn K (.ref f7) = true)
    (a__law_draws : PySem.W.nsIn K mainGlobals "_law_draws" = some (some (.ref f8)))
    (l_8 : K.lookup f8 = some ⟨oc8, od8, .func (PySem.W.fnOf "_law_draws" "_law_draws" (defArgs st__law_draws) (defBody st__law_draws) (defScope st__law_draws) .none kV8 dc8 pm8 an8 cd8 ct8), sl8⟩)
    (c_8 : PySem.W.codeIn K cd8 "_law_draws" = true)
    (k_8 : PySem.W.keepIn K (.ref f8) = true)
    (a__law_mix : PySem.W.nsIn K mainGlobals "_law_mix" = some (some (.ref f9)))
    (l_9 : K.lookup f9 = some ⟨oc9, od9, .func (PySem.W.fnOf "_law_mix" "_law_mix" (defArgs st__law_mix) (defBody st__law_mix) (defScope st__law_mix) .none kV9 dc9 pm9 an9 cd9 ct9), sl9⟩)
    (c_9 : PySem.W.codeIn K cd9 "_law_mix" = true)
    (k_9 : PySem.W.keepIn K (.ref f9) = true)
    (a_check_rule : PySem.W.nsIn K mainGlobals "check_rule" = some (some (.ref f10)))
    (l_10 : K.lookup f10 = some ⟨oc10, od10, .func (PySem.W.fnOf "check_rule" "check_rule" (defArgs st_check_rule) (defBody st_check_rule) (defScope st_check_rule) .none kV10 dc10 pm10 an10 cd10 ct10), sl10⟩)
    (c_10 : PySem.W.codeIn K cd10 "check_rule" = true)
    (k_10 : PySem.W.keepIn K (.ref f10) = true)
    (a_behind : PySem.W.nsIn K mainGlobals "behind" = some (some (.ref f11)))
    (l_11 : K.lookup f11 = some ⟨oc11, od11, .func (PySem.W.fnOf "behind" "behind" (defArgs st_behind) (defBody st_behind) (defScope st_behind) .none kV11 dc11 pm11 an11 cd11 ct11), sl11⟩)
    (c_11 : PySem.W.codeIn K cd11 "behind" = true)
    (k_11 : PySem.W.keepIn K (.ref f11) = true)
    (a_check_shelf : PySem.W.nsIn K mainGlobals "check_shelf" = some (some (.ref f12)))
    (l_12 : K.lookup f12 = some ⟨oc12, od12, .func (PySem.W.fnOf "check_shelf" "check_shelf" (defArgs st_check_shelf) (defBody st_check_shelf) (defScope st_check_shelf) .none kV12 dc12 pm12 an12 cd12 ct12), sl12⟩)
    (c_12 : PySem.W.codeIn K cd12 "check_shelf" = true)
    (k_12 : PySem.W.keepIn K (.ref f12) = true)
    (a_check_lights : PySem.W.nsIn K mainGlobals "check_lights" = some (some (.ref f13)))
    (l_13 : K.lookup f13 = some ⟨oc13, od13, .func (PySem.W.fnOf "check_lights" "check_lights" (defArgs st_check_lights) (defBody st_check_lights) (defScope st_check_lights) .none kV13 dc13 pm13 an13 cd13 ct13), sl13⟩)
    (c_13 : PySem.W.codeIn K cd13 "check_lights" = true)
    (k_13 : PySem.W.keepIn K (.ref f13) = true)
    (a_round_of : PySem.W.nsIn K mainGlobals "round_of" = some (some (.ref f14)))
    (l_14 : K.lookup f14 = some ⟨oc14, od14, .func (PySem.W.fnOf "round_of" "round_of" (defArgs st_round_of) (defBody st_round_of) (defScope st_round_of) .none kV14 dc14 pm14 an14 cd14 ct14), sl14⟩)
    (c_14 : PySem.W.codeIn K cd14 "round_of" = true)
    (k_14 : PySem.W.keepIn K (.ref f14) = true)
    (a_rounds : PySem.W.nsIn K mainGlobals "rounds" = some (some (.ref f15)))
    (l_15 : K.lookup f15 = some ⟨oc15, od15, .func (PySem.W.fnOf "rounds" "rounds" (defArgs st_rounds) (defBody st_rounds) (defScope st_rounds) .none kV15 dc15 pm15 an15 cd15 ct15), sl15⟩)
    (c_15 : PySem.W.codeIn K cd15 "rounds" = true)
    (k_15 : PySem.W.keepIn K (.ref f15) = true)
    (a_comes_again : PySem.W.nsIn K mainGlobals "comes_again" = some (some (.ref f16)))
    (l_16 : K.lookup f16 = some ⟨oc16, od16, .func (PySem.W.fnOf "comes_again" "comes_again" (defArgs st_comes_again) (defBody st_comes_again) (defScope st_comes_again) .none kV16 dc16 pm16 an16 cd16 ct16), sl16⟩)
    (c_16 : PySem.W.codeIn K cd16 "comes_again" = true)
    (k_16 : PySem.W.keepIn K (.ref f16) = true)
    (a_before : PySem.W.nsIn K mainGlobals "before" = some (some (.ref f17)))
    (l_17 : K.lookup f17 = some ⟨oc17, od17, .func (PySem.W.fnOf "before" "before" (defArgs st_before) (defBody st_before) (defScope st_before) .none kV17 dc17 pm17 an17 cd17 ct17), sl17⟩)
    (c_17 : PySem.W.codeIn K cd17 "before" = true)
    (k_17 : PySem.W.keepIn K (.ref f17) = true)
    (a_is_open : PySem.W.nsIn K mainGlobals "is_open" = some (some (.ref f18)))
    (l_18 : K.lookup f18 = some ⟨oc18, od18, .func (PySem.W.fnOf "is_open" "is_open" (defArgs st_is_open) (defBody st_is_open) (defScope st_is_open) .none kV18 dc18 pm18 an18 cd18 ct18), sl18⟩)
    (c_18 : PySem.W.codeIn K cd18 "is_open" = true)
    (k_18 : PySem.W.keepIn K (.ref f18) = true)
    (a_keeps : PySem.W.nsIn K mainGlobals "keeps" = some (some (.ref f19)))
    (l_19 : K.lookup f19 = some ⟨oc19, od19, .func (PySem.W.fnOf "keeps" "keeps" (defArgs st_keeps) (defBody st_keeps) (defScope st_keeps) .none kV19 dc19 pm19 an19 cd19 ct19), sl19⟩)
    (c_19 : PySem.W.codeIn K cd19 "keeps" = true)
    (k_19 : PySem.W.keepIn K (.ref f19) = true)
    (a_mirrored : PySem.W.nsIn K mainGlobals "mirrored" = some (some (.ref f20)))
    (l_20 : K.lookup f20 = some ⟨oc20, od20, .func (PySem.W.fnOf "mirrored" "mirrored" (defArgs st_mirrored) (defBody st_mirrored) (defScope st_mirrored) .none kV20 dc20 pm20 an20 cd20 ct20), sl20⟩)
    (c_20 : PySem.W.codeIn K cd20 "mirrored" = true)
    (k_20 : PySem.W.keepIn K (.ref f20) = true)
    (a_check_two : PySem.W.nsIn K mainGlobals "check_two" = some (some (.ref f21)))
    (l_21 : K.lookup f21 = some ⟨oc21, od21, .func (PySem.W.fnOf "check_two" "check_two" (defArgs st_check_two) (defBody st_check_two) (defScope st_check_two) .none kV21 dc21 pm21 an21 cd21 ct21), sl21⟩)
    (c_21 : PySem.W.codeIn K cd21 "check_two" = true)
    (k_21 : PySem.W.keepIn K (.ref f21) = true)
    (a_tilted : PySem.W.nsIn K mainGlobals "tilted" = some (some (.ref f22)))
    (l_22 : K.lookup f22 = some ⟨oc22, od22, .func (PySem.W.fnOf "tilted" "tilted" (defArgs st_tilted) (defBody st_tilted) (defScope st_tilted) .none kV22 dc22 pm22 an22 cd22 ct22), sl22⟩)
    (c_22 : PySem.W.codeIn K cd22 "tilted" = true)
    (k_22 : PySem.W.keepIn K (.ref f22) = true)
    (a_coins : PySem.W.nsIn K mainGlobals "coins" = some (some (.ref f23)))
    (l_23 : K.lookup f23 = some ⟨oc23, od23, .func (PySem.W.fnOf "coins" "coins" (defArgs st_coins) (defBody st_coins) (defScope st_coins) .none kV23 dc23 pm23 an23 cd23 ct23), sl23⟩)
    (c_23 : PySem.W.codeIn K cd23 "coins" = true)
    (k_23 : PySem.W.keepIn K (.ref f23) = true)
    (a_check_row : PySem.W.nsIn K mainGlobals "check_row" = some (some (.ref f24)))
    (l_24 : K.lookup f24 = some ⟨oc24, od24, .func (PySem.W.fnOf "check_row" "check_row" (defArgs st_check_row) (defBody st_check_row) (defScope st_check_row) .none kV24 dc24 pm24 an24 cd24 ct24), sl24⟩)
    (c_24 : PySem.W.codeIn K cd24 "check_row" = true)
    (k_24 : PySem.W.keepIn K (.ref f24) = true)
    (a_check_play : PySem.W.nsIn K mainGlobals "check_play" = some (some (.ref f25)))
    (l_25 : K.lookup f25 = some ⟨oc25, od25, .func (PySem.W.fnOf "check_play" "check_play" (defArgs st_check_play) (defBody st_check_play) (defScope st_check_play) .none kV25 dc25 pm25 an25 cd25 ct25), sl25⟩)
    (c_25 : PySem.W.codeIn K cd25 "check_play" = true)
    (k_25 : PySem.W.keepIn K (.ref f25) = true)
    (a_least_period : PySem.W.nsIn K mainGlobals "least_period" = some (some (.ref f26)))
    (l_26 : K.lookup f26 = some ⟨oc26, od26, .func (PySem.W.fnOf "least_period" "least_period" (defArgs st_least_period) (defBody st_least_period) (defScope st_least_period) .none kV26 dc26 pm26 an26 cd26 ct26), sl26⟩)
    (c_26 : PySem.W.codeIn K cd26 "least_period" = true)
    (k_26 : PySem.W.keepIn K (.ref f26) = true)
    (a_played : PySem.W.nsIn K mainGlobals "played" = some (some (.ref f27)))
    (l_27 : K.lookup f27 = some ⟨oc27, od27, .func (PySem.W.fnOf "played" "played" (defArgs st_played) (defBody st_played) (defScope st_played) .none kV27 dc27 pm27 an27 cd27 ct27), sl27⟩)
    (c_27 : PySem.W.codeIn K cd27 "played" = true)
    (k_27 : PySem.W.keepIn K (.ref f27) = true)
    (a_has : PySem.W.nsIn K mainGlobals "has" = some (some (.ref f28)))
    (l_28 : K.lookup f28 = some ⟨oc28, od28, .func (PySem.W.fnOf "has" "has" (defArgs st_has) (defBody st_has) (defScope st_has) .none kV28 dc28 pm28 an28 cd28 ct28), sl28⟩)
    (c_28 : PySem.W.codeIn K cd28 "has" = true)
    (k_28 : PySem.W.keepIn K (.ref f28) = true)
    (a_law : PySem.W.nsIn K mainGlobals "law" = some (some (.ref f29)))
    (l_29 : K.lookup f29 = some ⟨oc29, od29, .func (PySem.W.fnOf "law" "law" (defArgs st_law) (defBody st_law) (defScope st_law) .none kV29 dc29 pm29 an29 cd29 ct29), sl29⟩)
    (c_29 : PySem.W.codeIn K cd29 "law" = true)
    (k_29 : PySem.W.keepIn K (.ref f29) = true) :
    ∃ fd : FuncData, (∀ (s : Shared) (v : Value), BindsTo s fd ⟨[v], []⟩ [("script", v)]) ∧ ∀ base : Heap, K.In base → base.Ns mainGlobals mg → FnOk l.prog w K mg base CX0 6 fa fd ["script"] (spD w K cl0 1 false f_law) := by
  have e := hfa.symm.trans (PySem.W.mg_of X G a_law)
  cases e
  have F0 := fun_mk (st := st_is_rule) l_0 c_0 k_0
  have F1 := fun_mk (st := st_check_board) l_1 c_1 k_1
  have F2 := fun_mk (st := st_check_range_rounds) l_2 c_2 k_2
  have F3 := fun_mk (st := st_step) l_3 c_3 k_3
  have F4 := fun_mk (st := st_boards_of) l_4 c_4 k_4
  have F5 := fun_mk (st := st_check_grid) l_5 c_5 k_5
  have F6 := fun_mk (st := st_tilt_of) l_6 c_6 k_6
  have F7 := fun_mk (st := st_check_range) l_7 c_7 k_7
  have F8 := fun_mk (st := st__law_draws) l_8 c_8 k_8
  have F9 := fun_mk (st := st__law_mix) l_9 c_9 k_9
  have F10 := fun_mk (st := st_check_rule) l_10 c_10 k_10
  have F11 := fun_mk (st := st_behind) l_11 c_11 k_11
  have F12 := fun_mk (st := st_check_shelf) l_12 c_12 k_12
  have F13 := fun_mk (st := st_check_lights) l_13 c_13 k_13
  have F14 := fun_mk (st := st_round_of) l_14 c_14 k_14
  have F15 := fun_mk (st := st_rounds) l_15 c_15 k_15
  have F16 := fun_mk (st := st_comes_again) l_16 c_16 k_16
  have F17 := fun_mk (st := st_before) l_17 c_17 k_17
  have F18 := fun_mk (st := st_is_open) l_18 c_18 k_18
  have F19 := fun_mk (st := st_keeps) l_19 c_19 k_19
  have F20 := fun_mk (st := st_mirrored) l_20 c_20 k_20
  have F21 := fun_mk (st := st_check_two) l_21 c_21 k_21
  have F22 := fun_mk (st := st_tilted) l_22 c_22 k_22
  have F23 := fun_mk (st := st_coins) l_23 c_23 k_23
  have F24 := fun_mk (st := st_check_row) l_24 c_24 k_24
  have F25 := fun_mk (st := st_check_play) l_25 c_25 k_25
  have F26 := fun_mk (st := st_least_period) l_26 c_26 k_26
  have F27 := fun_mk (st := st_played) l_27 c_27 k_27
  have F28 := fun_mk (st := st_has) l_28 c_28 k_28
  have F29 := fun_mk (st := st_law) l_29 c_29 k_29
  have T : Fx w K mg := {
    b_abs := PySem.W.mg_none_of X G z_abs
    b_all := PySem.W.mg_none_of X G z_all
    b_enumerate := PySem.W.mg_none_of X G z_enumerate
    b_int := PySem.W.mg_none_of X G z_int
    b_len := PySem.W.mg_none_of X G z_len
    b_min := PySem.W.mg_none_of X G z_min
    b_range := PySem.W.mg_none_of X G z_range
    b_set := PySem.W.mg_none_of X G z_set
    b_sorted := PySem.W.mg_none_of X G z_sorted
    b_sum := PySem.W.mg_none_of X G z_sum
    k_COIN := Kon.str (PySem.W.mg_of X G q_COIN)
    k_EMPTY := Kon.str (PySem.W.mg_of X G q_EMPTY)
    k_LEAST_LIGHTS := Kon.int (PySem.W.mg_of X G q_LEAST_LIGHTS)
    k_MOST_CELLS := Kon.int (PySem.W.mg_of X G q_MOST_CELLS)
    k_MOST_LIGHTS := Kon.int (PySem.W.mg_of X G q_MOST_LIGHTS)
    k_MOST_ROUNDS := Kon.int (PySem.W.mg_of X G q_MOST_ROUNDS)
    k_MOST_ROW := Kon.int (PySem.W.mg_of X G q_MOST_ROW)
    k_MOST_SIDE := Kon.int (PySem.W.mg_of X G q_MOST_SIDE)
    k_SIGNS := Kon.str (PySem.W.mg_of X G q_SIGNS)
    k_SIZE := Kon.int (PySem.W.mg_of X G q_SIZE)
    k_TAKEN := Kon.str (PySem.W.mg_of X G q_TAKEN)
    g_is_rule := ⟨_, _, F0, PySem.W.mg_of X G a_is_rule, F0.binds (ps := ["rule"]) fun _ _ _ _ _ _ us hl => match us, hl with | [_], _ => rfl⟩
    g_check_board := ⟨_, _, F1, PySem.W.mg_of X G a_check_board, F1.binds (ps := ["board"]) fun _ _ _ _ _ _ us hl => match us, hl with | [_], _ => rfl⟩
    g_check_range_rounds := ⟨_, _, F2, PySem.W.mg_of X G a_check_range_rounds, F2.binds (ps := ["number", "least", "most"]) fun _ _ _ _ _ _ us hl => match us, hl with | [_, _, _], _ => rfl⟩
    g_step := ⟨_, _, F3, PySem.W.mg_of X G a_step, F3.binds (ps := ["rule", "board"]) fun _ _ _ _ _ _ us hl => match us, hl with | [_, _], _ => rfl⟩
    g_boards_of := ⟨_, _, F4, PySem.W.mg_of X G a_boards_of, F4.binds (ps := ["cells"]) fun _ _ _ _ _ _ us hl => match us, hl with | [_], _ => rfl⟩
    g_check_grid := ⟨_, _, F5, PySem.W.mg_of X G a_check_grid, F5.binds (ps := ["grid", "signs"]) fun _ _ _ _ _ _ us hl => match us, hl with | [_, _], _ => rfl⟩
    g_tilt_of := ⟨_, _, F6, PySem.W.mg_of X G a_tilt_of, F6.binds (ps := ["shelf"]) fun _ _ _ _ _ _ us hl => match us, hl with | [_], _ => rfl⟩
    g_check_range := ⟨_, _, F7, PySem.W.mg_of X G a_check_range, F7.binds (ps := ["number", "least", "most"]) fun _ _ _ _ _ _ us hl => match us, hl with | [_, _, _], _ => rfl⟩
    g_check_range_rows := ⟨_, _, F7, PySem.W.mg_of X G a_check_range_rows, F7.binds (ps := ["number", "least", "most"]) fun _ _ _ _ _ _ us hl => match us, hl with | [_, _, _], _ => rfl⟩
    g__law_draws := ⟨_, _, F8, PySem.W.mg_of X G a__law_draws, F8.binds (ps := ["script"]) fun _ _ _ _ _ _ us hl => match us, hl with | [_], _ => rfl⟩
    g__law_mix := ⟨_, _, F9, PySem.W.mg_of X G a__law_mix, F9.binds (ps := ["draws", "k", "many"]) fun _ _ _ _ _ _ us hl => match us, hl with | [_, _, _], _ => rfl⟩
    g_check_rule := ⟨_, _, F10, PySem.W.mg_of X G a_check_rule, F10.binds (ps := ["rule", "at"]) fun _ _ _ _ _ _ us hl => match us, hl with | [_, _], _ => rfl⟩
    g_behind := ⟨_, _, F11, PySem.W.mg_of X G a_behind, F11.binds (ps := ["one", "two", "board", "many"]) fun _ _ _ _ _ _ us hl => match us, hl with | [_, _, _, _], _ => rfl⟩
    g_check_shelf := ⟨_, _, F12, PySem.W.mg_of X G a_check_shelf, F12.binds (ps := ["shelf"]) fun _ _ _ _ _ _ us hl => match us, hl with | [_], _ => rfl⟩
    g_check_lights := ⟨_, _, F13, PySem.W.mg_of X G a_check_lights, F13.binds (ps := ["lights"]) fun _ _ _ _ _ _ us hl => match us, hl with | [_], _ => rfl⟩
    g_round_of := ⟨_, _, F14, PySem.W.mg_of X G a_round_of, F14.binds (ps := ["rule", "board"]) fun _ _ _ _ _ _ us hl => match us, hl with | [_, _], _ => rfl⟩
    g_rounds := ⟨_, _, F15, PySem.W.mg_of X G a_rounds, F15.binds (ps := ["rule", "board", "many"]) fun _ _ _ _ _ _ us hl => match us, hl with | [_, _, _], _ => rfl⟩
    g_comes_again := ⟨_, _, F16, PySem.W.mg_of X G a_comes_again, F16.binds (ps := ["rule", "board"]) fun _ _ _ _ _ _ us hl => match us, hl with | [_, _], _ => rfl⟩
    g_before := ⟨_, _, F17, PySem.W.mg_of X G a_before, F17.binds (ps := ["rule", "board"]) fun _ _ _ _ _ _ us hl => match us, hl with | [_, _], _ => rfl⟩
    g_is_open := ⟨_, _, F18, PySem.W.mg_of X G a_is_open, F18.binds (ps := ["rule", "cells"]) fun _ _ _ _ _ _ us hl => match us, hl with | [_, _], _ => rfl⟩
    g_keeps := ⟨_, _, F19, PySem.W.mg_of X G a_keeps, F19.binds (ps := ["rule", "cells"]) fun _ _ _ _ _ _ us hl => match us, hl with | [_, _], _ => rfl⟩
    g_mirrored := ⟨_, _, F20, PySem.W.mg_of X G a_mirrored, F20.binds (ps := ["rule"]) fun _ _ _ _ _ _ us hl => match us, hl with | [_], _ => rfl⟩
    g_check_two := ⟨_, _, F21, PySem.W.mg_of X G a_check_two, F21.binds (ps := ["one", "two"]) fun _ _ _ _ _ _ us hl => match us, hl with | [_, _], _ => rfl⟩
    g_tilted := ⟨_, _, F22, PySem.W.mg_of X G a_tilted, F22.binds (ps := ["shelf"]) fun _ _ _ _ _ _ us hl => match us, hl with | [_], _ => rfl⟩
    g_coins := ⟨_, _, F23, PySem.W.mg_of X G a_coins, F23.binds (ps := ["shelf"]) fun _ _ _ _ _ _ us hl => match us, hl with | [_], _ => rfl⟩
    g_check_row := ⟨_, _, F24, PySem.W.mg_of X G a_check_row, F24.binds (ps := ["lights", "row"]) fun _ _ _ _ _ _ us hl => match us, hl with | [_, _], _ => rfl⟩
    g_check_play := ⟨_, _, F25, PySem.W.mg_of X G a_check_play, F25.binds (ps := ["one", "two", "board", "many"]) fun _ _ _ _ _ _ us hl => match us, hl with | [_, _, _, _], _ => rfl⟩
    g_least_period := ⟨_, _, F26, PySem.W.mg_of X G a_least_period, F26.binds (ps := ["lights", "row"]) fun _ _ _ _ _ _ us hl => match us, hl with | [_, _], _ => rfl⟩
    g_played := ⟨_, _, F27, PySem.W.mg_of X G a_played, F27.binds (ps := ["one", "two", "board", "many"]) fun _ _ _ _ _ _ us hl => match us, hl with | [_, _, _, _], _ => rfl⟩
    g_has := ⟨_, _, F28, PySem.W.mg_of X G a_has, F28.binds (ps := ["one", "two", "board", "many"]) fun _ _ _ _ _ _ us hl => match us, hl with | [_, _, _, _], _ => rfl⟩
    g_law := ⟨_, _, F29, PySem.W.mg_of X G a_law, F29.binds (ps := ["script"]) fun _ _ _ _ _ _ us hl => match us, hl with | [_], _ => rfl⟩
  }
  exact ⟨PySem.W.fnOf "law" "law" (defArgs st_law) (defBody st_law) (defScope st_law) .none kV29 dc29 pm29 an29 cd29 ct29, fun s v => .of_eq rfl, fun base _ _ => o_law T F29⟩
end Gk94
open PySem PySem.W PyProof.Rows
set_option maxHeartbeats 0 in
theorem PySem.Challenge.cw_arcadeheld_k94_whole_bots_that_turn_roun_holds : PySem.Challenge.rw_arcadeheld_k94_whole_bots_that_turn_roun.Holds := by
  w_on; o_law; k_head; (case hw => w_witness2)
  k_fill
  refine L2.walk_of (l := PySem.Challenge.rw_arcadeheld_k94_whole_bots_that_turn_roun) (n := 63) (k := 6) (x := "script") (CX := fun _ => L2.CX0) (sp := fun w => Vs.spD w _ Gk94.cl0 1 false Gk94.f_law) rfl (by decide) rfl ⟨rfl, by decide, by decide⟩ (fun w h Y => PySem.W.kIn_of Y) ?F (fun _ _ a ns hl _ hS => Vs.sp_law hS (Gk94.law_true ns hl)) (fun _ _ _ _ _ h => h)
  case F =>
    intro w mg fa h KX G hmg
    refine' Gk94.all_mk KX G hmg ?z_abs ?z_all ?z_enumerate ?z_int ?z_len ?z_min ?z_range ?z_set ?z_sorted ?z_sum ?q_COIN ?q_EMPTY ?q_LEAST_LIGHTS ?q_MOST_CELLS ?q_MOST_LIGHTS ?q_MOST_ROUNDS ?q_MOST_ROW ?q_MOST_SIDE ?q_SIGNS ?q_SIZE ?q_TAKEN ?a_is_rule ?l_0 ?c_0 ?k_0 ?a_check_board ?l_1 ?c_1 ?k_1 ?a_check_range_rounds ?l_2 ?c_2 ?k_2 ?a_step ?l_3 ?c_3 ?k_3 ?a_boards_of ?l_4 ?c_4 ?k_4 ?a_check_grid ?l_5 ?c_5 ?k_5 ?a_tilt_of ?l_6 ?c_6 ?k_6 ?a_check_range ?a_check_range_rows ?l_7 ?c_7 ?k_7 ?a__law_draws ?l_8 ?c_8 ?k_8 ?a__law_mix ?l_9 ?c_9 ?k_9 ?a_check_rule ?l_10 ?c_10 ?k_10 ?a_behind ?l_11 ?c_11 ?k_11 ?a_check_shelf ?l_12 ?c_12 ?k_12 ?a_check_lights ?l_13 ?c_13 ?k_13 ?a_round_of ?l_14 ?c_14 ?k_14 ?a_rounds ?l_15 ?c_15 ?k_15 ?a_comes_again ?l_16 ?c_16 ?k_16 ?a_before ?l_17 ?c_17 ?k_17 ?a_is_open ?l_18 ?c_18 ?k_18 ?a_keeps ?l_19 ?c_19 ?k_19 ?a_mirrored ?l_20 ?c_20 ?k_20 ?a_check_two ?l_21 ?c_21 ?k_21 ?a_tilted ?l_22 ?c_22 ?k_22 ?a_coins ?l_23 ?c_23 ?k_23 ?a_check_row ?l_24 ?c_24 ?k_24 ?a_check_play ?l_25 ?c_25 ?k_25 ?a_least_period ?l_26 ?c_26 ?k_26 ?a_played ?l_27 ?c_27 ?k_27 ?a_has ?l_28 ?c_28 ?k_28 ?a_law ?l_29 ?c_29 ?k_29
    (case z_abs => k_is)
    (case z_all => k_is)
    (case z_enumerate => k_is)
    (case z_int => k_is)
    (case z_len => k_is)
    (case z_min => k_is)
    (case z_range => k_is)
    (case z_set => k_is)
    (case z_sorted => k_is)
    (case z_sum => k_is)
    (case q_COIN => k_is)
    (case q_EMPTY => k_is)
    (case q_LEAST_LIGHTS => k_is)
    (case q_MOST_CELLS => k_is)
    (case q_MOST_LIGHTS => k_is)
    (case q_MOST_ROUNDS => k_is)
    (case q_MOST_ROW => k_is)
    (case q_MOST_SIDE => k_is)
    (case q_SIGNS => k_is)
    (case q_SIZE => k_is)
    (case q_TAKEN => k_is)
    (case a_is_rule => k_is)
    (case l_0 => k_is)
    (case c_0 => k_is)
    (case k_0 => k_is)
    (case a_check_board => k_is)
    (case l_1 => k_is)
    (case c_1 => k_is)
    (case k_1 => k_is)
    (case a_check_range_rounds => k_is)
    (case l_2 => k_is)
    (case c_2 => k_is)
    (case k_2 => k_is)
    (case a_step => k_is)
    (case l_3 => k_is)
    (case c_3 => k_is)
    (case k_3 => k_is)
    (case a_boards_of => k_is)
    (case l_4 => k_is)
    (case c_4 => k_is)
    (case k_4 => k_is)
    (case a_check_grid => k_is)
    (case l_5 => k_is)
    (case c_5 => k_is)
    (case k_5 => k_is)
    (case a_tilt_of => k_is)
    (case l_6 => k_is)
    (case c_6 => k_is)
    (case k_6 => k_is)
    (case a_check_range => k_is)
    (case a_check_range_rows => k_is)
    (case l_7 => k_is)
    (case c_7 => k_is)
    (case k_7 => k_is)
    (case a__law_draws => k_is)
    (case l_8 => k_is)
    (case c_8 => k_is)
    (case k_8 => k_is)
    (case a__law_mix => k_is)
    (case l_9 => k_is)
    (case c_9 => k_is)
    (case k_9 => k_is)
    (case a_check_rule => k_is)
    (case l_10 => k_is)
    (case c_10 => k_is)
    (case k_10 => k_is)
    (case a_behind => k_is)
    (case l_11 => k_is)
    (case c_11 => k_is)
    (case k_11 => k_is)
    (case a_check_shelf => k_is)
    (case l_12 => k_is)
    (case c_12 => k_is)
    (case k_12 => k_is)
    (case a_check_lights => k_is)
    (case l_13 => k_is)
    (case c_13 => k_is)
    (case k_13 => k_is)
    (case a_round_of => k_is)
    (case l_14 => k_is)
    (case c_14 => k_is)
    (case k_14 => k_is)
    (case a_rounds => k_is)
    (case l_15 => k_is)
    (case c_15 => k_is)
    (case k_15 => k_is)
    (case a_comes_again => k_is)
    (case l_16 => k_is)
    (case c_16 => k_is)
    (case k_16 => k_is)
    (case a_before => k_is)
    (case l_17 => k_is)
    (case c_17 => k_is)
    (case k_17 => k_is)
    (case a_is_open => k_is)
    (case l_18 => k_is)
    (case c_18 => k_is)
    (case k_18 => k_is)
    (case a_keeps => k_is)
    (case l_19 => k_is)
    (case c_19 => k_is)
    (case k_19 => k_is)
    (case a_mirrored => k_is)
    (case l_20 => k_is)
    (case c_20 => k_is)
    (case k_20 => k_is)
    (case a_check_two => k_is)
    (case l_21 => k_is)
    (case c_21 => k_is)
    (case k_21 => k_is)
    (case a_tilted => k_is)
    (case l_22 => k_is)
    (case c_22 => k_is)
    (case k_22 => k_is)
    (case a_coins => k_is)
    (case l_23 => k_is)
    (case c_23 => k_is)
    (case k_23 => k_is)
    (case a_check_row => k_is)
    (case l_24 => k_is)
    (case c_24 => k_is)
    (case k_24 => k_is)
    (case a_check_play => k_is)
    (case l_25 => k_is)
    (case c_25 => k_is)
    (case k_25 => k_is)
    (case a_least_period => k_is)
    (case l_26 => k_is)
    (case c_26 => k_is)
    (case k_26 => k_is)
    (case a_played => k_is)
    (case l_27 => k_is)
    (case c_27 => k_is)
    (case k_27 => k_is)
    (case a_has => k_is)
    (case l_28 => k_is)
    (case c_28 => k_is)
    (case k_28 => k_is)
    (case a_law => k_is)
    (case l_29 => k_is)
    (case c_29 => k_is)
    (case k_29 => k_is)
