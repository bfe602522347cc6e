import PyProof.Rows.All
import Wide.All
import OpenK.AllK
import Wide.FinOn
import HandS.Dict
import HandS.DictComp
import HandS.DictTup
import HandS.ForMost
import HandS.Iter
import HandS.Keys
import HandS.ListItems
import HandS.Replace
import HandS.ReplaceList
import HandS.ReplaceLit
import HandS.Rev
import HandS.Small
import HandS.Style
import HandS.Text
import HandS.TupAny
import HandS.TupLen
import HandS.Wide
import HandS.WideBits
import HandS.Zip
import KE.GoesEnum
import KE.KDictKeyed
import KE.KDictSum
import KE.KDictWalk
import KE.SortData
import PyProof.ToksMono
import PySem.Challenge.RW_shiftsandcells_k41_whole_rounds_of_sums
set_option Elab.async false
set_option linter.all false
set_option maxRecDepth 100000
/-! Dv1: pure values over the hand layer: what a value stands for (Rep), frames as lists of cells (Env), readings by pure functions. -/
namespace Dv
open PySem PySem.Spec PyProof.Rows L2

abbrev D := PyData
abbrev OS := Addr → Prop

def keyD : Key → D
  | .inl i => .int i
  | .inr x => .str x
def keyTD (k : List Key) : D := .tuple (k.map keyD)

/-- whether the empty tuple may be a key (else it may be an argument of dict()) -/
def emptyKey : Bool := false
def leafD : D → Bool
  | .int _ => true
  | .str _ => true
  | _ => false
/-- a tuple that is no key: its own object is known, and has no dict -/
def pinned : List D → Bool
  | [] => !emptyKey
  | d :: ds => !(leafD d && ds.all leafD)
/-- how a tuple is tracked -/
def TupC (c : Bool) (xs : List V) (u : HO) : Prop := match c with
  | false => u = .tup xs
  | true => ∃ o : Obj, u = .frz o (.tup xs) ∧ o.dict = none

mutual
/-- v stands for d in H, away from what is owned -/
inductive Rep (K : PySem.W.Frag) (O : OS) (H : Hp) : V → D → Prop
  | non : Rep K O H .non .none
  | bl (b : Bool) : Rep K O H (.bl b) (.bool b)
  | int (i : Int) : Rep K O H (.int i) (.int i)
  | str (x : Str) : Rep K O H (.str x) (.str x)
  | lst {a : Addr} {xs : List V} {ds : List D} : ¬ O a → H a = some (.lst xs) → RepL K O H xs ds → Rep K O H (.ref a) (.list ds)
  | tup {a : Addr} {u : HO} {xs : List V} {ds : List D} : H a = some u → TupC (pinned ds) xs u → RepL K O H xs ds → Rep K O H (.ref a) (.tuple ds)
  /-- a tuple that is only read: one that the module holds, or that a walk yields to be taken apart; it is told apart -/
  | ktp {a : Addr} {x : V} {xs : List V} {es : List (D × D)} : SqT K H a (x :: xs) → RepN K O H (x :: xs) es → Rep K O H (.ref a) (.dict es)
  /-- a dict that is a value is locked: it may be walked -/
  | dK {a : Addr} {u : Obj} {kvs : List (Key × V)} {es : List (D × D)} : H a = some (.frz u (.dK kvs)) → RepK K O H kvs es → Rep K O H (.ref a) (.dict es)
  | dT {a : Addr} {u : Obj} {kvs : List (List Key × V)} {es : List (D × D)} : H a = some (.frz u (.dT kvs)) → RepT K O H kvs es → Rep K O H (.ref a) (.dict es)
inductive RepL (K : PySem.W.Frag) (O : OS) (H : Hp) : List V → List D → Prop
  | nil : RepL K O H [] []
  | cons {v : V} {vs : List V} {d : D} {ds : List D} : Rep K O H v d → RepL K O H vs ds → RepL K O H (v :: vs) (d :: ds)
inductive RepN (K : PySem.W.Frag) (O : OS) (H : Hp) : List V → List (D × D) → Prop
  | nil : RepN K O H [] []
  | cons {v : V} {vs : List V} {d : D} {es : List (D × D)} : Rep K O H v d → RepN K O H vs es → RepN K O H (v :: vs) ((.none, d) :: es)
inductive RepK (K : PySem.W.Frag) (O : OS) (H : Hp) : List (Key × V) → List (D × D) → Prop
  | nil : RepK K O H [] []
  | cons {k : Key} {v : V} {kvs : List (Key × V)} {d : D} {es : List (D × D)} : Rep K O H v d → RepK K O H kvs es → RepK K O H ((k, v) :: kvs) ((keyD k, d) :: es)
inductive RepT (K : PySem.W.Frag) (O : OS) (H : Hp) : List (List Key × V) → List (D × D) → Prop
  | nil : RepT K O H [] []
  | cons {k : List Key} {v : V} {kvs : List (List Key × V)} {d : D} {es : List (D × D)} : pinned (k.map keyD) = false → Rep K O H v d → RepT K O H kvs es → RepT K O H ((k, v) :: kvs) ((keyTD k, d) :: es)
end

/-- what is never changed -/
def Fix : HO → Prop
  | .tup _ => True
  | .frz _ _ => True
  | _ => False
theorem TupC.fix {c : Bool} {xs : List V} {u : HO} (h : TupC c xs u) : Fix u := by
  cases c with
  | false => rw [show u = .tup xs from h]; trivial
  | true => obtain ⟨o, e, _⟩ := h; rw [e]; trivial
theorem TupC.rd {c : Bool} {xs : List V} {u : HO} {H : Hp} {a : Addr} (h : TupC c xs u) (e : H a = some u) : Rd H a (.tup xs) := by
  cases c with
  | false => rw [show u = .tup xs from h] at e; exact .inl e
  | true => obtain ⟨o, q, _⟩ := h; rw [q] at e; exact .inr ⟨o, e⟩
theorem RepN.repL {K : PySem.W.Frag} {O : OS} {H : Hp} : ∀ {vs : List V} {es : List (D × D)}, RepN K O H vs es → RepL K O H vs (es.map (·.2))
  | _, _, .nil => .nil
  | _, _, .cons r q => .cons r (RepN.repL q)
theorem RepN.of {K : PySem.W.Frag} {O : OS} {H : Hp} : ∀ {vs : List V} {ds : List D}, RepL K O H vs ds → RepN K O H vs (ds.map fun d => (.none, d))
  | _, _, .nil => .nil
  | _, _, .cons r q => .cons r (RepN.of q)
/-- all stands but what S may change -/
def Xt (S : OS) (H H' : Hp) : Prop := ∀ a o, H a = some o → (¬ S a ∨ Fix o) → H' a = some o
theorem Xt.refl {S : OS} (H : Hp) : Xt S H H := fun _ _ h _ => h
theorem Xt.trans {S S' : OS} {H H1 H2 : Hp} (a : Xt S H H1) (b : Xt S' H1 H2) (h : ∀ x, S' x → H x ≠ none → S x) : Xt S H H2 := fun x o e n => by
  refine b x o (a x o e n) ?_
  rcases n with n | n
  · exact .inl fun z => n (h x z (by rw [e]; simp))
  · exact .inr n
theorem Xt.tr {S : OS} {H H1 H2 : Hp} (a : Xt S H H1) (b : Xt S H1 H2) : Xt S H H2 := a.trans b fun _ h _ => h
theorem Xt.mono {S S' : OS} {H H1 : Hp} (a : Xt S H H1) (h : ∀ x, S x → S' x) : Xt S' H H1 := fun x o e n => a x o e (n.imp (fun z w => z (h x w)) id)
theorem Xt.ofSame {S : OS} {H H' : Hp} (h : Same H H') : Xt S H H' := fun a o e _ => h a o e
theorem Xt.new {S : OS} {H : Hp} {p : Addr} {o : HO} (h : H p = none) : Xt S H (upd H p o) := fun a u e _ => by
  rw [upd_ne (ne_of_none e h)]; exact e
theorem Xt.wr {S : OS} {H : Hp} {p : Addr} {o u : HO} (hs : S p) (hp : H p = some u) (nf : ¬ Fix u) : Xt S H (upd H p o) := fun a w e n => by
  by_cases ha : a = p
  · subst ha
    rw [hp] at e; cases e
    exact absurd (n.resolve_left fun z => z hs) nf
  · rw [upd_ne ha]; exact e
theorem Xt.dom {S : OS} {H H' : Hp} (x : Xt S H H') {a : Addr} {o : HO} (h : H a = some o) (n : ¬ S a) : H' a ≠ none := by
  rw [x a o h (.inl n)]; simp

theorem Xt.rd {S : OS} {H H' : Hp} {a : Addr} {xs : List V} (x : Xt S H H') (h : Rd H a (.tup xs)) : Rd H' a (.tup xs) := by
  rcases h with h | ⟨o, h⟩
  · exact .inl (x _ _ h (.inr trivial))
  · exact .inr ⟨o, x _ _ h (.inr trivial)⟩
theorem Xt.sqT {S : OS} {K : PySem.W.Frag} {H H' : Hp} {a : Addr} {xs : List V} (x : Xt S H H') (h : SqT K H a xs) : SqT K H' a xs := by
  rcases h with h | h
  · exact .inl (x.rd h)
  · exact .inr h

mutual
/-- a value stays: what changes is owned; the new owned set may be less, or more by what was not there -/
theorem Rep.go {K : PySem.W.Frag} {O O' S : OS} {H H' : Hp} (x : Xt S H H') (hS : ∀ a, S a → H a ≠ none → O a) (hO : ∀ a, O' a → O a ∨ H a = none) : ∀ {d : D} {v : V}, Rep K O H v d → Rep K O' H' v d
  | .none, _, .non => .non
  | .bool _, _, .bl b => .bl b
  | .int _, _, .int i => .int i
  | .str _, _, .str y => .str y
  | .list ds, _, .lst (xs := xs) n e r => by
    refine .lst (fun z => ?_) (x _ _ e (.inl fun z => n (hS _ z (by rw [e]; simp)))) (RepL.go x hS hO r)
    rcases hO _ z with q | q
    · exact n q
    · rw [e] at q; cases q
  | .tuple ds, _, .tup (xs := xs) e c r => .tup (x _ _ e (.inr c.fix)) c (RepL.go x hS hO r)
  | .dict _, _, .ktp e r => .ktp (x.sqT e) (RepN.go x hS hO r)
  | .dict es, _, .dK e r => .dK (x _ _ e (.inr trivial)) (RepK.go x hS hO r)
  | .dict es, _, .dT e r => .dT (x _ _ e (.inr trivial)) (RepT.go x hS hO r)
theorem RepL.go {K : PySem.W.Frag} {O O' S : OS} {H H' : Hp} (x : Xt S H H') (hS : ∀ a, S a → H a ≠ none → O a) (hO : ∀ a, O' a → O a ∨ H a = none) : ∀ {ds : List D} {vs : List V}, RepL K O H vs ds → RepL K O' H' vs ds
  | [], _, .nil => .nil
  | _ :: _, _, .cons r q => .cons (Rep.go x hS hO r) (RepL.go x hS hO q)
theorem RepN.go {K : PySem.W.Frag} {O O' S : OS} {H H' : Hp} (x : Xt S H H') (hS : ∀ a, S a → H a ≠ none → O a) (hO : ∀ a, O' a → O a ∨ H a = none) : ∀ {es : List (D × D)} {vs : List V}, RepN K O H vs es → RepN K O' H' vs es
  | [], _, .nil => .nil
  | (_, _) :: _, _, .cons r q => .cons (Rep.go x hS hO r) (RepN.go x hS hO q)
theorem RepK.go {K : PySem.W.Frag} {O O' S : OS} {H H' : Hp} (x : Xt S H H') (hS : ∀ a, S a → H a ≠ none → O a) (hO : ∀ a, O' a → O a ∨ H a = none) : ∀ {es : List (D × D)} {vs : List (Key × V)}, RepK K O H vs es → RepK K O' H' vs es
  | [], _, .nil => .nil
  | (_, _) :: _, _, .cons r q => .cons (Rep.go x hS hO r) (RepK.go x hS hO q)
theorem RepT.go {K : PySem.W.Frag} {O O' S : OS} {H H' : Hp} (x : Xt S H H') (hS : ∀ a, S a → H a ≠ none → O a) (hO : ∀ a, O' a → O a ∨ H a = none) : ∀ {es : List (D × D)} {vs : List (List Key × V)}, RepT K O H vs es → RepT K O' H' vs es
  | [], _, .nil => .nil
  | (_, _) :: _, _, .cons n r q => .cons n (Rep.go x hS hO r) (RepT.go x hS hO q)
end
end Dv

/-! Dv2: frames, the tape, readings by pure functions, expressions. -/
namespace Dv
open PySem PySem.Spec PyProof.Rows L2

/-- a slot: nothing known, a value that is never changed again, a list or dict that this slot alone holds, the tape -/
inductive Cell where
  | un | fr (d : D) | ow (d : D) | tp
abbrev Rho := List Cell
structure Tp where
  cells : List Int
  idx : Int
  left : Int
  seed : Int
  salt : Int

def tS (τ : Option Addr) : OS := fun a => τ = some a
def addO (O : OS) (p : Addr) : OS := fun a => O a ∨ a = p
def delO (O : OS) (p : Addr) : OS := fun a => O a ∧ a ≠ p

/-- the list or dict at a, owned, and all it holds away from what is owned -/
inductive Top (K : PySem.W.Frag) (O : OS) (H : Hp) (a : Addr) : D → Prop
  | lst {xs : List V} {ds : List D} : H a = some (.lst xs) → RepL K O H xs ds → Top K O H a (.list ds)
  | dK {kvs : List (Key × V)} {es : List (D × D)} : H a = some (.dK kvs) → RepK K O H kvs es → Top K O H a (.dict es)
  | dT {kvs : List (List Key × V)} {es : List (D × D)} : H a = some (.dT kvs) → RepT K O H kvs es → Top K O H a (.dict es)
theorem Top.go {K : PySem.W.Frag} {O O' S : OS} {H H' : Hp} {a : Addr} {d : D} (x : Xt S H H') (hS : ∀ a, S a → H a ≠ none → O a) (hO : ∀ a, O' a → O a ∨ H a = none) (na : ¬ S a) : Top K O H a d → Top K O' H' a d
  | .lst e r => .lst (x _ _ e (.inl na)) (RepL.go x hS hO r)
  | .dK e r => .dK (x _ _ e (.inl na)) (RepK.go x hS hO r)
  | .dT e r => .dT (x _ _ e (.inl na)) (RepT.go x hS hO r)
/-- an owned thing becomes a value: dicts are locked -/
theorem top_lock {X : Cx} {pins : List (Addr × Obj)} {σ : L2.St} {s : Shared} {K : PySem.W.Frag} {O O' : OS} {H : Hp} {a : Addr} {d : D} (I : Inv X pins σ H s) (oa : O a) (no : ¬ O' a) (sub : ∀ x, O' x → O x) (t : Top K O H a d) :
    ∃ H', Inv X pins σ H' s ∧ Xt (fun b => b = a) H H' ∧ (∀ b, H b ≠ none → H' b ≠ none) ∧ Rep K O' H' (.ref a) d := by
  cases t with
  | @lst xs ds e r => exact ⟨H, I, Xt.refl H, fun _ z => z, .lst no e (r.go (Xt.refl H (S := fun _ => False)) (fun _ z => z.elim) fun x z => .inl (sub x z))⟩
  | @dK kvs es e r =>
    obtain ⟨u, I'⟩ := I.lock e trivial
    have xw : Xt (fun b => b = a) H (upd H a (.frz u (.dK kvs))) := Xt.wr rfl e id
    refine ⟨_, I', xw, fun b z => ?_, .dK upd_same (r.go xw (fun b z _ => by rw [z]; exact oa) fun x z => .inl (sub x z))⟩
    by_cases h : b = a
    · rw [h, upd_same]; simp
    · rw [upd_ne h]; exact z
  | @dT kvs es e r =>
    obtain ⟨u, I'⟩ := I.lock e trivial
    have xw : Xt (fun b => b = a) H (upd H a (.frz u (.dT kvs))) := Xt.wr rfl e id
    refine ⟨_, I', xw, fun b z => ?_, .dT upd_same (r.go xw (fun b z _ => by rw [z]; exact oa) fun x z => .inl (sub x z))⟩
    by_cases h : b = a
    · rw [h, upd_same]; simp
    · rw [upd_ne h]; exact z
theorem Top.some {K : PySem.W.Frag} {O : OS} {H : Hp} {a : Addr} {d : D} : Top K O H a d → ∃ o, H a = some o ∧ ¬ Fix o
  | .lst e r => ⟨_, e, id⟩
  | .dK e r => ⟨_, e, id⟩
  | .dT e r => ⟨_, e, id⟩

def tapeHO (c : Addr) (T : Tp) : HO := .dK [(.inr "cells", .ref c), (.inr "at", .int T.idx), (.inr "left", .int T.left), (.inr "seed", .int T.seed), (.inr "salt", .int T.salt)]
def TpOk (O : OS) (τ : Option Addr) (H : Hp) (T : Tp) : Prop := ∀ p, τ = some p → O p ∧ ∃ c, H p = some (tapeHO c T) ∧ ¬ O c ∧ H c = some (.lst (T.cells.map V.int))
theorem TpOk.go {O O' S : OS} {τ : Option Addr} {H H' : Hp} {T : Tp} (x : Xt S H H') (hS : ∀ a, S a → H a ≠ none → O a ∧ τ ≠ some a) (hO : ∀ a, O' a → O a ∨ H a = none) (hp : ∀ p, τ = some p → O' p) (h : TpOk O τ H T) : TpOk O' τ H' T := fun p e => by
  obtain ⟨o, c, h1, h2, h3⟩ := h p e
  refine ⟨hp p e, c, x _ _ h1 (.inl fun z => (hS _ z (by rw [h1]; simp)).2 e), fun z => ?_, x _ _ h3 (.inl fun z => h2 (hS _ z (by rw [h3]; simp)).1)⟩
  rcases hO _ z with q | q
  · exact h2 q
  · rw [h3] at q; cases q

theorem TpOk.less {O : OS} {τ : Option Addr} {H : Hp} {T : Tp} {p : Addr} (t : TpOk (addO O p) τ H T) (h : ∀ a, tS τ a → O a) : TpOk O τ H T := fun q e => by
  obtain ⟨_, c, h1, h2, h3⟩ := t q e
  exact ⟨h q e, c, h1, fun z => h2 (.inl z), h3⟩
theorem TpOk.more {O : OS} {τ : Option Addr} {H : Hp} {T : Tp} {p : Addr} {o : HO} (t : TpOk O τ H T) (hp : H p = none) : TpOk (addO O p) τ (upd H p o) T := fun q e => by
  obtain ⟨h0, c, h1, h2, h3⟩ := t q e
  refine ⟨.inl h0, c, by rw [upd_ne (ne_of_none h1 hp)]; exact h1, fun z => ?_, by rw [upd_ne (ne_of_none h3 hp)]; exact h3⟩
  rcases z with z | z
  · exact h2 z
  · exact ne_of_none h3 hp z
/-- the state: G the heap at the def's entry, B what the callers own, O what is owned in all, τ the tape's place -/
structure Sta (K : PySem.W.Frag) (G : Hp) (B O : OS) (τ : Option Addr) (σ : L2.St) (H : Hp) (ρ : Rho) (T : Tp) : Prop where
  len : σ.length = ρ.length
  fr : ∀ (i : Nat) (d : D), ρ[i]? = some (.fr d) → ∃ v, σ[i]? = some (some v) ∧ Rep K O H v d
  ow : ∀ (i : Nat) (d : D), ρ[i]? = some (.ow d) → ∃ a, σ[i]? = some (some (.ref a)) ∧ O a ∧ ¬ B a ∧ G a = none ∧ τ ≠ some a ∧ Top K O H a d
  sep : ∀ (i j : Nat) (d d' : D) (a : Addr), ρ[i]? = some (.ow d) → ρ[j]? = some (.ow d') → σ[i]? = some (some (.ref a)) → σ[j]? = some (some (.ref a)) → i = j
  tp : ∀ (i : Nat), ρ[i]? = some .tp → ∃ p, τ = some p ∧ σ[i]? = some (some (.ref p))
  tok : TpOk O τ H T
  tb : ∀ p, τ = some p → B p
  dom : ∀ a, O a → H a ≠ none
  gb : ∀ a, B a → O a
  gd : ∀ a, B a → G a ≠ none
  gk : Xt (tS τ) G H
section
variable {K : PySem.W.Frag} {G : Hp} {B O O' : OS} {τ : Option Addr} {σ : L2.St} {H H' : Hp} {ρ : Rho} {T T' : Tp}
theorem Sta.tO (E : Sta K G B O τ σ H ρ T) : ∀ a, tS τ a → O a := fun a h => E.gb a (E.tb a h)
/-- the heap grows, the tape turns -/
theorem Sta.step (E : Sta K G B O τ σ H ρ T) (x : Xt (tS τ) H H') (t : TpOk O τ H' T') : Sta K G B O τ σ H' ρ T' where
  len := E.len
  fr := fun i d h => by
    obtain ⟨v, e, r⟩ := E.fr i d h
    exact ⟨v, e, r.go x (fun a z _ => E.tO a z) fun a z => .inl z⟩
  ow := fun i d h => by
    obtain ⟨a, e, oa, nb, ga, ta, r⟩ := E.ow i d h
    exact ⟨a, e, oa, nb, ga, ta, r.go x (fun a z _ => E.tO a z) (fun a z => .inl z) ta⟩
  sep := E.sep
  tp := E.tp
  tok := t
  tb := E.tb
  dom := fun a z => by
    cases q : H a with
    | none => exact absurd q (E.dom a z)
    | some o =>
      by_cases hs : tS τ a
      · obtain ⟨_, c, h1, _⟩ := t a hs
        rw [h1]; simp
      · exact x.dom q hs
  gb := E.gb
  gd := E.gd
  gk := E.gk.tr x
theorem Sta.grow (E : Sta K G B O τ σ H ρ T) (x : Xt (fun _ => False) H H') : Sta K G B O τ σ H' ρ T :=
  E.step (x.mono fun _ z => z.elim) (E.tok.go x (fun _ z _ => z.elim) (fun _ z => .inl z) fun p e => E.tO p e)
end

/-- no owned set but the tape's -/
abbrev Gr := Xt fun _ => False
theorem Gr.new {H : Hp} {p : Addr} {o : HO} (h : H p = none) : Gr H (upd H p o) := Xt.new h

def RepB (K : PySem.W.Frag) (O : OS) (H : Hp) (v : V) (d : D) : Prop := Rep K O H v d ∨ ∃ p, v = .ref p ∧ Top K O H p d
inductive RepBL (K : PySem.W.Frag) (O : OS) (H : Hp) : List V → List D → Prop
  | nil : RepBL K O H [] []
  | cons {v : V} {vs : List V} {d : D} {ds : List D} : RepB K O H v d → RepBL K O H vs ds → RepBL K O H (v :: vs) (d :: ds)
def RepBT (K : PySem.W.Frag) (O : OS) (τ : Option Addr) (H : Hp) (v : V) (d : D) : Prop := Rep K O H v d ∨ ∃ p, v = .ref p ∧ τ ≠ some p ∧ Top K O H p d
theorem RepBT.b {K : PySem.W.Frag} {O : OS} {τ : Option Addr} {H : Hp} {v : V} {d : D} (h : RepBT K O τ H v d) : RepB K O H v d := h.imp id fun ⟨p, e, _, t⟩ => ⟨p, e, t⟩
/-! ### readings -/
abbrev FE := Rho → Tp → Option (D × Tp)
abbrev FT := Rho → Tp → Option (Bool × Tp)
abbrev FA := Rho → Tp → Option (List D × Tp)
/-- an expression gives a value that is not changed any more -/
def rdE (K : PySem.W.Frag) (f : FE) : TE := fun σ H Q => ∃ G B O τ ρ T d T', Sta K G B O τ σ H ρ T ∧ f ρ T = some (d, T') ∧
  ∀ v H', Xt (tS τ) H H' → TpOk O τ H' T' → Rep K O H' v d → Q v H'
def rdT (K : PySem.W.Frag) (f : FT) : TT := fun σ H Q => ∃ G B O τ ρ T d T', Sta K G B O τ σ H ρ T ∧ f ρ T = some (d, T') ∧
  ∀ H', Xt (tS τ) H H' → TpOk O τ H' T' → Q d H'
def rdA (K : PySem.W.Frag) (f : FA) : TA := fun σ H Q => ∃ G B O τ ρ T ds T', Sta K G B O τ σ H ρ T ∧ f ρ T = some (ds, T') ∧
  ∀ vs H', Xt (tS τ) H H' → TpOk O τ H' T' → RepL K O H' vs ds → Q vs H'
/-- an expression gives a new list or dict -/
def rdN (K : PySem.W.Frag) (f : FE) : TE := fun σ H Q => ∃ G B O τ ρ T d T', Sta K G B O τ σ H ρ T ∧ f ρ T = some (d, T') ∧
  ∀ p H', H p = none → Xt (tS τ) H H' → TpOk (addO O p) τ H' T' → Top K (addO O p) H' p d → Q (.ref p) H'
/-- a list or dict that is looked at for the moment: one's own, or any other -/
def rdB (K : PySem.W.Frag) (f : FE) : TE := fun σ H Q => ∃ G B O τ ρ T d T', Sta K G B O τ σ H ρ T ∧ f ρ T = some (d, T') ∧
  ∀ v H', Xt (tS τ) H H' → TpOk O τ H' T' → RepBT K O τ H' v d → Q v H'

/-- arguments that are looked at -/
def rdAB (K : PySem.W.Frag) (f : FA) : TA := fun σ H Q => ∃ G B O τ ρ T ds T', Sta K G B O τ σ H ρ T ∧ f ρ T = some (ds, T') ∧
  ∀ vs H', Xt (tS τ) H H' → TpOk O τ H' T' → RepBL K O H' vs ds → Q vs H'
structure SE (X : Cx) (e : Expr) (f : FE) : Prop where
  pe : PE X e (rdE X.K f)
structure SN (X : Cx) (e : Expr) (f : FE) : Prop where
  pe : PE X e (rdN X.K f)
structure SB (X : Cx) (e : Expr) (f : FE) : Prop where
  pe : PE X e (rdB X.K f)
structure ST (X : Cx) (e : Expr) (f : FT) : Prop where
  pe : PT X e (rdT X.K f)
structure SA (X : Cx) (es : List Expr) (f : FA) : Prop where
  pe : PA X es (rdA X.K f)
structure SAB (X : Cx) (es : List Expr) (f : FA) : Prop where
  pe : PA X es (rdAB X.K f)

section
variable {X : Cx} {e a b : Expr} {f fa fb : FE} {pos : Pos}
theorem PE.imp {t u : TE} (h : PE X e t) (w : ∀ σ H Q, u σ H Q → t σ H Q) : PE X e u := ⟨fun pins s σ H Q I q => h.run pins s σ H Q I (w σ H Q q)⟩
theorem PT.imp {t u : TT} (h : PT X e t) (w : ∀ σ H Q, u σ H Q → t σ H Q) : PT X e u := ⟨fun pins s σ H Q I q => h.run pins s σ H Q I (w σ H Q q)⟩
theorem PA.imp {es : List Expr} {t u : TA} (h : PA X es t) (w : ∀ σ H Q, u σ H Q → t σ H Q) : PA X es u := ⟨fun pos pins s σ H Q I q => h.run pos pins s σ H Q I (w σ H Q q)⟩

theorem addO_new {O : OS} {H : Hp} {p : Addr} (hp : H p = none) : ∀ a, addO O p a → O a ∨ H a = none := fun a z => z.imp id fun e => by rw [e]; exact hp
/-- a new thing is a value -/
theorem SN.se (h : SN X e f) : SE X e f := ⟨⟨fun pins s σ H Q I ⟨G, B, O, τ, ρ, T, d, T', E, hf, q⟩ =>
  thn (h.pe.run pins s σ H (fun v H' => ∃ p, v = .ref p ∧ H p = none ∧ Xt (tS τ) H H' ∧ TpOk (addO O p) τ H' T' ∧ Top X.K (addO O p) H' p d) I ⟨G, B, O, τ, ρ, T, d, T', E, hf, fun p H' hp x t r => ⟨p, rfl, hp, x, t, r⟩⟩)
    fun u s1 ⟨v, H1, I1, rv, p, ev, hp, x, t, r⟩ => by
      subst ev
      have np : ¬ O p := fun z => E.dom p z hp
      have nt : τ ≠ some p := fun z => np (E.tO p z)
      obtain ⟨H2, I2, x2, dm, r2⟩ := top_lock I1 (.inr rfl) np (fun _ z => .inl z) r
      refine ⟨_, H2, I2, rv, q _ H2 (fun a o e n => x2 a o (x a o e n) (.inl fun z => ?_)) ((t.go x2 (fun b z _ => ⟨.inr z, by rw [z]; exact nt⟩) (fun _ z => .inl z) fun p' e' => .inl (E.tO p' e')).less E.tO) r2⟩
      subst z
      rw [hp] at e; cases e⟩⟩
theorem SE.sb (h : SE X e f) : SB X e f := ⟨PE.imp h.pe fun σ H Q ⟨G, B, O, τ, ρ, T, d, T', E, hf, q⟩ => ⟨G, B, O, τ, ρ, T, d, T', E, hf, fun v H' x t r => q _ _ x t (.inl r)⟩⟩

/-! ### names, constants -/
def eVar (i : Nat) : FE := fun ρ T => match ρ[i]? with
  | some (.fr d) => some (d, T)
  | _ => none
def eOwn (i : Nat) : FE := fun ρ T => match ρ[i]? with
  | some (.fr d) => some (d, T)
  | some (.ow d) => some (d, T)
  | _ => none
def eC (d : D) : FE := fun _ T => some (d, T)
theorem se_var' {i : Nat} (h : PE X e (tVar i)) : SE X e (eVar i) := ⟨PE.imp h fun σ H Q ⟨G, B, O, τ, ρ, T, d, T', E, hf, q⟩ => by
  unfold eVar at hf
  split at hf
  · rename_i d' e1
    cases hf
    obtain ⟨v, e2, r⟩ := E.fr i d e1
    exact ⟨v, e2, q v H (Xt.refl H) E.tok r⟩
  · cases hf⟩
theorem sb_var' {i : Nat} (h : PE X e (tVar i)) : SB X e (eOwn i) := ⟨PE.imp h fun σ H Q ⟨G, B, O, τ, ρ, T, d, T', E, hf, q⟩ => by
  unfold eOwn at hf
  split at hf
  · rename_i d' e1
    cases hf
    obtain ⟨v, e2, r⟩ := E.fr i d e1
    exact ⟨v, e2, q v H (Xt.refl H) E.tok (.inl r)⟩
  · rename_i d' e1
    cases hf
    obtain ⟨a, e2, _, _, _, ta, r⟩ := E.ow i d e1
    exact ⟨_, e2, q _ H (Xt.refl H) E.tok (.inr ⟨a, rfl, ta, r⟩)⟩
  · cases hf⟩
theorem sv (i : Nat) {x : Str} {pos : Pos} (hN : X.N[i]? = some x := by rfl) (hv : Vis X.env.scope x := by first | exact Or.inl rfl | exact Or.inr (Or.inl rfl) | exact Or.inr (Or.inr rfl)) (hd : (x == ("__debug__" : Str)) = false := by decide)
    (hcd : (x == ("__classdict__" : Str)) = false := by decide) : SE X (.Name x pos) (eVar i) := se_var' (pe_var hN hv hd hcd)
theorem sbv (i : Nat) {x : Str} {pos : Pos} (hN : X.N[i]? = some x := by rfl) (hv : Vis X.env.scope x := by first | exact Or.inl rfl | exact Or.inr (Or.inl rfl) | exact Or.inr (Or.inr rfl)) (hd : (x == ("__debug__" : Str)) = false := by decide)
    (hcd : (x == ("__classdict__" : Str)) = false := by decide) : SB X (.Name x pos) (eOwn i) := sb_var' (pe_var hN hv hd hcd)
theorem se_c' {v : V} {d : D} (h : PE X e (tC v)) (r : ∀ K O H, Rep K O H v d) : SE X e (eC d) := ⟨PE.imp h fun σ H Q ⟨G, B, O, τ, ρ, T, d, T', E, hf, q⟩ => by
  cases hf
  exact q v H (Xt.refl H) E.tok (r _ _ _)⟩
theorem se_int {i j pos} : SE X (.Constant (.int i) j pos) (eC (.int i)) := se_c' pe_int fun _ _ _ => .int i
theorem se_bl {b j pos} : SE X (.Constant (.bool b) j pos) (eC (.bool b)) := se_c' pe_bl fun _ _ _ => .bl b
theorem se_non {j pos} : SE X (.Constant .none j pos) (eC .none) := se_c' pe_non fun _ _ _ => .non
theorem se_str {x j pos} : SE X (.Constant (.str x) j pos) (eC (.str x)) := se_c' pe_str fun _ _ _ => .str x

/-! ### two operands -/
def e2 (g : D → D → Option D) (fa fb : FE) : FE := fun ρ T => match fa ρ T with
  | none => none
  | some (x, T1) => match fb ρ T1 with
    | none => none
    | some (y, T2) => match g x y with
      | none => none
      | some z => some (z, T2)
/-- an operation on values: for g's values the reading r may be answered; the heap may grow -/
def Op2 (K : PySem.W.Frag) (r : R2) (g : D → D → Option D) : Prop := ∀ (O : OS) (H : Hp) (x y : V) (dx dy d : D) (Q : VK), (∀ a, O a → H a ≠ none) → RepB K O H x dx → RepB K O H y dy → g dx dy = some d →
  (∀ v H', Gr H H' → Rep K O H' v d → Q v H') → r x y H Q
/-- .. that gives a new thing -/
def Op2N (K : PySem.W.Frag) (r : R2) (g : D → D → Option D) : Prop := ∀ (O : OS) (H : Hp) (x y : V) (dx dy d : D) (Q : VK), (∀ a, O a → H a ≠ none) → RepB K O H x dx → RepB K O H y dy → g dx dy = some d →
  (∀ p o, H p = none → Top K (addO O p) (upd H p o) p d → Q (.ref p) (upd H p o)) → r x y H Q
theorem Rep.step {K : PySem.W.Frag} {G : Hp} {B O : OS} {τ : Option Addr} {σ : L2.St} {H H1 : Hp} {ρ : Rho} {T : Tp} {v : V} {d : D} (E : Sta K G B O τ σ H ρ T) (x : Xt (tS τ) H H1) (r : Rep K O H v d) : Rep K O H1 v d := r.go x (fun a z _ => E.tO a z) fun _ z => .inl z
theorem RepBT.step {K : PySem.W.Frag} {G : Hp} {B O : OS} {τ : Option Addr} {σ : L2.St} {H H1 : Hp} {ρ : Rho} {T : Tp} {v : V} {d : D} (E : Sta K G B O τ σ H ρ T) (x : Xt (tS τ) H H1) (r : RepBT K O τ H v d) : RepBT K O τ H1 v d := by
  rcases r with r | ⟨p, e, n, r⟩
  · exact .inl (r.step E x)
  · exact .inr ⟨p, e, n, r.go x (fun a z _ => E.tO a z) (fun _ z => .inl z) n⟩
theorem TpOk.gr {O : OS} {τ : Option Addr} {H H' : Hp} {T : Tp} (h : TpOk O τ H T) (x : Gr H H') : TpOk O τ H' T := h.go x (fun _ z _ => z.elim) (fun _ z => .inl z) fun p e => (h p e).1
theorem e2_some {g : D → D → Option D} {ρ : Rho} {T T' : Tp} {d : D} (h : e2 g fa fb ρ T = some (d, T')) : ∃ dx T1 dy, fa ρ T = some (dx, T1) ∧ fb ρ T1 = some (dy, T') ∧ g dx dy = some d := by
  unfold e2 at h
  split at h
  · cases h
  rename_i dx T1 h1
  split at h
  · cases h
  rename_i dy T2 h2
  split at h
  · cases h
  rename_i z h3
  cases h
  exact ⟨dx, T1, dy, h1, h2, h3⟩
theorem tOp_of {K : PySem.W.Frag} {r : R2} {g : D → D → Option D} (ho : Op2 K r g) (σ : L2.St) (H : Hp) (Q : VK) (h : rdE K (e2 g fa fb) σ H Q) : tOp r (rdB K fa) (rdB K fb) σ H Q := by
  obtain ⟨G, B, O, τ, ρ, T, d, T', E, hf, q⟩ := h
  obtain ⟨dx, T1, dy, h1, h2, h3⟩ := e2_some hf
  refine ⟨G, B, O, τ, ρ, T, dx, T1, E, h1, fun x H1 x1 t1 r1 => ⟨G, B, O, τ, ρ, T1, dy, T', E.step x1 t1, h2, fun y H2 x2 t2 r2 => ?_⟩⟩
  have E1 := E.step x1 t1
  refine ho O H2 x y dx dy d Q (E1.step x2 t2).dom (r1.step E1 x2).b r2.b h3 fun v H' x3 r3 => q v H' ((x1.tr x2).tr (x3.mono fun _ z => z.elim)) (t2.gr x3) r3
theorem tOp_ofN {K : PySem.W.Frag} {r : R2} {g : D → D → Option D} (ho : Op2N K r g) (σ : L2.St) (H : Hp) (Q : VK) (h : rdN K (e2 g fa fb) σ H Q) : tOp r (rdB K fa) (rdB K fb) σ H Q := by
  obtain ⟨G, B, O, τ, ρ, T, d, T', E, hf, q⟩ := h
  obtain ⟨dx, T1, dy, h1, h2, h3⟩ := e2_some hf
  refine ⟨G, B, O, τ, ρ, T, dx, T1, E, h1, fun x H1 x1 t1 r1 => ⟨G, B, O, τ, ρ, T1, dy, T', E.step x1 t1, h2, fun y H2 x2 t2 r2 => ?_⟩⟩
  have E1 := E.step x1 t1
  refine ho O H2 x y dx dy d Q (E1.step x2 t2).dom (r1.step E1 x2).b r2.b h3 fun p o hp tt => ?_
  have hp0 : H p = none := by
    cases e : H p with
    | none => rfl
    | some u =>
      by_cases hs : tS τ p
      · exact absurd hp ((E1.step x2 t2).dom p (E.tO p hs))
      · have := (x1.tr x2) p u e (.inl hs)
        rw [hp] at this; cases this
  exact q p _ hp0 ((x1.tr x2).tr ((Gr.new hp).mono fun _ z => z.elim)) (t2.more hp) tt
theorem se_op {op : Operator} {r : R2} {g : D → D → Option D} (ho : OpR X (binaryOp op) r) (hg : Op2 X.K r g) (ha : SB X a fa) (hb : SB X b fb) : SE X (.BinOp a op b pos) (e2 g fa fb) :=
  ⟨PE.imp (pe_op ho ha.pe hb.pe) (tOp_of hg)⟩
theorem sn_op {op : Operator} {r : R2} {g : D → D → Option D} (ho : OpR X (binaryOp op) r) (hg : Op2N X.K r g) (ha : SB X a fa) (hb : SB X b fb) : SN X (.BinOp a op b pos) (e2 g fa fb) :=
  ⟨PE.imp (pe_op ho ha.pe hb.pe) (tOp_ofN hg)⟩
theorem se_cmp {op : CmpOp} {r : R2} {g : D → D → Option D} (ho : OpR X (compareOp op) r) (hg : Op2 X.K r g) (ha : SB X a fa) (hb : SB X b fb) (hm : behindInMarks op b = false := by first | exact nobehind _ (by decide) (by decide) | rfl) : SE X (.Compare a [op] [b] pos) (e2 g fa fb) :=
  ⟨PE.imp (pe_cmpR ho ha.pe hb.pe hm) (tOp_of hg)⟩
theorem se_ix {r : R2} {g : D → D → Option D} (ho : IxR X r) (hg : Op2 X.K r g) (ha : SB X a fa) (hb : SB X b fb) (hs : PlainIx b := by intro _ _; rfl) : SE X (.Subscript a b pos) (e2 g fa fb) :=
  ⟨PE.imp (pe_ix ho ha.pe hb.pe hs) (tOp_of hg)⟩
theorem Op2.or {K : PySem.W.Frag} {r r' : R2} {g g' : D → D → Option D} (h : Op2 K r g) (h' : Op2 K r' g') : Op2 K (fun x y H Q => r x y H Q ∨ r' x y H Q) (fun x y => (g x y).or (g' x y)) := by
  intro O H x y dx dy d Q hd rx ry hg q
  have hg : (g dx dy).or (g' dx dy) = some d := hg
  cases e : g dx dy with
  | some z =>
    rw [e] at hg
    have hg : some z = some d := hg
    cases hg
    exact .inl (h O H x y dx dy d Q hd rx ry e q)
  | none =>
    rw [e] at hg
    exact .inr (h' O H x y dx dy d Q hd rx ry hg q)
end
end Dv

/-! Dv3: statements, loops, defs. -/
namespace Dv
open PySem PySem.Spec PyProof.Rows L2

inductive Fl where
  | nx (ρ : Rho) | rt (d : D) | bk (ρ : Rho) | ct (ρ : Rho)
abbrev FS := Rho → Tp → Option (Fl × Tp)
structure Aft (O O' : OS) (H H' : Hp) : Prop where
  xt : Xt O H H'
  od : ∀ a, O' a → O a ∨ H a = none
theorem Aft.refl (O : OS) (H : Hp) : Aft O O H H := ⟨Xt.refl H, fun _ z => .inl z⟩
theorem Aft.tr {O O1 O2 : OS} {H H1 H2 : Hp} (a : Aft O O1 H H1) (b : Aft O1 O2 H1 H2) : Aft O O2 H H2 where
  xt := fun x o e n => by
    refine b.xt x o (a.xt x o e n) (n.imp (fun z w => ?_) id)
    rcases a.od x w with q | q
    · exact z q
    · rw [e] at q; cases q
  od := fun x z => by
    rcases b.od x z with q | q
    · exact a.od x q
    · by_cases ho : O x
      · exact .inl ho
      · refine .inr ?_
        cases e : H x with
        | none => rfl
        | some o => rw [a.xt x o e (.inl ho)] at q; cases q
theorem Aft.rep {K : PySem.W.Frag} {O O' : OS} {H H' : Hp} {v : V} {d : D} (a : Aft O O' H H') (r : Rep K O H v d) : Rep K O' H' v d := r.go a.xt (fun _ z _ => z) a.od
theorem Aft.repL {K : PySem.W.Frag} {O O' : OS} {H H' : Hp} {v : List V} {d : List D} (a : Aft O O' H H') (r : RepL K O H v d) : RepL K O' H' v d := r.go a.xt (fun _ z _ => z) a.od

section
variable {K : PySem.W.Frag} {G : Hp} {B O O' : OS} {τ : Option Addr} {σ σ' : L2.St} {H H' : Hp} {ρ ρ' : Rho} {T T' : Tp}
theorem Sta.aft (E : Sta K G B O τ σ H ρ T) (x : Xt (tS τ) H H') : Aft O O H H' := ⟨x.mono E.tO, fun _ z => .inl z⟩

/-- what is wanted at an end -/
def fin (K : PySem.W.Frag) (G : Hp) (B O : OS) (τ : Option Addr) (H : Hp) (D : Ends) : Fl → Tp → Prop
  | .nx ρ', T' => ∀ σ' H' O', Aft O O' H H' → Sta K G B O' τ σ' H' ρ' T' → D.nx σ' H'
  | .bk ρ', T' => ∀ σ' H' O', Aft O O' H H' → Sta K G B O' τ σ' H' ρ' T' → D.bk σ' H'
  | .ct ρ', T' => ∀ σ' H' O', Aft O O' H H' → Sta K G B O' τ σ' H' ρ' T' → D.ct σ' H'
  | .rt d, T' => ∀ v H', TpOk B τ H' T' → Xt (tS τ) G H' → Rep K B H' v d → D.rt v H'
theorem fin.go {D : Ends} {fl : Fl} (a : Aft O O' H H') (h : fin K G B O τ H D fl T) : fin K G B O' τ H' D fl T := by
  cases fl with
  | nx ρ' => exact fun σ1 H1 O1 b E => h σ1 H1 O1 (a.tr b) E
  | bk ρ' => exact fun σ1 H1 O1 b E => h σ1 H1 O1 (a.tr b) E
  | ct ρ' => exact fun σ1 H1 O1 b E => h σ1 H1 O1 (a.tr b) E
  | rt d => exact h
def rdS (K : PySem.W.Frag) (f : FS) : TS := fun D σ H => ∃ G B O τ ρ T fl T', Sta K G B O τ σ H ρ T ∧ f ρ T = some (fl, T') ∧ fin K G B O τ H D fl T'
structure SS (X : Cx) (st : Stmt) (f : FS) : Prop where
  ps : PS X st (rdS X.K f)
structure SSs (X : Cx) (sts : List Stmt) (f : FS) : Prop where
  ps : PSs X sts (rdS X.K f)
variable {X : Cx} {st : Stmt} {rest : List Stmt} {f g : FS} {e : Expr} {fe : FE} {ft : FT} {pos : Pos}
theorem PS.imp {t u : TS} (h : PS X st t) (w : ∀ D σ H, u D σ H → t D σ H) : PS X st u := ⟨fun pins s σ H D I q => h.run pins s σ H D I (w D σ H q)⟩
theorem PSs.imp {sts : List Stmt} {t u : TS} (h : PSs X sts t) (w : ∀ D σ H, u D σ H → t D σ H) : PSs X sts u := ⟨fun pins s σ H D I q => h.run pins s σ H D I (w D σ H q)⟩

def sSeq (f g : FS) : FS := fun ρ T => match f ρ T with
  | none => none
  | some (.nx ρ1, T1) => g ρ1 T1
  | some (fl, T1) => some (fl, T1)
theorem ss_cons (h1 : SS X st f) (h2 : SSs X rest g) : SSs X (st :: rest) (sSeq f g) := ⟨PSs.imp (pss_cons h1.ps h2.ps) fun D σ H ⟨G, B, O, τ, ρ, T, fl, T', E, hf, q⟩ => by
  unfold sSeq at hf
  split at hf
  · cases hf
  · rename_i ρ1 T1 h
    exact ⟨G, B, O, τ, ρ, T, _, T1, E, h, fun σ' H' O' a E' => ⟨G, B, O', τ, ρ1, T1, fl, T', E', hf, q.go a⟩⟩
  · rename_i fl1 T1 hn h
    cases hf
    refine ⟨G, B, O, τ, ρ, T, _, _, E, h, ?_⟩
    cases fl with
    | nx r => exact absurd rfl (hn r)
    | _ => exact q⟩
theorem ss_one (h1 : SS X st f) : SSs X [st] f := ⟨pss_one h1.ps⟩
theorem ss_nil : SSs X [] (fun ρ T => some (.nx ρ, T)) := ⟨PSs.imp pss_nil fun D σ H ⟨G, B, O, τ, ρ, T, fl, T', E, hf, q⟩ => by
  cases hf
  exact q σ H O (Aft.refl O H) E⟩
def sPass : FS := fun ρ T => some (.nx ρ, T)
theorem ss_pass : SS X (.Pass pos) sPass := ⟨PS.imp ps_pass fun D σ H ⟨G, B, O, τ, ρ, T, fl, T', E, hf, q⟩ => by
  cases hf
  exact q σ H O (Aft.refl O H) E⟩
def sBreak : FS := fun ρ T => some (.bk ρ, T)
theorem ss_break : SS X (.Break pos) sBreak := ⟨PS.imp ps_break fun D σ H ⟨G, B, O, τ, ρ, T, fl, T', E, hf, q⟩ => by
  cases hf
  exact q σ H O (Aft.refl O H) E⟩
def sCont : FS := fun ρ T => some (.ct ρ, T)
theorem ss_cont : SS X (.Continue pos) sCont := ⟨PS.imp ps_continue fun D σ H ⟨G, B, O, τ, ρ, T, fl, T', E, hf, q⟩ => by
  cases hf
  exact q σ H O (Aft.refl O H) E⟩
/-- never come to -/
def sNever : FS := fun _ _ => none
theorem ss_never : SS X st sNever := ⟨PS.imp ps_never fun D σ H ⟨G, B, O, τ, ρ, T, fl, T', E, hf, q⟩ => by cases hf⟩
def sIf (c : FT) (f g : FS) : FS := fun ρ T => match c ρ T with
  | none => none
  | some (true, T1) => f ρ T1
  | some (false, T1) => g ρ T1
theorem ss_if {c : Expr} {fc : FT} {a b : List Stmt} (hc : ST X c fc) (ha : SSs X a f) (hb : SSs X b g) : SS X (.If c a b pos) (sIf fc f g) := ⟨PS.imp (ps_if hc.pe ha.ps hb.ps) fun D σ H ⟨G, B, O, τ, ρ, T, fl, T', E, hf, q⟩ => by
  unfold sIf at hf
  split at hf
  · cases hf
  · rename_i T1 h
    exact ⟨G, B, O, τ, ρ, T, true, T1, E, h, fun H' x t => show rdS X.K f D σ H' from ⟨G, B, O, τ, ρ, T1, fl, T', E.step x t, hf, q.go (E.aft x)⟩⟩
  · rename_i T1 h
    exact ⟨G, B, O, τ, ρ, T, false, T1, E, h, fun H' x t => show rdS X.K g D σ H' from ⟨G, B, O, τ, ρ, T1, fl, T', E.step x t, hf, q.go (E.aft x)⟩⟩⟩
/-- a value that is dropped -/
def sDrop (f : FE) : FS := fun ρ T => match f ρ T with
  | none => none
  | some (_, T1) => some (.nx ρ, T1)
theorem ss_expr (he : SE X e fe) (hs : swapsWith e none pos.line X.env = pure false := by rfl) : SS X (.Expr e pos) (sDrop fe) := ⟨PS.imp (ps_expr he.pe hs) fun D σ H ⟨G, B, O, τ, ρ, T, fl, T', E, hf, q⟩ => by
  unfold sDrop at hf
  split at hf
  · cases hf
  · rename_i d T1 h
    cases hf
    exact ⟨G, B, O, τ, ρ, T, d, T', E, h, fun v H' x t r => q σ H' O (E.aft x) (E.step x t)⟩⟩
theorem ss_doc {x j pos pos'} : SS X (.Expr (.Constant (.str x) j pos) pos') sPass := ⟨PS.imp ps_doc fun D σ H ⟨G, B, O, τ, ρ, T, fl, T', E, hf, q⟩ => by
  cases hf
  exact q σ H O (Aft.refl O H) E⟩
def sRet (f : FE) : FS := fun ρ T => match f ρ T with
  | none => none
  | some (d, T1) => some (.rt d, T1)
theorem Sta.out (E : Sta K G B O τ σ H ρ T) : TpOk B τ H T := E.tok.go (Xt.refl H (S := fun _ => False)) (fun _ z _ => z.elim) (fun a z => .inl (E.gb a z)) E.tb
theorem Rep.out {v : V} {d : D} (E : Sta K G B O τ σ H ρ T) (r : Rep K O H v d) : Rep K B H v d := r.go (Xt.refl H (S := fun _ => False)) (fun _ z _ => z.elim) fun a z => .inl (E.gb a z)
theorem ss_ret (he : SE X e fe) : SS X (.Return (some e) pos) (sRet fe) := ⟨PS.imp (ps_ret he.pe) fun D σ H ⟨G, B, O, τ, ρ, T, fl, T', E, hf, q⟩ => by
  unfold sRet at hf
  split at hf
  · cases hf
  · rename_i d T1 h
    cases hf
    exact ⟨G, B, O, τ, ρ, T, d, T', E, h, fun v H' x t r => q v H' (E.step x t).out (E.step x t).gk (Rep.out (E.step x t) r)⟩⟩
def sRetN : FS := fun _ T => some (.rt .none, T)
theorem ss_retN : SS X (.Return none pos) sRetN := ⟨PS.imp ps_retN fun D σ H ⟨G, B, O, τ, ρ, T, fl, T', E, hf, q⟩ => by
  cases hf
  exact q .non H E.out E.gk .non⟩

/-! ### stores -/
theorem Sta.set {i : Nat} {v : V} {d : D} (E : Sta K G B O τ σ H ρ T) (r : Rep K O H v d) : Sta K G B O τ (σ.set i (some v)) H (ρ.set i (.fr d)) T where
  len := by rw [List.length_set, List.length_set]; exact E.len
  fr := fun j d' h => by
    rw [List.getElem?_set] at h ⊢
    by_cases hj : i = j
    · subst hj
      rw [if_pos rfl] at h ⊢
      have hl : i < ρ.length := by
        by_cases hl : i < ρ.length
        · exact hl
        · rw [if_neg hl] at h; cases h
      rw [if_pos hl] at h
      rw [if_pos (by rw [E.len]; exact hl)]
      cases h
      exact ⟨v, rfl, r⟩
    · rw [if_neg hj] at h ⊢
      exact E.fr j d' h
  ow := fun j d' h => by
    rw [List.getElem?_set] at h ⊢
    by_cases hj : i = j
    · subst hj
      rw [if_pos rfl] at h
      split at h <;> cases h
    · rw [if_neg hj] at h ⊢
      exact E.ow j d' h
  sep := fun j k d' d'' a h1 h2 h3 h4 => by
    rw [List.getElem?_set] at h1 h2 h3 h4
    by_cases hj : i = j
    · rw [if_pos hj] at h1; split at h1 <;> cases h1
    · by_cases hk : i = k
      · rw [if_pos hk] at h2; split at h2 <;> cases h2
      · rw [if_neg hj] at h1 h3
        rw [if_neg hk] at h2 h4
        exact E.sep j k d' d'' a h1 h2 h3 h4
  tp := fun j h => by
    rw [List.getElem?_set] at h ⊢
    by_cases hj : i = j
    · rw [if_pos hj] at h; split at h <;> cases h
    · rw [if_neg hj] at h ⊢
      exact E.tp j h
  tok := E.tok
  tb := E.tb
  dom := E.dom
  gb := E.gb
  gd := E.gd
  gk := E.gk
/-- a new thing at p, which the slot alone holds -/
theorem Sta.own {i : Nat} {p : Addr} {d : D} (E : Sta K G B O τ σ H ρ T) (hp : H p = none) (x : Xt (tS τ) H H') (t' : TpOk (addO O p) τ H' T') (r : Top K (addO O p) H' p d) : Sta K G B (addO O p) τ (σ.set i (some (.ref p))) H' (ρ.set i (.ow d)) T' := by
  have t := t'.less E.tO
  have E1 := E.step x t
  have add : ∀ a, addO O p a → O a ∨ H a = none := addO_new hp
  have np : ∀ a, O a → a ≠ p := fun a z q => E.dom a z (by rw [q]; exact hp)
  exact {
  len := by rw [List.length_set, List.length_set]; exact E.len
  fr := fun j d' h => by
    rw [List.getElem?_set] at h ⊢
    by_cases hj : i = j
    · subst hj
      rw [if_pos rfl] at h
      split at h <;> cases h
    · rw [if_neg hj] at h ⊢
      obtain ⟨v, e, q⟩ := E.fr j d' h
      exact ⟨v, e, q.go x (fun a z _ => E.tO a z) add⟩
  ow := fun j d' h => by
    rw [List.getElem?_set] at h ⊢
    by_cases hj : i = j
    · subst hj
      rw [if_pos rfl] at h ⊢
      have hl : i < ρ.length := by
        by_cases hl : i < ρ.length
        · exact hl
        · rw [if_neg hl] at h; cases h
      rw [if_pos hl] at h
      rw [if_pos (by rw [E.len]; exact hl)]
      cases h
      refine ⟨p, rfl, .inr rfl, fun z => np p (E.gb p z) rfl, ?_, fun z => np p (E.tO p z) rfl, r⟩
      cases q : G p with
      | none => rfl
      | some o =>
        by_cases hs : tS τ p
        · exact absurd rfl (np p (E.tO p hs))
        · have := E.gk p o q (.inl hs)
          rw [hp] at this; cases this
    · rw [if_neg hj] at h ⊢
      obtain ⟨a, e, oa, nb, ga, ta, q⟩ := E.ow j d' h
      exact ⟨a, e, .inl oa, nb, ga, ta, q.go x (fun a z _ => E.tO a z) add ta⟩
  sep := fun j k d' d'' a h1 h2 h3 h4 => by
    rw [List.getElem?_set] at h1 h2 h3 h4
    by_cases hj : i = j
    · by_cases hk : i = k
      · exact hj.symm.trans hk
      · rw [if_neg hk] at h2 h4
        rw [if_pos hj] at h3
        obtain ⟨b, e, ob, _⟩ := E.ow k d'' h2
        rw [e] at h4; cases h4
        split at h3
        · cases h3; exact absurd rfl (np p ob)
        · cases h3
    · by_cases hk : i = k
      · rw [if_neg hj] at h1 h3
        rw [if_pos hk] at h4
        obtain ⟨b, e, ob, _⟩ := E.ow j d' h1
        rw [e] at h3; cases h3
        split at h4
        · cases h4; exact absurd rfl (np p ob)
        · cases h4
      · rw [if_neg hj] at h1 h3
        rw [if_neg hk] at h2 h4
        exact E.sep j k d' d'' a h1 h2 h3 h4
  tp := fun j h => by
    rw [List.getElem?_set] at h ⊢
    by_cases hj : i = j
    · rw [if_pos hj] at h; split at h <;> cases h
    · rw [if_neg hj] at h ⊢
      exact E.tp j h
  tok := t'
  tb := E.tb
  dom := fun a z => by
    rcases z with z | z
    · exact E1.dom a z
    · subst z
      obtain ⟨o, e, _⟩ := r.some
      rw [e]; simp
  gb := fun a z => .inl (E.gb a z)
  gd := E.gd
  gk := E1.gk }
end
end Dv

/-! Dv4: assignments, targets, what is walked, for, while, calls, defs. -/
namespace Dv
open PySem PySem.Spec PyProof.Rows L2
section
variable {X : Cx} {st : Stmt} {rest : List Stmt} {f g : FS} {e a b : Expr} {fe fa fb : FE} {ft : FT} {pos : Pos}

/-! ### assignments to names -/
def sSet (i : Nat) (f : FE) : FS := fun ρ T => match f ρ T with
  | none => none
  | some (d, T1) => some (.nx (ρ.set i (.fr d)), T1)
def sNew (i : Nat) (f : FE) : FS := fun ρ T => match f ρ T with
  | none => none
  | some (d, T1) => some (.nx (ρ.set i (.ow d)), T1)
theorem tAsg_set {K : PySem.W.Frag} {i : Nat} {D : Ends} {σ : L2.St} {H : Hp} (h : rdS K (sSet i fe) D σ H) : tAsg (rdE K fe) (gName i) D σ H := by
  obtain ⟨G, B, O, τ, ρ, T, fl, T', E, hf, q⟩ := h
  unfold sSet at hf
  split at hf
  · cases hf
  · rename_i d T1 h
    cases hf
    exact ⟨G, B, O, τ, ρ, T, d, T', E, h, fun v H' x t r => q _ H' O (E.aft x) ((E.step x t).set r)⟩
theorem tAsg_new {K : PySem.W.Frag} {i : Nat} {D : Ends} {σ : L2.St} {H : Hp} (h : rdS K (sNew i fe) D σ H) : tAsg (rdN K fe) (gName i) D σ H := by
  obtain ⟨G, B, O, τ, ρ, T, fl, T', E, hf, q⟩ := h
  unfold sNew at hf
  split at hf
  · cases hf
  · rename_i d T1 h
    cases hf
    exact ⟨G, B, O, τ, ρ, T, d, T', E, h, fun p H' hp x t r => q _ H' (addO O p) ⟨x.mono E.tO, addO_new hp⟩ (E.own hp x t r)⟩
theorem ss_set {i : Nat} {x : Str} {pos' : Pos} (hN : X.N.Nodup) (he : SE X e fe) (hi : X.N[i]? = some x := by rfl) (hx : Loc X.env.scope x := by first | exact Or.inl rfl | exact Or.inr rfl) (hs : swapsWith e (some (.Name x pos')) pos.line X.env = pure false := by rfl) (hf : X.fn x = true ∨ X.env.scope.names.lookup x = some .local := by first | exact .inl rfl | exact .inr rfl | assumption) :
    SS X (.Assign [.Name x pos'] e pos) (sSet i fe) := ⟨PS.imp (ps_set hN hi hx he.pe hs hf) fun D σ H h => tAsg_set h⟩
theorem ss_new {i : Nat} {x : Str} {pos' : Pos} (hN : X.N.Nodup) (he : SN X e fe) (hi : X.N[i]? = some x := by rfl) (hx : Loc X.env.scope x := by first | exact Or.inl rfl | exact Or.inr rfl) (hs : swapsWith e (some (.Name x pos')) pos.line X.env = pure false := by rfl) (hf : X.fn x = true ∨ X.env.scope.names.lookup x = some .local := by first | exact .inl rfl | exact .inr rfl | assumption) :
    SS X (.Assign [.Name x pos'] e pos) (sNew i fe) := ⟨PS.imp (ps_set hN hi hx he.pe hs hf) fun D σ H h => tAsg_new h⟩
/-- from here on the slot's own thing is never changed -/
def fz (i : Nat) (ρ : Rho) : Rho := match ρ[i]? with
  | some (.ow d) => ρ.set i (.fr d)
  | _ => ρ
def sFz (i : Nat) (f : FS) : FS := fun ρ T => f (fz i ρ) T
theorem Sta.fz {X : Cx} {pins : List (Addr × Obj)} {s : Shared} {G : Hp} {B O : OS} {τ : Option Addr} {σ : L2.St} {H : Hp} {ρ : Rho} {T : Tp} (i : Nat) (I : Inv X pins σ H s) (E : Sta X.K G B O τ σ H ρ T) : ∃ O' H', Inv X pins σ H' s ∧ Aft O O' H H' ∧ Sta X.K G B O' τ σ H' (fz i ρ) T := by
  unfold Dv.fz
  split
  case h_2 => exact ⟨O, H, I, Aft.refl O H, E⟩
  rename_i d e1
  obtain ⟨p, e2, op, nb, gp, tp, tt⟩ := E.ow i d e1
  obtain ⟨H', I', x', dm, rp⟩ := top_lock (O' := delO O p) I op (fun z => z.2 rfl) (fun _ z => z.1) tt
  have sub : ∀ x, delO O p x → O x ∨ H x = none := fun x z => .inl z.1
  have hl : i < ρ.length := (List.getElem?_eq_some_iff.mp e1).1
  have bd : ∀ a, B a → delO O p a := fun a z => ⟨E.gb a z, fun q => nb (q ▸ z)⟩
  refine ⟨delO O p, H', I', ⟨x'.mono fun b z => by rw [z]; exact op, sub⟩, ?_⟩
  have hin : ∀ b, b = p → H b ≠ none → O b := fun b z _ => by rw [z]; exact op
  have gor : ∀ {v : V} {d' : D}, Rep X.K O H v d' → Rep X.K (delO O p) H' v d' := fun r => r.go x' hin sub
  exact {
    len := by rw [List.length_set]; exact E.len
    fr := fun j d' h => by
      rw [List.getElem?_set] at h
      by_cases hj : i = j
      · subst hj
        rw [if_pos rfl, if_pos hl] at h
        cases h
        exact ⟨_, e2, rp⟩
      · rw [if_neg hj] at h
        obtain ⟨v, e, r⟩ := E.fr j d' h
        exact ⟨v, e, gor r⟩
    ow := fun j d' h => by
      rw [List.getElem?_set] at h
      by_cases hj : i = j
      · rw [if_pos hj] at h; split at h <;> cases h
      · rw [if_neg hj] at h
        obtain ⟨a, e, oa, nb', ga, ta, q⟩ := E.ow j d' h
        have hne : a ≠ p := fun z => by
          subst z
          exact hj (E.sep i j d d' a e1 h e2 e)
        exact ⟨a, e, ⟨oa, hne⟩, nb', ga, ta, q.go x' hin sub hne⟩
    sep := fun j k d' d'' a h1 h2 h3 h4 => by
      rw [List.getElem?_set] at h1 h2
      by_cases hj : i = j
      · rw [if_pos hj] at h1; split at h1 <;> cases h1
      · by_cases hk : i = k
        · rw [if_pos hk] at h2; split at h2 <;> cases h2
        · rw [if_neg hj] at h1
          rw [if_neg hk] at h2
          exact E.sep j k d' d'' a h1 h2 h3 h4
    tp := fun j h => by
      rw [List.getElem?_set] at h
      by_cases hj : i = j
      · rw [if_pos hj] at h; split at h <;> cases h
      · rw [if_neg hj] at h
        exact E.tp j h
    tok := E.tok.go (S := fun b => b = p) x' (fun b z _ => by rw [z]; exact ⟨op, tp⟩) sub fun q e => bd q (E.tb q e)
    tb := E.tb
    dom := fun a z => dm a (E.dom a z.1)
    gb := bd
    gd := E.gd
    gk := fun b u h n => x' b u (E.gk b u h n) (.inl fun z => by rw [z, gp] at h; cases h) }
theorem ss_fz (i : Nat) (h : SS X st f) : SS X st (sFz i f) := ⟨⟨fun pins s σ H D I ⟨G, B, O, τ, ρ, T, fl, T', E, hf, q⟩ => by
  obtain ⟨O', H', I', a, E'⟩ := E.fz i I
  exact h.ps.run pins s σ H' D I' ⟨G, B, O', τ, _, T, fl, T', E', hf, q.go a⟩⟩⟩

/-! ### targets: ws are the slots that are written -/
abbrev FG := D → Rho → Option Rho
def Off (ws : List Nat) (σ σ' : L2.St) : Prop := σ'.length = σ.length ∧ ∀ j, j ∉ ws → σ'[j]? = σ[j]?
theorem Off.refl {ws : List Nat} (σ : L2.St) : Off ws σ σ := ⟨rfl, fun _ _ => rfl⟩
theorem Off.set {i : Nat} (σ : L2.St) (v : Option V) : Off [i] σ (σ.set i v) := ⟨List.length_set, fun j h => List.getElem?_set_ne (fun e => h (by rw [e]; exact List.mem_singleton.mpr rfl))⟩
theorem Off.app {ws us : List Nat} {σ σ1 σ2 : L2.St} (a : Off ws σ σ1) (b : Off us σ1 σ2) : Off (ws ++ us) σ σ2 := ⟨b.1.trans a.1, fun j h => by
  rw [List.mem_append] at h
  rw [b.2 j fun z => h (.inr z), a.2 j fun z => h (.inl z)]⟩
def rdG (K : PySem.W.Frag) (ws : List Nat) (f : FG) : TG := fun v σ H Q => ∃ G B O τ ρ T d ρ', Sta K G B O τ σ H ρ T ∧ Rep K O H v d ∧ f d ρ = some ρ' ∧ ∀ σ', Off ws σ σ' → Sta K G B O τ σ' H ρ' T → Q σ' H
/-- the mark of a tuple that is only read -/
def isK : List (D × D) → Bool
  | (.none, _) :: _ => true
  | _ => false
/-- a tuple that a walk yields, to be taken apart -/
def kT (ds : List D) : D := .dict (ds.map fun d => (.none, d))
abbrev FGs := List D → Rho → Option Rho
def rdGs (K : PySem.W.Frag) (ws : List Nat) (f : FGs) : TGs := fun vs σ H Q => ∃ G B O τ ρ T ds ρ', Sta K G B O τ σ H ρ T ∧ RepL K O H vs ds ∧ f ds ρ = some ρ' ∧ ∀ σ', Off ws σ σ' → Sta K G B O τ σ' H ρ' T → Q σ' H
structure SG (X : Cx) (tg : Expr) (ws : List Nat) (f : FG) : Prop where
  pg : PG X tg (rdG X.K ws f)
structure SGs (X : Cx) (tg : List Expr) (ws : List Nat) (f : FGs) : Prop where
  pg : PGs X tg (rdGs X.K ws f)
theorem PG.imp {tg : Expr} {t u : TG} (h : PG X tg t) (w : ∀ v σ H Q, u v σ H Q → t v σ H Q) : PG X tg u := ⟨fun pins s σ H v uu Q I r q => h.run pins s σ H v uu Q I r (w v σ H Q q)⟩
theorem PGs.imp {tg : List Expr} {t u : TGs} (h : PGs X tg t) (w : ∀ v σ H Q, u v σ H Q → t v σ H Q) : PGs X tg u := ⟨fun pins s σ H v uu Q I r q => h.run pins s σ H v uu Q I r (w v σ H Q q)⟩
def gSet (i : Nat) : FG := fun d ρ => some (ρ.set i (.fr d))
theorem sg_name (i : Nat) {x : Str} (hN : X.N.Nodup) (hi : X.N[i]? = some x := by rfl) (hx : Loc X.env.scope x := by first | exact Or.inl rfl | exact Or.inr rfl) (hf : X.fn x = true ∨ X.env.scope.names.lookup x = some .local := by first | exact .inl rfl | exact .inr rfl | assumption) : SG X (.Name x pos) [i] (gSet i) := ⟨PG.imp (pg_name hN hi hx hf) fun v σ H Q ⟨G, B, O, τ, ρ, T, d, ρ', E, r, h, q⟩ => by
  cases h
  exact q _ (Off.set σ _) (E.set r)⟩
def gsNil : FGs := fun ds ρ => match ds with
  | [] => some ρ
  | _ => none
def gsCons (f : FG) (g : FGs) : FGs := fun ds ρ => match ds with
  | [] => none
  | d :: r => match f d ρ with
    | none => none
    | some ρ1 => g r ρ1
theorem sgs_nil : SGs X [] [] gsNil := ⟨PGs.imp pgs_nil fun v σ H Q ⟨G, B, O, τ, ρ, T, ds, ρ', E, r, h, q⟩ => by
  cases r with
  | nil => cases h; exact ⟨rfl, q _ (Off.refl σ) E⟩
  | cons _ _ => cases h⟩
theorem sgs_cons {es : List Expr} {f : FG} {g : FGs} {ws us : List Nat} (h1 : SG X e ws f) (h2 : SGs X es us g) (hs : (assignEach (e :: es) X.env).map (·.2) = assign e X.env :: (assignEach es X.env).map (·.2) := by rfl) : SGs X (e :: es) (ws ++ us) (gsCons f g) := ⟨PGs.imp (pgs_cons h1.pg h2.pg hs) fun v σ H Q ⟨G, B, O, τ, ρ, T, ds, ρ', E, r, h, q⟩ => by
  cases r with
  | nil => cases h
  | @cons v vs d ds r rr =>
    have h : (match f d ρ with | none => none | some ρ1 => g ds ρ1) = some ρ' := h
    split at h
    · cases h
    · rename_i ρ1 h1
      exact ⟨v, vs, rfl, G, B, O, τ, ρ, T, d, ρ1, E, r, h1, fun σ1 o1 E' => ⟨G, B, O, τ, ρ1, T, ds, ρ', E', rr, h, fun σ2 o2 E2 => q σ2 (o1.app o2) E2⟩⟩⟩
def gTupD (n : Nat) (g : FGs) : FG := fun d ρ => match d with
  | .tuple ds => if ds.length = n then g ds ρ else none
  | .dict es => match isK es with
    | true => if es.length = n then g (es.map (·.2)) ρ else none
    | false => none
  | _ => none
theorem RepL.length {K : PySem.W.Frag} {O : OS} {H : Hp} : ∀ {ds : List D} {vs : List V}, RepL K O H vs ds → vs.length = ds.length
  | [], _, .nil => rfl
  | _ :: _, _, .cons _ q => by rw [List.length_cons, List.length_cons, RepL.length q]
theorem sg_tup {es : List Expr} {k : Nat} {g : FGs} {n : Nat} {ws : List Nat} (hc : X.calm = true) (h : SGs X es ws g)
    (hn : (assignEach es X.env).length = n := by rfl) (hst : (assignEach es X.env).findIdx? (·.1) = none := by rfl) : SG X (.Tuple es k pos) ws (gTupD n g) := ⟨PG.imp (pg_tup hc h.pg hn hst) fun v σ H Q ⟨G, B, O, τ, ρ, T, d, ρ', E, r, h, q⟩ => by
  cases r with
  | tup hs c rr =>
    have h : (if _ then _ else _) = _ := h
    split at h
    · rename_i hl
      exact ⟨_, _, rfl, .inl (c.rd hs), by rw [rr.length]; exact hl, G, B, O, τ, ρ, T, _, ρ', E, rr, h, q⟩
    · cases h
  | @ktp _ _ _ ks hs rr =>
    have hk : isK ks = true := by cases rr; rfl
    have h : (match isK ks with
      | true => if ks.length = n then g (ks.map (·.2)) ρ else none
      | false => none) = some ρ' := h
    rw [hk] at h
    have h : (if _ then _ else _) = _ := h
    have rl := rr.repL
    split at h
    · rename_i hl
      exact ⟨_, _, rfl, hs, by rw [rl.length, List.length_map]; exact hl, G, B, O, τ, ρ, T, _, ρ', E, rl, h, q⟩
    · cases h
  | dK e r =>
    unfold gTupD at h
    cases r with
    | nil => cases h
    | cons r q => rename_i k _ _ _ _; cases k <;> cases h
  | dT e r =>
    unfold gTupD at h
    cases r with
    | nil => cases h
    | cons _ r q => cases h
  | _ => cases h⟩
/-- target = value -/
def sAsgG (f : FE) (g : FG) : FS := fun ρ T => match f ρ T with
  | none => none
  | some (d, T1) => match g d ρ with
    | none => none
    | some ρ1 => some (.nx ρ1, T1)
theorem ss_asg {tg : Expr} {g : FG} {ws : List Nat} (he : SE X e fe) (hg : SG X tg ws g) (hs : swapsWithSole [tg] e pos.line X.env = pure false := by rfl) (hw : swappedStores [tg] e X.env = pure none := by rfl)
    (h1 : (assignEach [tg] X.env).map (·.2) = [assign tg X.env] := by rfl) : SS X (.Assign [tg] e pos) (sAsgG fe g) := ⟨PS.imp (ps_asg he.pe hg.pg hs hw h1) fun D σ H ⟨G, B, O, τ, ρ, T, fl, T', E, hf, q⟩ => by
  unfold sAsgG at hf
  split at hf
  · cases hf
  rename_i d T1 h
  split at hf
  · cases hf
  rename_i ρ1 h2
  cases hf
  exact ⟨G, B, O, τ, ρ, T, d, T', E, h, fun v H' x t r => ⟨G, B, O, τ, ρ, T', d, ρ1, E.step x t, r, h2, fun σ' _ E' => q σ' H' O (E.aft x) E'⟩⟩⟩
/-- a, b = x, y with plain local names -/
def sPar (i j : Nat) (fa fb : FE) : FS := fun ρ T => match fa ρ T with
  | none => none
  | some (x, T1) => match fb ρ T1 with
    | none => none
    | some (y, T2) => some (.nx ((ρ.set i (.fr x)).set j (.fr y)), T2)
end

/-! ### arguments -/
section
variable {X : Cx} {e : Expr} {fe : FE}
def aNil : FA := fun _ T => some ([], T)
def aCons (f : FE) (g : FA) : FA := fun ρ T => match f ρ T with
  | none => none
  | some (d, T1) => match g ρ T1 with
    | none => none
    | some (ds, T2) => some (d :: ds, T2)
theorem sa_nil : SA X [] aNil := ⟨PA.imp pa_nil fun σ H Q ⟨G, B, O, τ, ρ, T, ds, T', E, hf, q⟩ => by
  cases hf
  exact q [] H (Xt.refl H) E.tok .nil⟩
theorem sa_cons {es : List Expr} {g : FA} (he : SE X e fe) (hr : SA X es g) (hs : starEach (e :: es) X.env = (false, eval e X.env) :: starEach es X.env := by rfl) : SA X (e :: es) (aCons fe g) := ⟨PA.imp (pa_cons he.pe hr.pe hs) fun σ H Q ⟨G, B, O, τ, ρ, T, ds, T', E, hf, q⟩ => by
  unfold aCons at hf
  split at hf
  · cases hf
  rename_i d T1 h1
  split at hf
  · cases hf
  rename_i ds T2 h2
  cases hf
  refine ⟨G, B, O, τ, ρ, T, d, T1, E, h1, fun v H1 x1 t1 r1 => ⟨G, B, O, τ, ρ, T1, ds, T', E.step x1 t1, h2, fun vs H2 x2 t2 r2 => ?_⟩⟩
  exact q _ H2 (x1.tr x2) t2 (.cons (r1.step (E.step x1 t1) x2) r2)⟩
end
end Dv

/-! Dv5: what is walked, for, while, comprehensions. -/
namespace Dv
open PySem PySem.Spec PyProof.Rows L2

/-- the walk yields ds, whatever else turns -/
def Walk (K : PySem.W.Frag) (O : OS) (H : Hp) (J : It) (ds : List D) : Prop := ∀ (i : Nat) (O' : OS) (H' : Hp), Aft O O' H H' → (∀ a, O' a → H' a ≠ none) →
  (∀ d, ds[i]? = some d → J.go i H' ∧ ∀ x H'', J.yld i H' x H'' → Gr H' H'' ∧ Rep K O' H'' x d) ∧ (ds.length ≤ i → J.stop i H')
abbrev FI := Rho → Tp → Option (List D × Tp)
def rdI (K : PySem.W.Frag) (f : FI) : TI := fun σ H R => ∃ G B O τ ρ T ds T', Sta K G B O τ σ H ρ T ∧ f ρ T = some (ds, T') ∧
  ∀ J H', Xt (tS τ) H H' → TpOk O τ H' T' → Walk K O H' J ds → R J H'
structure SI (X : Cx) (tg it : Expr) (f : FI) : Prop where
  pi : PI X tg it (rdI X.K f)
theorem PI.imp {X : Cx} {tg it : Expr} {t u : TI} (h : PI X tg it t) (w : ∀ σ H Q, u σ H Q → t σ H Q) : PI X tg it u := ⟨fun pins s σ H Q I q => h.run pins s σ H Q I (w σ H Q q)⟩

/-! ### for -/
def forL (g : FG) (b : FS) : List D → FS
  | [], ρ, T => some (.nx ρ, T)
  | d :: ds, ρ, T => match g d ρ with
    | none => none
    | some ρ1 => match b ρ1 T with
      | none => none
      | some (.nx ρ2, T2) => forL g b ds ρ2 T2
      | some (.ct ρ2, T2) => forL g b ds ρ2 T2
      | some (.bk ρ2, T2) => some (.nx ρ2, T2)
      | some (.rt d, T2) => some (.rt d, T2)
def sFor (fi : FI) (g : FG) (b : FS) : FS := fun ρ T => match fi ρ T with
  | none => none
  | some (ds, T1) => forL g b ds ρ T1
theorem tFor_of {K : PySem.W.Frag} {fi : FI} {g : FG} {ws : List Nat} {b : FS} {D : Ends} {σ : L2.St} {H : Hp} (h : rdS K (sFor fi g b) D σ H) : tFor (rdI K fi) (rdG K ws g) (rdS K b) D σ H := by
  obtain ⟨G, B, O, τ, ρ, T, fl, T', E, hf, q⟩ := h
  unfold sFor at hf
  split at hf
  · cases hf
  rename_i ds T1 h1
  refine ⟨G, B, O, τ, ρ, T, ds, T1, E, h1, fun J H1 x1 t1 w1 => ?_⟩
  have E1 := E.step x1 t1
  have a1 := E.aft x1
  refine ⟨fun i m σ' H' => i + m = ds.length ∧ ∃ O' ρ' T2, Aft O O' H1 H' ∧ Sta K G B O' τ σ' H' ρ' T2 ∧ forL g b (ds.drop i) ρ' T2 = some (fl, T'), ⟨ds.length, by omega, O, ρ, T1, Aft.refl O H1, E1, by rw [List.drop_zero]; exact hf⟩, ?_⟩
  rintro i m σ' H' ⟨im, O', ρ', T2, a, E', hl⟩
  obtain ⟨wg, ws⟩ := w1 i O' H' a E'.dom
  by_cases hi : i < ds.length
  · have e : ds[i]? = some ds[i] := List.getElem?_eq_getElem hi
    obtain ⟨go, yl⟩ := wg _ e
    rw [List.drop_eq_getElem_cons hi] at hl
    generalize ds[i] = d at *
    have hl : (match g d ρ' with
      | none => none
      | some ρ1 => match b ρ1 T2 with
        | none => none
        | some (.nx ρ2, T2) => forL g b (ds.drop (i + 1)) ρ2 T2
        | some (.ct ρ2, T2) => forL g b (ds.drop (i + 1)) ρ2 T2
        | some (.bk ρ2, T2) => some (.nx ρ2, T2)
        | some (.rt d, T2) => some (.rt d, T2)) = some (fl, T') := hl
    refine .inr ⟨go, fun σ3 H3 => ∃ O3 ρ3 T3, Aft O O3 H1 H3 ∧ Sta K G B O3 τ σ3 H3 ρ3 T3 ∧ forL g b (ds.drop (i + 1)) ρ3 T3 = some (fl, T'), fun σ3 H3 ⟨O3, ρ3, T3, h1, h2, h3⟩ => ⟨m - 1, by omega, by omega, O3, ρ3, T3, h1, h2, h3⟩, fun x H2 hy => ?_⟩
    obtain ⟨gr, rx⟩ := yl x H2 hy
    split at hl
    · cases hl
    rename_i ρ1 hg
    refine ⟨G, B, O', τ, ρ', T2, d, ρ1, E'.grow gr, rx, hg, fun σ2 _ E2 => ?_⟩
    have a2 : Aft O O' H1 H2 := a.tr (E'.aft (gr.mono fun _ z => z.elim))
    split at hl
    · cases hl
    · rename_i ρ2 T3 hb
      exact ⟨G, B, O', τ, ρ1, T2, _, T3, E2, hb, fun σ3 H3 O3 a3 E3 => ⟨O3, ρ2, T3, a2.tr a3, E3, hl⟩⟩
    · rename_i ρ2 T3 hb
      exact ⟨G, B, O', τ, ρ1, T2, _, T3, E2, hb, fun σ3 H3 O3 a3 E3 => ⟨O3, ρ2, T3, a2.tr a3, E3, hl⟩⟩
    · rename_i ρ2 T3 hb
      cases hl
      exact ⟨G, B, O', τ, ρ1, T2, _, _, E2, hb, fun σ3 H3 O3 a3 E3 => q σ3 H3 O3 ((a1.tr a2).tr a3) E3⟩
    · rename_i d' T3 hb
      cases hl
      exact ⟨G, B, O', τ, ρ1, T2, _, _, E2, hb, q⟩
  · have e : i = ds.length := by omega
    subst e
    rw [List.drop_length] at hl
    cases hl
    exact .inl ⟨ws (Nat.le_refl _), q σ' H' O' (a1.tr a) E'⟩
theorem ss_for {X : Cx} {tg it : Expr} {body : List Stmt} {fi : FI} {g : FG} {ws : List Nat} {b : FS} {pos : Pos} (hp : PassesOwn (model X.prog X.w) X.A X.env X.xe) (hc : X.calm = true) (hi : SI X tg it fi) (hg : SG X tg ws g) (hb : SSs X body b)
    (hs : ∀ x, foldedSetIterable it X.env x = pure x := by intro _; rfl) : SS X (.For tg it body [] pos) (sFor fi g b) := ⟨PS.imp (ps_for hp hc hi.pi hg.pg hb.ps hs) fun D σ H h => tFor_of h⟩

/-! ### while -/
def whL (c : FT) (b : FS) : Nat → FS
  | 0, _, _ => none
  | n + 1, ρ, T => match c ρ T with
    | none => none
    | some (false, T1) => some (.nx ρ, T1)
    | some (true, T1) => match b ρ T1 with
      | none => none
      | some (.nx ρ2, T2) => whL c b n ρ2 T2
      | some (.ct ρ2, T2) => whL c b n ρ2 T2
      | some (.bk ρ2, T2) => some (.nx ρ2, T2)
      | some (.rt d, T2) => some (.rt d, T2)
theorem ss_while {X : Cx} {c : Expr} {body : List Stmt} {fc : FT} {b : FS} {pos : Pos} (n : Nat) (hp : PassesOwn (model X.prog X.w) X.A X.env X.xe) (hc : ST X c fc) (hb : SSs X body b) : SS X (.While c body [] pos) (whL fc b n) := ⟨PS.imp (ps_while hp hc.pe hb.ps) fun D σ H ⟨G, B, O, τ, ρ, T, fl, T', E, hf, q⟩ => by
  refine ⟨fun m σ' H' => ∃ O' ρ' T2, Aft O O' H H' ∧ Sta X.K G B O' τ σ' H' ρ' T2 ∧ whL fc b m ρ' T2 = some (fl, T'), ⟨n, O, ρ, T, Aft.refl O H, E, hf⟩, ?_⟩
  rintro m σ' H' ⟨O', ρ', T2, a, E', hl⟩
  cases m with
  | zero => cases hl
  | succ m =>
    have hl : (match fc ρ' T2 with
    | none => none
    | some (false, T1) => some (.nx ρ', T1)
    | some (true, T1) => match b ρ' T1 with
      | none => none
      | some (.nx ρ2, T2) => whL fc b m ρ2 T2
      | some (.ct ρ2, T2) => whL fc b m ρ2 T2
      | some (.bk ρ2, T2) => some (.nx ρ2, T2)
      | some (.rt d, T2) => some (.rt d, T2)) = some (fl, T') := hl
    split at hl
    · cases hl
    · rename_i T3 h3
      cases hl
      refine ⟨G, B, O', τ, ρ', T2, false, _, E', h3, fun H3 x t => ?_⟩
      show D.nx σ' H3
      exact q σ' H3 O' (a.tr (E'.aft x)) (E'.step x t)
    · rename_i T3 h3
      refine ⟨G, B, O', τ, ρ', T2, true, T3, E', h3, fun H3 x t => ?_⟩
      have a3 := a.tr (E'.aft x)
      show ∃ N : L2.St → Hp → Prop, _ ∧ _
      refine ⟨fun σ4 H4 => ∃ O4 ρ4 T4, Aft O O4 H H4 ∧ Sta X.K G B O4 τ σ4 H4 ρ4 T4 ∧ whL fc b m ρ4 T4 = some (fl, T'), fun σ4 H4 h => ⟨m, Nat.lt_succ_self m, h⟩, ?_⟩
      split at hl
      · cases hl
      · rename_i ρ2 T4 hb
        exact ⟨G, B, O', τ, ρ', T3, _, T4, E'.step x t, hb, fun σ3 H3 O3 b3 E3 => ⟨O3, ρ2, T4, a3.tr b3, E3, hl⟩⟩
      · rename_i ρ2 T4 hb
        exact ⟨G, B, O', τ, ρ', T3, _, T4, E'.step x t, hb, fun σ3 H3 O3 b3 E3 => ⟨O3, ρ2, T4, a3.tr b3, E3, hl⟩⟩
      · rename_i ρ2 T4 hb
        cases hl
        exact ⟨G, B, O', τ, ρ', T3, _, _, E'.step x t, hb, fun σ3 H3 O3 b3 E3 => q σ3 H3 O3 (a3.tr b3) E3⟩
      · rename_i d' T4 hb
        cases hl
        exact ⟨G, B, O', τ, ρ', T3, _, _, E'.step x t, hb, q⟩⟩
end Dv

/-! Dv6: comprehensions. -/
namespace Dv
open PySem PySem.Spec PyProof.Rows L2

def wipeR (ρ : Rho) : List Nat → Rho
  | [] => ρ
  | v :: vs => (wipeR ρ vs).set v .un
theorem wipe_ix {σ : L2.St} {i : Nat} : ∀ {vs : List Nat}, i ∈ vs → (wipe σ vs)[i]? = if i < σ.length then some none else none
  | v :: vs, h => by
    unfold wipe
    rw [List.getElem?_set, wipe_length]
    by_cases e : v = i
    · subst e; rw [if_pos rfl]
    · rw [if_neg e]
      rcases List.mem_cons.mp h with z | z
      · exact absurd z.symm e
      · exact wipe_ix z
theorem wipe_off {ws vs : List Nat} {σ σ' : L2.St} (o : Off ws (wipe σ vs) σ') (h : ∀ j ∈ ws, j ∈ vs) : wipe σ' vs = wipe σ vs := by
  have hl : σ'.length = σ.length := by rw [o.1, wipe_length]
  refine List.ext_getElem? fun i => ?_
  by_cases hi : i ∈ vs
  · rw [wipe_ix hi, wipe_ix hi, hl]
  · rw [wipe_out hi, o.2 i fun z => hi (h i z)]
section
variable {K : PySem.W.Frag} {G : Hp} {B O : OS} {τ : Option Addr} {σ : L2.St} {H H' : Hp} {ρ : Rho} {T T' : Tp}
theorem Sta.wipe1 (E : Sta K G B O τ σ H ρ T) (v : Nat) : Sta K G B O τ (σ.set v none) H (ρ.set v .un) T where
  len := by rw [List.length_set, List.length_set]; exact E.len
  fr := fun j d h => by
    rw [List.getElem?_set] at h ⊢
    by_cases hj : v = j
    · rw [if_pos hj] at h; split at h <;> cases h
    · rw [if_neg hj] at h ⊢; exact E.fr j d h
  ow := fun j d h => by
    rw [List.getElem?_set] at h ⊢
    by_cases hj : v = j
    · rw [if_pos hj] at h; split at h <;> cases h
    · rw [if_neg hj] at h ⊢; exact E.ow j d h
  sep := fun j k d d' a h1 h2 h3 h4 => by
    rw [List.getElem?_set] at h1 h2 h3 h4
    by_cases hj : v = j
    · rw [if_pos hj] at h1; split at h1 <;> cases h1
    · by_cases hk : v = k
      · rw [if_pos hk] at h2; split at h2 <;> cases h2
      · rw [if_neg hj] at h1 h3; rw [if_neg hk] at h2 h4
        exact E.sep j k d d' a h1 h2 h3 h4
  tp := fun j h => by
    rw [List.getElem?_set] at h ⊢
    by_cases hj : v = j
    · rw [if_pos hj] at h; split at h <;> cases h
    · rw [if_neg hj] at h ⊢; exact E.tp j h
  tok := E.tok
  tb := E.tb
  dom := E.dom
  gb := E.gb
  gd := E.gd
  gk := E.gk
theorem Sta.wipe (E : Sta K G B O τ σ H ρ T) : ∀ vs : List Nat, Sta K G B O τ (wipe σ vs) H (wipeR ρ vs) T
  | [] => E
  | v :: vs => (E.wipe vs).wipe1 v
/-- a new thing that is filled -/
theorem Sta.fill (E : Sta K G B O τ σ H ρ T) {p : Addr} {o : HO} (hp : H p = none) : Sta K G B (addO O p) τ σ (upd H p o) ρ T where
  len := E.len
  fr := fun j d h => by
    obtain ⟨v, e, r⟩ := E.fr j d h
    exact ⟨v, e, r.go (Gr.new hp) (fun _ z _ => z.elim) (addO_new hp)⟩
  ow := fun j d h => by
    obtain ⟨a, e, oa, nb, ga, ta, r⟩ := E.ow j d h
    exact ⟨a, e, .inl oa, nb, ga, ta, r.go (Gr.new hp) (fun _ z _ => z.elim) (addO_new hp) id⟩
  sep := E.sep
  tp := E.tp
  tok := E.tok.more hp
  tb := E.tb
  dom := fun a z => by
    rcases z with z | z
    · rw [upd_ne fun e => E.dom a z (by rw [e]; exact hp)]; exact E.dom a z
    · rw [z, upd_same]; simp
  gb := fun a z => .inl (E.gb a z)
  gd := E.gd
  gk := E.gk.tr (Xt.new hp)
/-- the filled thing changes: it is no slot's and no tape's -/
theorem Sta.turnAt (E : Sta K G B O τ σ H ρ T) {p : Addr} {o u : HO} (hp : H p = some u) (nf : ¬ Fix u) (op : O p) (nt : τ ≠ some p) (ng : G p = none) (ns : ∀ (i : Nat) (d : D), ρ[i]? = some (.ow d) → σ[i]? ≠ some (some (.ref p))) : Sta K G B O τ σ (upd H p o) ρ T := by
  have x : Xt O H (upd H p o) := Xt.wr op hp nf
  exact {
    len := E.len
    fr := fun j d h => by
      obtain ⟨v, e, r⟩ := E.fr j d h
      exact ⟨v, e, r.go x (fun _ z _ => z) fun _ z => .inl z⟩
    ow := fun j d h => by
      obtain ⟨a, e, oa, nb, ga, ta, r⟩ := E.ow j d h
      have hne : a ≠ p := fun z => ns j d h (by rw [e, z])
      refine ⟨a, e, oa, nb, ga, ta, ?_⟩
      have x' : Xt (fun b => b = p) H (upd H p o) := Xt.wr rfl hp nf
      exact r.go x' (fun b z _ => by rw [z]; exact op) (fun _ z => .inl z) hne
    sep := E.sep
    tp := E.tp
    tok := E.tok.go (S := fun b => b = p) (Xt.wr rfl hp nf) (fun b z _ => by subst z; exact ⟨op, nt⟩) (fun _ z => .inl z) E.tO
    tb := E.tb
    dom := fun a z => by
      by_cases h : a = p
      · rw [h, upd_same]; simp
      · rw [upd_ne h]; exact E.dom a z
    gb := E.gb
    gd := E.gd
    gk := fun a u' h n => by
      have h1 := E.gk a u' h n
      have hne : a ≠ p := fun z => by rw [z, ng] at h; cases h
      rw [upd_ne hne]; exact h1 }
end

def lcL (g : FG) (ft : FT) (fe : FE) (ρ : Rho) : List D → Tp → Option (List D × Tp)
  | [], T => some ([], T)
  | d :: ds, T => match g d ρ with
    | none => none
    | some ρ1 => match ft ρ1 T with
      | none => none
      | some (false, T1) => lcL g ft fe ρ ds T1
      | some (true, T1) => match fe ρ1 T1 with
        | none => none
        | some (y, T2) => match lcL g ft fe ρ ds T2 with
          | none => none
          | some (ys, T3) => some (y :: ys, T3)
def eLc (fi : FI) (g : FG) (ft : FT) (fe : FE) (vs : List Nat) : FE := fun ρ T => match fi ρ T with
  | none => none
  | some (ds, T1) => match lcL g ft fe (wipeR ρ vs) ds T1 with
    | none => none
    | some (ys, T2) => if ds.length ≤ sizeLine then some (.list ys, T2) else none
theorem RepL.app {K : PySem.W.Frag} {O : OS} {H : Hp} {v : V} {d : D} (r : Rep K O H v d) : ∀ {ds : List D} {vs : List V}, RepL K O H vs ds → RepL K O H (vs ++ [v]) (ds ++ [d])
  | [], _, .nil => .cons r .nil
  | _ :: _, _, .cons q t => .cons q (RepL.app r t)
theorem Xt.mut {S : OS} {H H' : Hp} {p : Addr} {o : HO} (x : Xt S H H') (hp : H p = none) : Xt S H (upd H' p o) := fun a u e n => by
  rw [upd_ne (ne_of_none e hp)]
  exact x a u e n
theorem tLc_of {K : PySem.W.Frag} {fi : FI} {g : FG} {ft : FT} {fe : FE} {ws vs : List Nat} (hw : ∀ j ∈ ws, j ∈ vs) {σ : L2.St} {H : Hp} {Q : VK} (h : rdN K (eLc fi g ft fe vs) σ H Q) : tLc (rdI K fi) (rdG K ws g) (rdT K ft) (rdE K fe) vs σ H Q := by
  obtain ⟨G, B, O, τ, ρ, T, d, T', E, hf, q⟩ := h
  unfold eLc at hf
  split at hf
  · cases hf
  rename_i ds T1 h1
  split at hf
  · cases hf
  rename_i ys T2 h2
  split at hf
  case isFalse => cases hf
  rename_i hsz
  cases hf
  refine ⟨G, B, O, τ, ρ, T, ds, T1, E, h1, fun J H1 x1 t1 w1 p hp => ?_⟩
  have E1 := E.step x1 t1
  have np : ∀ a, O a → a ≠ p := fun a z e => E1.dom a z (by rw [e]; exact hp)
  have ns : ∀ (i : Nat) (d : D), (wipeR ρ vs)[i]? = some (.ow d) → (wipe σ vs)[i]? ≠ some (some (.ref p)) := fun i d e z => by
    obtain ⟨a, e2, oa, _⟩ := (E1.wipe vs).ow i d e
    rw [z] at e2; cases e2
    exact np p oa rfl
  have gp : G p = none := by
    cases e : G p with
    | none => rfl
    | some u =>
      have := E1.gk p u e (.inl fun z => np p (E1.tO p z) rfl)
      rw [hp] at this; cases this
  have nt : τ ≠ some p := fun z => np p (E1.tO p z) rfl
  refine ⟨fun i m H' => i + m = ds.length ∧ ∃ T3 acc ys1 ys2, Sta K G B (addO O p) τ (wipe σ vs) H' (wipeR ρ vs) T3 ∧ Xt (tS τ) H1 H' ∧ H' p = some (.lst acc) ∧ RepL K (addO O p) H' acc ys1 ∧ acc.length ≤ i ∧
      lcL g ft fe (wipeR ρ vs) (ds.drop i) T3 = some (ys2, T') ∧ ys = ys1 ++ ys2, ⟨ds.length, by omega, T1, [], [], ys, (E1.wipe vs).fill hp, Xt.new hp, upd_same, .nil, Nat.le_refl _, by rw [List.drop_zero]; exact h2, rfl⟩, ?_⟩
  rintro i m H' ⟨im, T3, acc, ys1, ys2, E3, x3, hacc, racc, lacc, hl, rfl⟩
  have a3 : Aft O (addO O p) H1 H' := ⟨x3.mono E1.tO, addO_new hp⟩
  obtain ⟨wg, wst⟩ := w1 i (addO O p) H' a3 E3.dom
  by_cases hi : i < ds.length
  · have e : ds[i]? = some ds[i] := List.getElem?_eq_getElem hi
    obtain ⟨go, yl⟩ := wg _ e
    rw [List.drop_eq_getElem_cons hi] at hl
    generalize ds[i] = d at *
    have hl : (match g d (wipeR ρ vs) with
      | none => none
      | some ρ1 => match ft ρ1 T3 with
        | none => none
        | some (false, T1) => lcL g ft fe (wipeR ρ vs) (ds.drop (i + 1)) T1
        | some (true, T1) => match fe ρ1 T1 with
          | none => none
          | some (y, T2) => match lcL g ft fe (wipeR ρ vs) (ds.drop (i + 1)) T2 with
            | none => none
            | some (ys, T3) => some (y :: ys, T3)) = some (ys2, T') := hl
    refine .inr ⟨go, fun H4 => ∃ T3 acc ys1' ys2', Sta K G B (addO O p) τ (wipe σ vs) H4 (wipeR ρ vs) T3 ∧ Xt (tS τ) H1 H4 ∧ H4 p = some (.lst acc) ∧ RepL K (addO O p) H4 acc ys1' ∧ acc.length ≤ i + 1 ∧
      lcL g ft fe (wipeR ρ vs) (ds.drop (i + 1)) T3 = some (ys2', T') ∧ ys1 ++ ys2 = ys1' ++ ys2', fun H4 h4 => ⟨m - 1, by omega, by omega, h4⟩, fun x H2 hy => ?_⟩
    obtain ⟨gr, rx⟩ := yl x H2 hy
    have grt : Xt (tS τ) H' H2 := gr.mono fun _ z => z.elim
    have tOp : ∀ a, tS τ a → addO O p a := fun a z => .inl (E1.tO a z)
    have keep : ∀ {H5 H6 : Hp} {u}, Xt (tS τ) H5 H6 → H5 p = some u → H6 p = some u := fun x e => x p _ e (.inl nt)
    split at hl
    · cases hl
    rename_i ρ1 hg
    refine ⟨G, B, addO O p, τ, _, T3, d, ρ1, E3.grow gr, rx, hg, fun σ2 o2 E4 => ⟨wipe_off o2 hw, ?_⟩⟩
    split at hl
    · cases hl
    · rename_i T4 ht
      refine ⟨G, B, addO O p, τ, ρ1, T3, false, T4, E4, ht, fun H5 x5 t5 => ?_⟩
      have x35 := grt.tr x5
      exact ⟨T4, acc, ys1, ys2, E3.step x35 t5, x3.tr x35, keep x35 hacc, racc.go x35 (fun a z _ => tOp a z) (fun _ z => .inl z), by omega, hl, rfl⟩
    · rename_i T4 ht
      refine ⟨G, B, addO O p, τ, ρ1, T3, true, T4, E4, ht, fun H5 x5 t5 => ?_⟩
      have x35 := grt.tr x5
      split at hl
      · cases hl
      rename_i y T5 he
      split at hl
      · cases hl
      rename_i ys3 T6 hr
      cases hl
      refine ⟨G, B, addO O p, τ, ρ1, T4, y, T5, E4.step x5 t5, he, fun yv H6 x6 t6 ry => ?_⟩
      have x36 := x35.tr x6
      have hacc6 := keep x36 hacc
      have E6 := E3.step x36 t6
      refine ⟨acc, hacc6, by omega, T5, acc ++ [yv], ys1 ++ [y], ys3, E6.turnAt hacc6 id (.inr rfl) nt gp ns, (x3.tr x36).mut hp, upd_same, ?_, by rw [List.length_append]; exact Nat.add_le_add_right lacc 1, hr, by rw [List.append_assoc]; rfl⟩
      have xw : Xt (fun b => b = p) H6 (upd H6 p (.lst (acc ++ [yv]))) := Xt.wr rfl hacc6 id
      have hin : ∀ a, a = p → H6 a ≠ none → addO O p a := fun a z _ => .inr z
      exact RepL.app (ry.go xw hin fun _ z => .inl z) ((racc.go x36 (fun a z _ => tOp a z) (fun _ z => .inl z)).go xw hin fun _ z => .inl z)
  · have e : i = ds.length := by omega
    subst e
    rw [List.drop_length] at hl
    cases hl
    rw [List.append_nil] at q
    have hp0 : H p = none := by
      cases e : H p with
      | none => rfl
      | some u =>
        have := x1 p u e (.inl nt)
        rw [hp] at this; cases this
    exact .inl ⟨wst (Nat.le_refl _), q p H' hp0 (x1.tr x3) E3.tok (.lst hacc racc)⟩

section
variable {X : Cx}
/-- the tests of a clause -/
structure STs (X : Cx) (ifs : List Expr) (f : FT) : Prop where
  pt : PTs X ifs (rdT X.K f)
theorem PTs.imp {ifs : List Expr} {t u : TT} (h : PTs X ifs t) (w : ∀ σ H Q, u σ H Q → t σ H Q) : PTs X ifs u := ⟨fun pins s σ H Q I q => h.run pins s σ H Q I (w σ H Q q)⟩
def tTrue : FT := fun _ T => some (true, T)
theorem sts_nil : STs X [] tTrue := ⟨PTs.imp pts_nil fun σ H Q ⟨G, B, O, τ, ρ, T, d, T', E, hf, q⟩ => by
  cases hf
  exact q H (Xt.refl H) E.tok⟩
theorem sts_one {c : Expr} {f : FT} (h : ST X c f) : STs X [c] f := ⟨pts_one h.pe⟩
theorem sn_lc {elt tg iter : Expr} {ifs : List Expr} {scope : Scope} {own : List (Str × Nat)} {pos : Pos} {fi : FI} {g : FG} {ft : FT} {fe : FE} {ws : List Nat} (hc : X.calm = true) (hN : X.N.Nodup) (hi : SI X tg iter fi) (ok : BlkOk X.N X.env.scope scope own)
    (hg : ∀ (s : Shared) (H : Hp) (C : Addr) (cl : List (Str × Addr)) (fp : List Addr), SG (X.blk s H scope (compEnvC scope cl C X.env) fp) tg ws g) (ht : ∀ (s : Shared) (H : Hp) (C : Addr) (cl : List (Str × Addr)) (fp : List Addr), STs (X.blk s H scope (compEnvC scope cl C X.env) fp) ifs ft)
    (he : ∀ (s : Shared) (H : Hp) (C : Addr) (cl : List (Str × Addr)) (fp : List Addr), SE (X.blk s H scope (compEnvC scope cl C X.env) fp) elt fe) (hw : ∀ j ∈ ws, j ∈ own.map (·.2) := by decide) (hs : ∀ x, foldedSetIterable iter X.env x = pure x := by intro _; rfl) :
    SN X (.ListComp elt [⟨tg, iter, ifs, 0⟩] scope pos) (eLc fi g ft fe (own.map (·.2))) := ⟨PE.imp (pe_lc hc hN hi.pi ok (fun s H C cl fp => (hg s H C cl fp).pg) (fun s H C cl fp => (ht s H C cl fp).pt) (fun s H C cl fp => (he s H C cl fp).pe) hs) fun σ H Q h => tLc_of hw h⟩
theorem ss_newLc {i : Nat} {y : Str} {py : Pos} {elt tg iter : Expr} {ifs : List Expr} {scope : Scope} {own : List (Str × Nat)} {pos spos : Pos} {fi : FI} {g : FG} {ft : FT} {fe : FE} {ws : List Nat} (hc : X.calm = true) (hN : X.N.Nodup) (hi : SI X tg iter fi) (ok : BlkOk X.N X.env.scope scope own)
    (hg : ∀ (s : Shared) (H : Hp) (C : Addr) (cl : List (Str × Addr)) (fp : List Addr), SG (X.blk s H scope (compEnvC scope cl C X.env) fp) tg ws g) (ht : ∀ (s : Shared) (H : Hp) (C : Addr) (cl : List (Str × Addr)) (fp : List Addr), STs (X.blk s H scope (compEnvC scope cl C X.env) fp) ifs ft)
    (he : ∀ (s : Shared) (H : Hp) (C : Addr) (cl : List (Str × Addr)) (fp : List Addr), SE (X.blk s H scope (compEnvC scope cl C X.env) fp) elt fe)
    (hsw : swapsWith (.ListComp elt [⟨tg, iter, ifs, 0⟩] scope pos) (some (.Name y py)) spos.line X.env = pure true := by exact sw_true rfl rfl rfl (by decide +kernel)) (hy : X.N[i]? = some y := by rfl) (hyl : X.env.scope.names.lookup y = some .local := by rfl)
    (hw : ∀ j ∈ ws, j ∈ own.map (·.2) := by decide) (hs : ∀ x, foldedSetIterable iter X.env x = pure x := by intro _; rfl) :
    SS X (.Assign [.Name y py] (.ListComp elt [⟨tg, iter, ifs, 0⟩] scope pos) spos) (sNew i (eLc fi g ft fe (own.map (·.2)))) := ⟨PS.imp (ps_setLc hc hN hy hyl hsw hi.pi ok (fun s H C cl fp => (hg s H C cl fp).pg) (fun s H C cl fp => (ht s H C cl fp).pt) (fun s H C cl fp => (he s H C cl fp).pe) hs) fun D σ H h => by
  obtain ⟨G, B, O, τ, ρ, T, fl, T', E, hf, q⟩ := h
  unfold sNew at hf
  split at hf
  · cases hf
  · rename_i d T1 h
    cases hf
    exact tLc_of hw ⟨G, B, O, τ, ρ, T, d, T', E, h, fun p H' hp x t r => q _ H' (addO O p) ⟨x.mono E.tO, addO_new hp⟩ (E.own hp x t r)⟩⟩
end
end Dv

/-! Dv7: defs and calls. -/
namespace Dv
open PySem PySem.Spec PyProof.Rows L2

/-- the promise of a def that computes f, and changes nothing -/
def spP (K : PySem.W.Frag) (n : Nat) (f : List D → Option D) : Sp := fun vs H Q _ => ∃ O ds d, (∀ a, O a → H a ≠ none) ∧ RepL K O H vs ds ∧ ds.length = n ∧ f ds = some d ∧ ∀ v H', Gr H H' → Rep K O H' v d → Q v H'
/-- .. that turns the tape, its first argument -/
def spT (K : PySem.W.Frag) (n : Nat) (f : List D → Tp → Option (D × Tp)) : Sp := fun vs H Q _ => ∃ p ws O T ds d T', vs = .ref p :: ws ∧ (∀ a, O a → H a ≠ none) ∧ TpOk O (some p) H T ∧ RepL K O H ws ds ∧ ds.length = n ∧ f ds T = some (d, T') ∧
  ∀ v H', Xt (tS (some p)) H H' → TpOk O (some p) H' T' → Rep K O H' v d → Q v H'
def T0 : Tp := ⟨[], 0, 0, 0, 0⟩
def frame (N : Nat) (cs : List Cell) : Rho := cs ++ List.replicate (N - cs.length) .un
def bodyP (N : Nat) (b : FS) : List D → Option D := fun ds => match b (frame N (ds.map .fr)) T0 with
  | some (.rt d, _) => some d
  | some (.nx _, _) => some .none
  | _ => none
def bodyT (N : Nat) (b : FS) : List D → Tp → Option (D × Tp) := fun ds T => match b (frame N (.tp :: ds.map .fr)) T with
  | some (.rt d, T1) => some (d, T1)
  | some (.nx _, T1) => some (.none, T1)
  | _ => none

theorem RepL.get {K : PySem.W.Frag} {O : OS} {H : Hp} : ∀ {ds : List D} {vs : List V} {i : Nat} {d : D}, RepL K O H vs ds → ds[i]? = some d → ∃ v, vs[i]? = some v ∧ Rep K O H v d
  | [], _, _, _, .nil, e => by simp at e
  | _ :: _, _, 0, _, .cons r _, e => by simp at e; subst e; exact ⟨_, rfl, r⟩
  | _ :: _, _, i + 1, d, .cons _ t, e => by
    obtain ⟨v, h1, h2⟩ := RepL.get (i := i) (d := d) t (by simpa using e)
    exact ⟨v, by simpa using h1, h2⟩
section
variable {K : PySem.W.Frag} {H : Hp} {O : OS} {N : List Str} {vs : List V} {ds : List D} {T : Tp}
theorem frame_len {n : Nat} {cs : List Cell} (h : cs.length ≤ n) : (frame n cs).length = n := by
  unfold frame
  rw [List.length_append, List.length_replicate]; omega
theorem start_len {N : List Str} {vs : List V} (h : vs.length ≤ N.length) : (L2.start N vs).length = N.length := by
  unfold L2.start
  rw [List.length_append, List.length_map, List.length_replicate]; omega
theorem frame_get {n : Nat} {cs : List Cell} {i : Nat} {c : Cell} (h : (frame n cs)[i]? = some c) (hc : c ≠ .un) : cs[i]? = some c := by
  unfold frame at h
  rw [List.getElem?_append] at h
  split at h
  · exact h
  · rw [List.getElem?_replicate] at h
    split at h
    · cases h; exact absurd rfl hc
    · cases h
theorem start_get {i : Nat} {v : V} (h : vs[i]? = some v) : (L2.start N vs)[i]? = some (some v) := by
  unfold L2.start
  have hl : i < vs.length := (List.getElem?_eq_some_iff.mp h).1
  rw [List.getElem?_append, if_pos (by rw [List.length_map]; exact hl), List.getElem?_map, h]; rfl
theorem sta_startP (hO : ∀ a, O a → H a ≠ none) (r : RepL K O H vs ds) (hl : ds.length ≤ N.length) : Sta K H O O none (L2.start N vs) H (frame N.length (ds.map .fr)) T where
  len := by rw [frame_len (by rw [List.length_map]; exact hl), start_len (by rw [r.length]; exact hl)]
  fr := fun i d h => by
    have h1 := frame_get h (by intro z; cases z)
    rw [List.getElem?_map] at h1
    cases e : ds[i]? with
    | none => rw [e] at h1; cases h1
    | some d' =>
      rw [e] at h1; cases h1
      obtain ⟨v, hv, rv⟩ := r.get e
      exact ⟨v, start_get hv, rv⟩
  ow := fun i d h => by
    have h1 := frame_get h (by intro z; cases z)
    rw [List.getElem?_map] at h1
    cases e : ds[i]? <;> rw [e] at h1 <;> cases h1
  sep := fun i j d d' a h _ _ _ => by
    have h1 := frame_get h (by intro z; cases z)
    rw [List.getElem?_map] at h1
    cases e : ds[i]? <;> rw [e] at h1 <;> cases h1
  tp := fun i h => by
    have h1 := frame_get h (by intro z; cases z)
    rw [List.getElem?_map] at h1
    cases e : ds[i]? <;> rw [e] at h1 <;> cases h1
  tok := fun p e => by cases e
  tb := fun p e => by cases e
  dom := hO
  gb := fun _ z => z
  gd := hO
  gk := Xt.refl H
theorem sta_startT {p : Addr} (hO : ∀ a, O a → H a ≠ none) (t : TpOk O (some p) H T) (r : RepL K O H vs ds) (hl : ds.length + 1 ≤ N.length) : Sta K H O O (some p) (L2.start N (.ref p :: vs)) H (frame N.length (.tp :: ds.map .fr)) T where
  len := by rw [frame_len (by rw [List.length_cons, List.length_map]; exact hl), start_len (by rw [List.length_cons, r.length]; exact hl)]
  fr := fun i d h => by
    have h1 := frame_get h (by intro z; cases z)
    cases i with
    | zero => cases h1
    | succ i =>
      rw [List.getElem?_cons_succ, List.getElem?_map] at h1
      cases e : ds[i]? with
      | none => rw [e] at h1; cases h1
      | some d' =>
        rw [e] at h1; cases h1
        obtain ⟨v, hv, rv⟩ := r.get e
        exact ⟨v, start_get hv, rv⟩
  ow := fun i d h => by
    have h1 := frame_get h (by intro z; cases z)
    cases i with
    | zero => cases h1
    | succ i =>
      rw [List.getElem?_cons_succ, List.getElem?_map] at h1
      cases e : ds[i]? <;> rw [e] at h1 <;> cases h1
  sep := fun i j d d' a h _ _ _ => by
    have h1 := frame_get h (by intro z; cases z)
    cases i with
    | zero => cases h1
    | succ i =>
      rw [List.getElem?_cons_succ, List.getElem?_map] at h1
      cases e : ds[i]? <;> rw [e] at h1 <;> cases h1
  tp := fun i h => by
    have h1 := frame_get h (by intro z; cases z)
    cases i with
    | zero => exact ⟨p, rfl, start_get rfl⟩
    | succ i =>
      rw [List.getElem?_cons_succ, List.getElem?_map] at h1
      cases e : ds[i]? <;> rw [e] at h1 <;> cases h1
  tok := t
  tb := fun q e => (t q e).1
  dom := hO
  gb := fun _ z => z
  gd := hO
  gk := Xt.refl H
end
section
variable {P : Program} {w : World} {K : PySem.W.Frag} {mg : Str → Option Value} {base : Heap}
theorem fn_p {x qual : Str} {st : Stmt} {f : Addr} {fd : FuncData} {N ps : List Str} {k : Nat} {b : FS} (F : Fun K x qual st f fd) (S : FnScope N ps (defScope st)) (hl : ps.length ≤ N.length)
    (hb : ∀ (cdv : Value) (A : Around) (outer : List Env) (s : Shared) (H : Hp) (E : XK), Room k (A.deeper (envOfC qual (defScope st) s.heap.objs.size f cdv)) →
      SSs (cxOf CX0 P w K mg base N qual (defScope st) f cdv A outer s H E).nox (defBody st) b) : FnOk P w K mg base CX0 (k + 1) f fd ps (spP K ps.length (bodyP N.length b)) := by
  refine F.ok S (fun vs H Q E h => ?_) (fun cdv A outer s H vs Q E hr h => ?_)
  · obtain ⟨O, ds, d, _, r, e, _⟩ := h
    rw [r.length, e]
  · obtain ⟨O, ds, d, hO, r, e, hf, q⟩ := h
    refine ⟨_, (hb cdv A outer s H E hr).ps, ?_⟩
    unfold bodyP at hf
    have E0 : Sta K H O O none (L2.start N vs) H (frame N.length (ds.map .fr)) T0 := sta_startP hO r (by omega)
    split at hf
    · rename_i d1 T1 h1
      cases hf
      exact ⟨H, O, O, none, _, T0, .rt d, T1, E0, h1, fun v H' _ x rv => q v H' (x.mono fun _ z => by cases z) rv⟩
    · rename_i ρ1 T1 h1
      cases hf
      exact ⟨H, O, O, none, _, T0, .nx ρ1, T1, E0, h1, fun σ' H' O' _ E' => q .non H' (E'.gk.mono fun _ z => by cases z) .non⟩
    · cases hf
theorem fn_t {x qual : Str} {st : Stmt} {f : Addr} {fd : FuncData} {N ps : List Str} {k n : Nat} {b : FS} (F : Fun K x qual st f fd) (S : FnScope N ps (defScope st)) (hn : ps.length = n + 1) (hl : n + 1 ≤ N.length)
    (hb : ∀ (cdv : Value) (A : Around) (outer : List Env) (s : Shared) (H : Hp) (E : XK), Room k (A.deeper (envOfC qual (defScope st) s.heap.objs.size f cdv)) →
      SSs (cxOf CX0 P w K mg base N qual (defScope st) f cdv A outer s H E).nox (defBody st) b) : FnOk P w K mg base CX0 (k + 1) f fd ps (spT K n (bodyT N.length b)) := by
  refine F.ok S (fun vs H Q E h => ?_) (fun cdv A outer s H vs Q E hr h => ?_)
  · obtain ⟨p, ws, O, T, ds, d, T', e, _, _, r, hd, _⟩ := h
    rw [e, List.length_cons, r.length, hd, hn]
  · obtain ⟨p, ws, O, T, ds, d, T', rfl, hO, t, r, hd, hf, q⟩ := h
    refine ⟨_, (hb cdv A outer s H E hr).ps, ?_⟩
    unfold bodyT at hf
    have E0 : Sta K H O O (some p) (L2.start N (.ref p :: ws)) H (frame N.length (.tp :: ds.map .fr)) T := sta_startT hO t r (by omega)
    split at hf
    · rename_i d1 T1 h1
      cases hf
      exact ⟨H, O, O, some p, _, T, .rt d, T', E0, h1, fun v H' t' x rv => q v H' x t' rv⟩
    · rename_i ρ1 T1 h1
      cases hf
      exact ⟨H, O, O, some p, _, T, .nx ρ1, T', E0, h1, fun σ' H' O' _ E' => q .non H' E'.gk E'.out .non⟩
    · cases hf
end

/-! ### calls of defs -/
section
variable {X : Cx} {k n : Nat} {f : Addr} {fd : FuncData} {ps : List Str} {x : Str} {p pos : Pos} {e : Expr} {es : List Expr} {fa : FA}
def eCall (g : List D → Option D) (fa : FA) : FE := fun ρ T => match fa ρ T with
  | none => none
  | some (ds, T1) => match g ds with
    | none => none
    | some d => some (d, T1)
theorem tCall_of {K : PySem.W.Frag} {g : List D → Option D} {E : XK} {σ : L2.St} {H : Hp} {Q : VK} (hn : ∀ ds d, g ds = some d → ds.length = n) (h : rdE K (eCall g fa) σ H Q) : tCall (spP K n g) [] E (rdA K fa) σ H Q := by
  obtain ⟨G, B, O, τ, ρ, T, d, T', E, hf, q⟩ := h
  unfold eCall at hf
  split at hf
  · cases hf
  rename_i ds T1 h1
  split at hf
  · cases hf
  rename_i d' h2
  cases hf
  refine ⟨G, B, O, τ, ρ, T, ds, T', E, h1, fun vs H1 x1 t1 r1 => ?_⟩
  show spP K n g (vs ++ []) H1 Q _
  rw [List.append_nil]
  exact ⟨O, ds, d, (E.step x1 t1).dom, r1, hn ds d h2, h2, fun v H' g' rv => q v H' (x1.tr (g'.mono fun _ z => z.elim)) (t1.gr g') rv⟩
def argc (n : Nat) (g : List D → Option D) : List D → Option D := fun ds => if ds.length = n then g ds else none
theorem argc_len {n : Nat} {g : List D → Option D} : ∀ ds d, argc n g ds = some d → ds.length = n := fun ds d h => by
  unfold argc at h
  split at h
  · assumption
  · cases h
theorem argc_f {n : Nat} {g : List D → Option D} {ds : List D} {d : D} (h : argc n g ds = some d) : g ds = some d := by
  unfold argc at h
  split at h
  · exact h
  · cases h
theorem se_call {g : List D → Option D} (F : FnOk X.prog X.w X.K X.mg X.base CX0 k f fd ps (spP X.K n g)) (hr : Room k X.A) (hm : X.mg x = some (.ref f)) (hk : PySem.W.keepIn X.K (.ref f) = true) (hb : Binds X.K fd ps [])
    (ha : SA X (e :: es) fa) (hg : Gl X x := by rfl) (hdb : (x == ("__debug__" : Str)) = false := by decide) (he : starEach (e :: es) X.env = (false, eval e X.env) :: starEach es X.env := by rfl) (hpl : (backTo pos (starEach es X.env)).any (·.1) = false := by rfl) :
    SE X (.Call (.Name x p) (e :: es) [] pos) (eCall (argc n g) fa) := by
  have F' : FnOk X.prog X.w X.K X.mg X.base CX0 k f fd ps (spP X.K n (argc n g)) := F.imp fun vs H Q E ⟨O, ds, d, h1, h2, h3, h4, h5⟩ => ⟨O, ds, d, h1, h2, h3, argc_f h4, h5⟩
  exact ⟨PE.imp (pe_call F' hr hg hm hk hb (.nil) (E := E0) pass0 ha.pe hdb he hpl) fun σ H Q h => tCall_of argc_len h⟩
def eCallT (i : Nat) (n : Nat) (g : List D → Tp → Option (D × Tp)) (fa : FA) : FE := fun ρ T => match ρ[i]? with
  | some .tp => match fa ρ T with
    | none => none
    | some (ds, T1) => if ds.length = n then g ds T1 else none
  | _ => none
theorem se_callT {g : List D → Tp → Option (D × Tp)} {y : Str} {py : Pos} (i : Nat) (F : FnOk X.prog X.w X.K X.mg X.base CX0 k f fd ps (spT X.K n g)) (hr : Room k X.A) (hm : X.mg x = some (.ref f)) (hk : PySem.W.keepIn X.K (.ref f) = true) (hb : Binds X.K fd ps [])
    (ha : SA X es fa) (hN : X.N[i]? = some y := by rfl) (hv : Vis X.env.scope y := by first | exact Or.inl rfl | exact Or.inr (Or.inl rfl) | exact Or.inr (Or.inr rfl)) (hg : Gl X x := by rfl) (hdb : (x == ("__debug__" : Str)) = false := by decide) (hd : (y == ("__debug__" : Str)) = false := by decide)
    (hcd : (y == ("__classdict__" : Str)) = false := by decide) (he : starEach (.Name y py :: es) X.env = (false, eval (.Name y py) X.env) :: starEach es X.env := by rfl) (hpl : (backTo pos (starEach es X.env)).any (·.1) = false := by rfl) :
    SE X (.Call (.Name x p) (.Name y py :: es) [] pos) (eCallT i n g fa) := ⟨PE.imp (pe_call F hr hg hm hk hb .nil (E := E0) pass0 (pa_cons (pe_var hN hv hd hcd) ha.pe he) hdb he hpl) fun σ H Q ⟨G, B, O, τ, ρ, T, d, T', E, hf, q⟩ => by
  unfold eCallT at hf
  split at hf
  · rename_i hi
    split at hf
    · cases hf
    rename_i ds T1 h1
    split at hf
    · rename_i hl
      obtain ⟨a, rfl, hσ⟩ := E.tp i hi
      refine ⟨_, hσ, G, B, O, some a, ρ, T, ds, T1, E, h1, fun vs H1 x1 t1 r1 => ?_⟩
      show spT X.K n g ((.ref a :: vs) ++ []) H1 Q _
      rw [List.append_nil]
      exact ⟨a, vs, O, T1, ds, d, T', rfl, (E.step x1 t1).dom, t1, r1, hl, hf, fun v H' x2 t2 rv => q v H' (x1.tr x2) t2 rv⟩
    · cases hf
  · cases hf⟩
end

/-! ### calls of built-in functions, methods of built-in types, by values -/
def OpN (K : PySem.W.Frag) (r : List V → Hp → VK → Prop) (g : List D → Option D) : Prop := ∀ (O : OS) (H : Hp) (xs : List V) (ds : List D) (d : D) (Q : VK), (∀ a, O a → H a ≠ none) → RepBL K O H xs ds → g ds = some d →
  (∀ v H', Gr H H' → Rep K O H' v d → Q v H') → r xs H Q
def OpNN (K : PySem.W.Frag) (r : List V → Hp → VK → Prop) (g : List D → Option D) : Prop := ∀ (O : OS) (H : Hp) (xs : List V) (ds : List D) (d : D) (Q : VK), (∀ a, O a → H a ≠ none) → RepBL K O H xs ds → g ds = some d →
  (∀ p o, H p = none → Top K (addO O p) (upd H p o) p d → Q (.ref p) (upd H p o)) → r xs H Q
section
variable {X : Cx} {e o : Expr} {es : List Expr} {fa : FA} {fe : FE} {x name : Str} {p pos cpos apos : Pos} {id T : String} {r : List V → Hp → VK → Prop} {g : List D → Option D}
theorem RepBL.step {K : PySem.W.Frag} {O : OS} {H H' : Hp} (x : Gr H H') : ∀ {ds : List D} {vs : List V}, RepBL K O H vs ds → RepBL K O H' vs ds
  | [], _, .nil => .nil
  | _ :: _, _, .cons r q => .cons (r.imp (fun r => r.go x (fun _ z _ => z.elim) fun _ z => .inl z) fun ⟨p, e, t⟩ => ⟨p, e, t.go x (fun _ z _ => z.elim) (fun _ z => .inl z) id⟩) (RepBL.step x q)
inductive RepBTL (K : PySem.W.Frag) (O : OS) (τ : Option Addr) (H : Hp) : List V → List D → Prop
  | nil : RepBTL K O τ H [] []
  | cons {v : V} {vs : List V} {d : D} {ds : List D} : RepBT K O τ H v d → RepBTL K O τ H vs ds → RepBTL K O τ H (v :: vs) (d :: ds)
theorem sab_nil : SAB X [] aNil := ⟨PA.imp pa_nil fun σ H Q ⟨G, B, O, τ, ρ, T, ds, T', E, hf, q⟩ => by
  cases hf
  exact q [] H (Xt.refl H) E.tok .nil⟩
theorem sab_cons {ga : FA} (he : SB X e fe) (hr : SAB X es ga) (hs : starEach (e :: es) X.env = (false, eval e X.env) :: starEach es X.env := by rfl) : SAB X (e :: es) (aCons fe ga) := ⟨PA.imp (pa_cons he.pe hr.pe hs) fun σ H Q ⟨G, B, O, τ, ρ, T, ds, T', E, hf, q⟩ => by
  unfold aCons at hf
  split at hf
  · cases hf
  rename_i d T1 h1
  split at hf
  · cases hf
  rename_i ds T2 h2
  cases hf
  refine ⟨G, B, O, τ, ρ, T, d, T1, E, h1, fun v H1 x1 t1 r1 => ⟨G, B, O, τ, ρ, T1, ds, T', E.step x1 t1, h2, fun vs H2 x2 t2 r2 => ?_⟩⟩
  exact q _ H2 (x1.tr x2) t2 (.cons (r1.step (E.step x1 t1) x2).b r2)⟩
theorem tCB_of {K : PySem.W.Frag} (ho : OpN K r g) (σ : L2.St) (H : Hp) (Q : VK) (h : rdE K (eCall g fa) σ H Q) : tCB r (rdAB K fa) σ H Q := by
  obtain ⟨G, B, O, τ, ρ, T, d, T', E, hf, q⟩ := h
  unfold eCall at hf
  split at hf
  · cases hf
  rename_i ds T1 h1
  split at hf
  · cases hf
  rename_i d' h2
  cases hf
  exact ⟨G, B, O, τ, ρ, T, ds, T', E, h1, fun vs H1 x1 t1 r1 => ho O H1 vs ds d Q (E.step x1 t1).dom r1 h2 fun v H' g' rv => q v H' (x1.tr (g'.mono fun _ z => z.elim)) (t1.gr g') rv⟩
theorem new_back {K : PySem.W.Frag} {G : Hp} {B O : OS} {τ : Option Addr} {σ : L2.St} {H H1 : Hp} {ρ : Rho} {T T1 : Tp} (E : Sta K G B O τ σ H ρ T) (x : Xt (tS τ) H H1) (t : TpOk O τ H1 T1) {p : Addr} (hp : H1 p = none) : H p = none := by
  cases e : H p with
  | none => rfl
  | some u =>
    by_cases hs : tS τ p
    · exact absurd hp ((E.step x t).dom p (E.tO p hs))
    · have := x p u e (.inl hs)
      rw [hp] at this; cases this
theorem tCB_ofN {K : PySem.W.Frag} (ho : OpNN K r g) (σ : L2.St) (H : Hp) (Q : VK) (h : rdN K (eCall g fa) σ H Q) : tCB r (rdAB K fa) σ H Q := by
  obtain ⟨G, B, O, τ, ρ, T, d, T', E, hf, q⟩ := h
  unfold eCall at hf
  split at hf
  · cases hf
  rename_i ds T1 h1
  split at hf
  · cases hf
  rename_i d' h2
  cases hf
  exact ⟨G, B, O, τ, ρ, T, ds, T', E, h1, fun vs H1 x1 t1 r1 => ho O H1 vs ds d Q (E.step x1 t1).dom r1 h2 fun p o hp tt => q p _ (new_back E x1 t1 hp) (x1.tr ((Gr.new hp).mono fun _ z => z.elim)) (t1.more hp) tt⟩
theorem se_callB (hc : CallR X (.builtin id) r) (ho : OpN X.K r g) (hm : X.mg x = none) (ha : SAB X (e :: es) fa) (hv : bootBuiltins x = some (.builtin id) := by decide +kernel) (hg : Gl X x := by rfl) (hn : x ≠ "__name__" := by decide) (hdb : (x == ("__debug__" : Str)) = false := by decide)
    (he : starEach (e :: es) X.env = (false, eval e X.env) :: starEach es X.env := by rfl) (hpl : (backTo pos (starEach es X.env)).any (·.1) = false := by rfl) : SE X (.Call (.Name x p) (e :: es) [] pos) (eCall g fa) :=
  ⟨PE.imp (pe_callB hc hg hm hv ha.pe hn hdb he hpl) (tCB_of ho)⟩
theorem sn_callB (hc : CallR X (.builtin id) r) (ho : OpNN X.K r g) (hm : X.mg x = none) (ha : SAB X (e :: es) fa) (hv : bootBuiltins x = some (.builtin id) := by decide +kernel) (hg : Gl X x := by rfl) (hn : x ≠ "__name__" := by decide) (hdb : (x == ("__debug__" : Str)) = false := by decide)
    (he : starEach (e :: es) X.env = (false, eval e X.env) :: starEach es X.env := by rfl) (hpl : (backTo pos (starEach es X.env)).any (·.1) = false := by rfl) : SN X (.Call (.Name x p) (e :: es) [] pos) (eCall g fa) :=
  ⟨PE.imp (pe_callB hc hg hm hv ha.pe hn hdb he hpl) (tCB_ofN ho)⟩
theorem se_callTy (hc : CallR X (.type T) r) (ho : OpN X.K r g) (hm : X.mg x = none) (ha : SAB X (e :: es) fa) (hv : bootBuiltins x = some (.type T) := by decide +kernel) (hg : Gl X x := by rfl) (hn : x ≠ "__name__" := by decide) (hdb : (x == ("__debug__" : Str)) = false := by decide)
    (he : starEach (e :: es) X.env = (false, eval e X.env) :: starEach es X.env := by rfl) (hpl : (backTo pos (starEach es X.env)).any (·.1) = false := by rfl) : SE X (.Call (.Name x p) (e :: es) [] pos) (eCall g fa) :=
  ⟨PE.imp (pe_callTy hc hg hm hv ha.pe hn hdb he hpl) (tCB_of ho)⟩
theorem sn_callTy (hc : CallR X (.type T) r) (ho : OpNN X.K r g) (hm : X.mg x = none) (ha : SAB X (e :: es) fa) (hv : bootBuiltins x = some (.type T) := by decide +kernel) (hg : Gl X x := by rfl) (hn : x ≠ "__name__" := by decide) (hdb : (x == ("__debug__" : Str)) = false := by decide)
    (he : starEach (e :: es) X.env = (false, eval e X.env) :: starEach es X.env := by rfl) (hpl : (backTo pos (starEach es X.env)).any (·.1) = false := by rfl) : SN X (.Call (.Name x p) (e :: es) [] pos) (eCall g fa) :=
  ⟨PE.imp (pe_callTy hc hg hm hv ha.pe hn hdb he hpl) (tCB_ofN ho)⟩
end
end Dv

/-! Dv8: operations on values. -/
namespace Dv
open PySem PySem.Spec PyProof.Rows L2

section
variable {K : PySem.W.Frag} {O : OS} {H : Hp} {v : V}
theorem rb_int {i : Int} (h : RepB K O H v (.int i)) : v = .int i := by
  rcases h with h | ⟨p, _, h⟩
  · cases h; rfl
  · cases h
theorem rb_str {x : Str} (h : RepB K O H v (.str x)) : v = .str x := by
  rcases h with h | ⟨p, _, h⟩
  · cases h; rfl
  · cases h
theorem rb_bl {b : Bool} (h : RepB K O H v (.bool b)) : v = .bl b := by
  rcases h with h | ⟨p, _, h⟩
  · cases h; rfl
  · cases h
theorem rb_non (h : RepB K O H v .none) : v = .non := by
  rcases h with h | ⟨p, _, h⟩
  · cases h; rfl
  · cases h
theorem rb_list {ds : List D} (h : RepB K O H v (.list ds)) : ∃ p xs, v = .ref p ∧ H p = some (.lst xs) ∧ RepL K O H xs ds := by
  rcases h with h | ⟨p, e, h⟩
  · cases h with | lst n e r => exact ⟨_, _, rfl, e, r⟩
  · cases h with | lst e' r => exact ⟨_, _, e, e', r⟩
theorem rb_tup {ds : List D} (h : RepB K O H v (.tuple ds)) : ∃ p xs, v = .ref p ∧ Rd H p (.tup xs) ∧ RepL K O H xs ds := by
  rcases h with h | ⟨p, e, h⟩
  · cases h with | tup e c r => exact ⟨_, _, rfl, c.rd e, r⟩
  · cases h
theorem rb_tupC {ds : List D} (h : RepB K O H v (.tuple ds)) : ∃ p u xs, v = .ref p ∧ H p = some u ∧ TupC (pinned ds) xs u ∧ RepL K O H xs ds := by
  rcases h with h | ⟨p, e, h⟩
  · cases h with | tup e c r => exact ⟨_, _, _, rfl, e, c, r⟩
  · cases h
theorem rb_tupR {ds : List D} (h : RepB K O H v (.tuple ds)) : Rep K O H v (.tuple ds) := by
  rcases h with h | ⟨p, e, h⟩
  · exact h
  · cases h
theorem rb_dict {es : List (D × D)} (hk : isK es = false) (h : RepB K O H v (.dict es)) : ∃ p, v = .ref p ∧ ((∃ kvs, Rd H p (.dK kvs) ∧ RepK K O H kvs es) ∨ ∃ kvs, Rd H p (.dT kvs) ∧ RepT K O H kvs es) := by
  rcases h with h | ⟨p, e, h⟩
  · cases h with
    | dK e r => exact ⟨_, rfl, .inl ⟨_, .inr ⟨_, e⟩, r⟩⟩
    | dT e r => exact ⟨_, rfl, .inr ⟨_, .inr ⟨_, e⟩, r⟩⟩
    | ktp e r => cases r; cases hk
  · cases h with
    | dK e' r => exact ⟨_, e, .inl ⟨_, .inl e', r⟩⟩
    | dT e' r => exact ⟨_, e, .inr ⟨_, .inl e', r⟩⟩
theorem RepK.length : ∀ {es : List (D × D)} {kvs : List (Key × V)}, RepK K O H kvs es → kvs.length = es.length
  | [], _, .nil => rfl
  | _ :: _, _, .cons _ q => by rw [List.length_cons, List.length_cons, RepK.length q]
theorem RepT.length : ∀ {es : List (D × D)} {kvs : List (List Key × V)}, RepT K O H kvs es → kvs.length = es.length
  | [], _, .nil => rfl
  | _ :: _, _, .cons _ _ q => by rw [List.length_cons, List.length_cons, RepT.length q]
/-- the data underneath -/
theorem rl_nil {ds : List D} (h : RepL K O H [] ds) : ds = [] := by cases h; rfl
def intsD : List D → Option (List Int)
  | [] => some []
  | .int i :: r => match intsD r with
    | none => none
    | some s => some (i :: s)
  | _ :: _ => none
def boolsD : List D → Option (List Bool)
  | [] => some []
  | .bool i :: r => match boolsD r with
    | none => none
    | some s => some (i :: s)
  | _ :: _ => none
def strsD : List D → Option (List Str)
  | [] => some []
  | .str i :: r => match strsD r with
    | none => none
    | some s => some (i :: s)
  | _ :: _ => none
theorem rl_ints : ∀ {ds : List D} {xs : List V} {ns : List Int}, RepL K O H xs ds → intsD ds = some ns → xs = ns.map V.int
  | [], _, _, .nil, e => by cases e; rfl
  | d :: ds, _, ns, .cons r q, e => by
    cases d <;> try (cases e)
    rename_i i
    cases e2 : intsD ds with
    | none => rw [intsD, e2] at e; cases e
    | some s =>
      rw [intsD, e2] at e; cases e
      cases r
      rw [rl_ints q e2]; rfl
theorem rl_bools : ∀ {ds : List D} {xs : List V} {ns : List Bool}, RepL K O H xs ds → boolsD ds = some ns → xs = ns.map V.bl
  | [], _, _, .nil, e => by cases e; rfl
  | d :: ds, _, ns, .cons r q, e => by
    cases d <;> try (cases e)
    rename_i i
    cases e2 : boolsD ds with
    | none => rw [boolsD, e2] at e; cases e
    | some s =>
      rw [boolsD, e2] at e; cases e
      cases r
      rw [rl_bools q e2]; rfl
theorem rl_strs : ∀ {ds : List D} {xs : List V} {ns : List Str}, RepL K O H xs ds → strsD ds = some ns → xs = ns.map V.str
  | [], _, _, .nil, e => by cases e; rfl
  | d :: ds, _, ns, .cons r q, e => by
    cases d <;> try (cases e)
    rename_i i
    cases e2 : strsD ds with
    | none => rw [strsD, e2] at e; cases e
    | some s =>
      rw [strsD, e2] at e; cases e
      cases r
      rw [rl_strs q e2]; rfl
theorem rl_ofInts : ∀ ns : List Int, RepL K O H (ns.map V.int) (ns.map .int)
  | [] => .nil
  | n :: r => .cons (.int n) (rl_ofInts r)
theorem rl_ofStrs : ∀ ns : List Str, RepL K O H (ns.map V.str) (ns.map .str)
  | [] => .nil
  | n :: r => .cons (.str n) (rl_ofStrs r)
theorem rl_append : ∀ {ds es : List D} {xs ys : List V}, RepL K O H xs ds → RepL K O H ys es → RepL K O H (xs ++ ys) (ds ++ es)
  | [], _, _, _, .nil, s => s
  | _ :: _, _, _, _, .cons r t, s => .cons r (rl_append t s)
theorem rl_drop : ∀ {ds : List D} {xs : List V} (n : Nat), RepL K O H xs ds → RepL K O H (xs.drop n) (ds.drop n)
  | _, _, 0, r => r
  | [], _, _ + 1, .nil => .nil
  | _ :: _, _, n + 1, .cons _ t => rl_drop n t
theorem rl_take : ∀ {ds : List D} {xs : List V} (n : Nat), RepL K O H xs ds → RepL K O H (xs.take n) (ds.take n)
  | _, _, 0, _ => .nil
  | [], _, _ + 1, .nil => .nil
  | _ :: _, _, n + 1, .cons r t => .cons r (rl_take n t)
theorem rl_rev : ∀ {ds : List D} {xs : List V}, RepL K O H xs ds → RepL K O H xs.reverse ds.reverse
  | [], _, .nil => .nil
  | _ :: _, _, .cons r t => by
    rw [List.reverse_cons, List.reverse_cons]
    exact rl_append (rl_rev t) (.cons r .nil)
end

/-! ### intsD -/
def big64 : Nat := 18446744073709551616
theorem big64_eq : big64 = 2 ^ 64 := by decide
def i2 (g : Int → Int → Option D) : D → D → Option D
  | .int i, .int j => g i j
  | _, _ => none
theorem o2_i0 {K : PySem.W.Frag} {g : Int → Int → V} {gd : Int → Int → D} (h : ∀ O H i j, Rep K O H (g i j) (gd i j)) : Op2 K (rI0 g) (i2 fun i j => some (gd i j)) := by
  intro O H x y dx dy d Q _ rx ry hg q
  unfold i2 at hg
  split at hg
  · cases hg
    exact ⟨_, _, rb_int rx, rb_int ry, q _ H (Xt.refl H) (h O H _ _)⟩
  · cases hg
theorem o2_i {K : PySem.W.Frag} {C : Int → Int → Prop} {g : Int → Int → V} {gd : Int → Int → Option D} (h : ∀ O H i j d, gd i j = some d → C i j ∧ Rep K O H (g i j) d) : Op2 K (rI C g) (i2 gd) := by
  intro O H x y dx dy d Q _ rx ry hg q
  unfold i2 at hg
  split at hg
  · obtain ⟨c, r⟩ := h O H _ _ d hg
    exact ⟨_, _, rb_int rx, rb_int ry, c, q _ H (Xt.refl H) r⟩
  · cases hg
def qMulI (i j : Int) : Option D := if i.natAbs.blt big64 || j.natAbs.blt big64 then some (.int (i * j)) else none
theorem o2_mul {K : PySem.W.Frag} : Op2 K (rI CMul fun i j => .int (i * j)) (i2 qMulI) := o2_i fun O H i j d e => by
  unfold qMulI at e
  split at e
  · rename_i c
    cases e
    refine ⟨?_, .int _⟩
    rw [Bool.or_eq_true, Nat.blt_eq, Nat.blt_eq, big64_eq] at c
    unfold CMul
    omega
  · cases e
def qDivI (i j : Int) : Option D := if decide (0 < j) && decide (j < 1073741824) then some (.int (i / j)) else none
theorem o2_div {K : PySem.W.Frag} : Op2 K (rI CDiv fun i j => .int (i / j)) (i2 qDivI) := o2_i fun O H i j d e => by
  unfold qDivI at e
  split at e
  · rename_i c
    cases e
    rw [Bool.and_eq_true, decide_eq_true_eq, decide_eq_true_eq] at c
    exact ⟨c, .int _⟩
  · cases e
def qModI (i j : Int) : Option D := if 0 < j then some (.int (i % j)) else none
theorem o2_mod {K : PySem.W.Frag} : Op2 K (rI (fun _ j => 0 < j) fun i j => .int (i % j)) (i2 qModI) := o2_i fun O H i j d e => by
  unfold qModI at e
  split at e
  · rename_i c
    cases e
    exact ⟨c, .int _⟩
  · cases e
section
variable {X : Cx} {a b : Expr} {fa fb : FE} {pos : Pos}
def qSub : D → D → Option D := i2 fun i j => some (.int (i - j))
theorem se_sub (ha : SB X a fa) (hb : SB X b fb) : SE X (.BinOp a .Sub b pos) (e2 qSub fa fb) := se_op op_sub (o2_i0 fun _ _ _ _ => .int _) ha hb
def qDiv : D → D → Option D := i2 qDivI
theorem se_div (ha : SB X a fa) (hb : SB X b fb) : SE X (.BinOp a .FloorDiv b pos) (e2 qDiv fa fb) := se_op op_fdiv o2_div ha hb
def qMod : D → D → Option D := i2 qModI
theorem se_mod (ha : SB X a fa) (hb : SB X b fb) : SE X (.BinOp a .Mod b pos) (e2 qMod fa fb) := se_op op_mod o2_mod ha hb
def qLt : D → D → Option D := i2 fun i j => some (.bool (decide (i < j)))
theorem se_lt (ha : SB X a fa) (hb : SB X b fb) : SE X (.Compare a [.Lt] [b] pos) (e2 qLt fa fb) := se_cmp op_lt (o2_i0 fun _ _ _ _ => .bl _) ha hb
def qLe : D → D → Option D := i2 fun i j => some (.bool (decide (i ≤ j)))
theorem se_le (ha : SB X a fa) (hb : SB X b fb) : SE X (.Compare a [.LtE] [b] pos) (e2 qLe fa fb) := se_cmp op_le (o2_i0 fun _ _ _ _ => .bl _) ha hb
def qGt : D → D → Option D := i2 fun i j => some (.bool (decide (j < i)))
theorem se_gt (ha : SB X a fa) (hb : SB X b fb) : SE X (.Compare a [.Gt] [b] pos) (e2 qGt fa fb) := se_cmp op_gt (o2_i0 fun _ _ _ _ => .bl _) ha hb
def qGe : D → D → Option D := i2 fun i j => some (.bool (decide (j ≤ i)))
theorem se_ge (ha : SB X a fa) (hb : SB X b fb) : SE X (.Compare a [.GtE] [b] pos) (e2 qGe fa fb) := se_cmp op_ge (o2_i0 fun _ _ _ _ => .bl _) ha hb

/-! ### one operand -/
def e1 (g : D → Option D) (fa : FE) : FE := fun ρ T => match fa ρ T with
  | none => none
  | some (x, T1) => match g x with
    | none => none
    | some z => some (z, T1)
def Op1 (K : PySem.W.Frag) (r : V → Hp → VK → Prop) (g : D → Option D) : Prop := ∀ (O : OS) (H : Hp) (x : V) (dx d : D) (Q : VK), (∀ a, O a → H a ≠ none) → RepB K O H x dx → g dx = some d →
  (∀ v H', Gr H H' → Rep K O H' v d → Q v H') → r x H Q
def Op1N (K : PySem.W.Frag) (r : V → Hp → VK → Prop) (g : D → Option D) : Prop := ∀ (O : OS) (H : Hp) (x : V) (dx d : D) (Q : VK), (∀ a, O a → H a ≠ none) → RepB K O H x dx → g dx = some d →
  (∀ p o, H p = none → Top K (addO O p) (upd H p o) p d → Q (.ref p) (upd H p o)) → r x H Q
theorem e1_some {g : D → Option D} {ρ : Rho} {T T' : Tp} {d : D} (h : e1 g fa ρ T = some (d, T')) : ∃ dx, fa ρ T = some (dx, T') ∧ g dx = some d := by
  unfold e1 at h
  split at h
  · cases h
  rename_i dx T1 h1
  split at h
  · cases h
  rename_i z h3
  cases h
  exact ⟨dx, h1, h3⟩
theorem tUn_of {K : PySem.W.Frag} {r : V → Hp → VK → Prop} {g : D → Option D} (ho : Op1 K r g) (σ : L2.St) (H : Hp) (Q : VK) (h : rdE K (e1 g fa) σ H Q) : tUn r (rdB K fa) σ H Q := by
  obtain ⟨G, B, O, τ, ρ, T, d, T', E, hf, q⟩ := h
  obtain ⟨dx, h1, h3⟩ := e1_some hf
  exact ⟨G, B, O, τ, ρ, T, dx, T', E, h1, fun x H1 x1 t1 r1 => ho O H1 x dx d Q (E.step x1 t1).dom r1.b h3 fun v H' x3 r3 => q v H' (x1.tr (x3.mono fun _ z => z.elim)) (t1.gr x3) r3⟩
theorem tUn_ofN {K : PySem.W.Frag} {r : V → Hp → VK → Prop} {g : D → Option D} (ho : Op1N K r g) (σ : L2.St) (H : Hp) (Q : VK) (h : rdN K (e1 g fa) σ H Q) : tUn r (rdB K fa) σ H Q := by
  obtain ⟨G, B, O, τ, ρ, T, d, T', E, hf, q⟩ := h
  obtain ⟨dx, h1, h3⟩ := e1_some hf
  exact ⟨G, B, O, τ, ρ, T, dx, T', E, h1, fun x H1 x1 t1 r1 => ho O H1 x dx d Q (E.step x1 t1).dom r1.b h3 fun p o hp tt => q p _ (new_back E x1 t1 hp) (x1.tr ((Gr.new hp).mono fun _ z => z.elim)) (t1.more hp) tt⟩
def qNeg : D → Option D
  | .int i => some (.int (-i))
  | _ => none
theorem se_neg (ha : SB X a fa) : SE X (.UnaryOp .USub a pos) (e1 qNeg fa) := ⟨PE.imp (pe_un un_neg ha.pe) (tUn_of fun O H x dx d Q _ rx hg q => by
  unfold qNeg at hg
  split at hg
  · cases hg
    exact ⟨_, rb_int rx, q _ H (Xt.refl H) (.int _)⟩
  · cases hg)⟩

/-! ### == -/
mutual
/-- no dicts within, and not too deep -/
def eqOk : Nat → D → Bool
  | _, .none => true
  | _, .bool _ => true
  | _, .int _ => true
  | _, .str x => PyData.strOk x
  | 0, .list _ => false
  | n + 1, .list ds => eqOkL n ds
  | 0, .tuple _ => false
  | n + 1, .tuple ds => eqOkL n ds
  | _, .dict _ => false
def eqOkL : Nat → List D → Bool
  | _, [] => true
  | n, d :: ds => eqOk n d && eqOkL n ds
end
mutual
theorem eqOk_lay : ∀ (n : Nat) (d : D), eqOk n d = true → PyData.canLay0 d = true ∧ PyData.depth d ≤ n
  | _, .none, _ => ⟨by simp only [PyData.canLay0], by simp only [PyData.depth]; omega⟩
  | _, .bool _, _ => ⟨by simp only [PyData.canLay0], by simp only [PyData.depth]; omega⟩
  | _, .int _, _ => ⟨by simp only [PyData.canLay0], by simp only [PyData.depth]; omega⟩
  | _, .str x, h => ⟨by simp only [PyData.canLay0]; simpa only [eqOk] using h, by simp only [PyData.depth]; omega⟩
  | 0, .list _, h => by simp only [eqOk] at h; cases h
  | n + 1, .list ds, h => by
    have h' := eqOkL_lay n ds (by simpa only [eqOk] using h)
    exact ⟨by simp only [PyData.canLay0]; exact h'.1, by simp only [PyData.depth]; omega⟩
  | 0, .tuple _, h => by simp only [eqOk] at h; cases h
  | n + 1, .tuple ds, h => by
    have h' := eqOkL_lay n ds (by simpa only [eqOk] using h)
    exact ⟨by simp only [PyData.canLay0]; exact h'.1, by simp only [PyData.depth]; omega⟩
  | _, .dict _, h => by simp only [eqOk] at h; cases h
theorem eqOkL_lay : ∀ (n : Nat) (ds : List D), eqOkL n ds = true → PyData.canLayAll0 ds = true ∧ PyData.depthAll ds ≤ n
  | _, [], _ => ⟨by simp only [PyData.canLayAll0], by simp only [PyData.depthAll]; omega⟩
  | n, d :: ds, h => by
    rw [eqOkL, Bool.and_eq_true] at h
    have h1 := eqOk_lay n d h.1
    have h2 := eqOkL_lay n ds h.2
    exact ⟨by simp only [PyData.canLayAll0, h1.1, h2.1, Bool.and_self], by simp only [PyData.depthAll]; omega⟩
end
theorem eqOk_shaped {d : D} (h : eqOk 8 d = true) : SeqAt.shaped d = true := by
  obtain ⟨a, b⟩ := eqOk_lay 8 d h
  unfold SeqAt.shaped
  rw [a, Bool.true_and, decide_eq_true_eq]
  omega
mutual
theorem Rep.dp {K : PySem.W.Frag} {O : OS} {H : Hp} : ∀ {n : Nat} {d : D} {v : V}, Rep K O H v d → eqOk n d = true → Dp K H v d
  | _, .none, _, .non, _ => .non
  | _, .bool _, _, .bl b, _ => .bl b
  | _, .int _, _, .int i, _ => .int i
  | _, .str _, _, .str x, _ => .str x
  | n, .list ds, _, .lst _ e r, h => by
    cases n with
    | zero => simp only [eqOk] at h; cases h
    | succ n => exact .lst (.of e) (RepL.dp r (by simpa only [eqOk] using h))
  | n, .tuple ds, _, .tup e c r, h => by
    cases n with
    | zero => simp only [eqOk] at h; cases h
    | succ n => exact .tup (.inl (c.rd e)) (RepL.dp r (by simpa only [eqOk] using h))
  | _, .dict _, _, .ktp _ _, h => by simp only [eqOk] at h; cases h
  | _, .dict _, _, .dK _ _, h => by simp only [eqOk] at h; cases h
  | _, .dict _, _, .dT _ _, h => by simp only [eqOk] at h; cases h
theorem RepL.dp {K : PySem.W.Frag} {O : OS} {H : Hp} : ∀ {n : Nat} {ds : List D} {vs : List V}, RepL K O H vs ds → eqOkL n ds = true → DpAll K H vs ds
  | _, [], _, .nil, _ => .nil
  | n, _ :: _, _, .cons r q, h => by
    rw [eqOkL, Bool.and_eq_true] at h
    exact .cons (Rep.dp r h.1) (RepL.dp q h.2)
end
theorem RepB.dp {K : PySem.W.Frag} {O : OS} {H : Hp} {n : Nat} {d : D} {v : V} (r : RepB K O H v d) (h : eqOk n d = true) : Dp K H v d := by
  rcases r with r | ⟨p, rfl, r⟩
  · exact r.dp h
  · cases r with
    | lst e r =>
      cases n with
      | zero => simp only [eqOk] at h; cases h
      | succ n => exact .lst (.of e) (RepL.dp r (by simpa only [eqOk] using h))
    | dK e r => simp only [eqOk] at h; cases h
    | dT e r => simp only [eqOk] at h; cases h
def qEq (x y : D) : Option D := match x, y with
  | .int i, .int j => some (.bool (i == j))
  | .str i, .str j => some (.bool (i.cps.toList == j.cps.toList))
  | x, y => if eqOk 8 x && eqOk 8 y then some (.bool (PyData.eqv x y)) else none
def qNe (x y : D) : Option D := match x, y with
  | .int i, .int j => some (.bool (!(i == j)))
  | .str i, .str j => some (.bool (!(i.cps.toList == j.cps.toList)))
  | x, y => if eqOk 8 x && eqOk 8 y then some (.bool (!PyData.eqv x y)) else none
theorem str_beq (x y : Str) : (x == y) = (x.cps.toList == y.cps.toList) := by
  rw [Bool.eq_iff_iff, beq_iff_eq, beq_iff_eq]
  constructor
  · intro e; rw [e]
  · intro e
    cases x with
    | mk a => cases y with
      | mk b => cases a; cases b; simp at e; rw [e]
theorem o2_eq {K : PySem.W.Frag} : Op2 K (fun x y H Q => rEq x y H Q ∨ rEqD K x y H Q) qEq := by
  intro O H x y dx dy d Q _ rx ry hg q
  unfold qEq at hg
  split at hg
  · cases hg
    rw [rb_int rx, rb_int ry]
    exact .inl ⟨rfl, by rw [dec_int]; exact q _ H (Xt.refl H) (.bl _)⟩
  · cases hg
    rw [rb_str rx, rb_str ry]
    exact .inl ⟨rfl, by rw [dec_str, str_beq]; exact q _ H (Xt.refl H) (.bl _)⟩
  · split at hg
    · rename_i c
      cases hg
      rw [Bool.and_eq_true] at c
      exact .inr ⟨_, _, rx.dp c.1, ry.dp c.2, eqOk_shaped c.1, eqOk_shaped c.2, q _ H (Xt.refl H) (.bl _)⟩
    · cases hg
theorem o2_ne {K : PySem.W.Frag} : Op2 K (fun x y H Q => rNe x y H Q ∨ rNeD K x y H Q) qNe := by
  intro O H x y dx dy d Q _ rx ry hg q
  unfold qNe at hg
  split at hg
  · cases hg
    rw [rb_int rx, rb_int ry]
    exact .inl ⟨rfl, by rw [dec_int]; exact q _ H (Xt.refl H) (.bl _)⟩
  · cases hg
    rw [rb_str rx, rb_str ry]
    exact .inl ⟨rfl, by rw [dec_str, str_beq]; exact q _ H (Xt.refl H) (.bl _)⟩
  · split at hg
    · rename_i c
      cases hg
      rw [Bool.and_eq_true] at c
      exact .inr ⟨_, _, rx.dp c.1, ry.dp c.2, eqOk_shaped c.1, eqOk_shaped c.2, q _ H (Xt.refl H) (.bl _)⟩
    · cases hg
theorem se_eq {k : Nat} (hr : Room k X.A) (ha : SB X a fa) (hb : SB X b fb) : SE X (.Compare a [.Eq] [b] pos) (e2 qEq fa fb) := se_cmp (op_eq.or (op_eqD (by have := hr.units; omega))) o2_eq ha hb
theorem se_ne {k : Nat} (hr : Room k X.A) (ha : SB X a fa) (hb : SB X b fb) : SE X (.Compare a [.NotEq] [b] pos) (e2 qNe fa fb) := se_cmp (op_ne.or (op_neD (by have := hr.units; omega))) o2_ne ha hb
/-- x is None, x is not None, x is True .. -/
def isNonD : D → Bool
  | .none => true
  | _ => false
def qIs (x y : D) : Option D := match y with
  | .none => some (.bool (isNonD x))
  | .bool b => match x with
    | .bool a => some (.bool (decide (a = b)))
    | _ => none
  | _ => none
def qNot : Option D → Option D
  | some (.bool b) => some (.bool (!b))
  | _ => none
theorem rb_isnon {K : PySem.W.Frag} {O : OS} {H : Hp} {v : V} {d : D} (r : RepB K O H v d) : decide (v = .non) = isNonD d := by
  rcases r with r | ⟨p, rfl, r⟩
  · cases r <;> rfl
  · cases r <;> rfl
theorem o2_is {K : PySem.W.Frag} : Op2 K (fun x y H Q => (y = .non ∧ Q (.bl (decide (x = .non))) H) ∨ rIsB x y H Q) qIs := by
  intro O H x y dx dy d Q _ rx ry hg q
  unfold qIs at hg
  split at hg
  · cases hg
    refine .inl ⟨rb_non ry, ?_⟩
    rw [rb_isnon rx]
    exact q _ H (Xt.refl H) (.bl _)
  · split at hg
    · cases hg
      exact .inr ⟨_, _, rb_bl rx, rb_bl ry, q _ H (Xt.refl H) (.bl _)⟩
    · cases hg
  · cases hg
theorem o2_isnt {K : PySem.W.Frag} : Op2 K (fun x y H Q => (y = .non ∧ Q (.bl (!decide (x = .non))) H) ∨ rNotB x y H Q) (fun x y => qNot (qIs x y)) := by
  intro O H x y dx dy d Q _ rx ry hg q
  have hg : qNot (qIs dx dy) = some d := hg
  unfold qNot qIs at hg
  split at hg
  case h_2 => cases hg
  rename_i b e
  cases hg
  split at e
  · cases e
    refine .inl ⟨rb_non ry, ?_⟩
    rw [rb_isnon rx]
    exact q _ H (Xt.refl H) (.bl _)
  · split at e
    · cases e
      exact .inr ⟨_, _, rb_bl rx, rb_bl ry, q _ H (Xt.refl H) (.bl _)⟩
    · cases e
  · cases e
theorem se_is (ha : SB X a fa) (hb : SB X b fb) : SE X (.Compare a [.Is] [b] pos) (e2 qIs fa fb) := se_cmp (op_isN.or op_isBl) o2_is ha hb
theorem se_isnt (ha : SB X a fa) (hb : SB X b fb) : SE X (.Compare a [.IsNot] [b] pos) (e2 (fun x y => qNot (qIs x y)) fa fb) := se_cmp (op_notN.or op_notBl) o2_isnt ha hb
end

/-! ### new tuples: tracked, or their own object told -/
section
variable {X : Cx} {pins : List (Addr × Obj)} {σ : L2.St} {H : Hp} {s : Shared}
theorem laidT {a : Addr} {its : List Value} {xs : List V} {h' : Heap} {t' : Nat} (c : Bool) (I : Inv X pins σ H s) (k : ∀ b u, s.heap.get? b = some u → h'.get? b = some u) (hp : s.heap.objs.size ≤ a) (z : xs.length ≤ sizeLine) (rv : Vals xs its)
    (e : h'.get? a = some { cls := .type "tuple", data := .seq its.toArray }) : ∃ u, TupC c xs u ∧ Inv X pins σ (upd H a u) { s with heap := h', toks := t' } := by
  have tp : IsTup h' a its.toArray := ⟨_, e, rfl, _, rfl⟩
  cases c with
  | false => exact ⟨.tup xs, rfl, I.laid k hp ⟨z, its, rv, tp⟩⟩
  | true => exact ⟨.frz _ (.tup xs), ⟨_, rfl, rfl⟩, I.laid k hp ⟨e, z, its, rv, tp⟩⟩
variable {es : List Expr} {pos : Pos} {t : TA}
def tTupC (t : TA) : TE := fun σ H Q => t σ H fun xs H1 => ∃ b, xs.length ≤ sizeLine ∧ ∀ p u, H1 p = none → TupC b xs u → Q (.ref p) (upd H1 p u)
theorem pe_tupC {x1} (h : PA X es t) : PE X (.Tuple es x1 pos) (tTupC t) := by
  refine ⟨fun pins s σ H Q I hq => wpAny_Tuple_spliced (thn (h.run pos pins s σ H _ I hq) ?_)⟩
  rintro us s1 ⟨xs, H1, I1, r, b, z, q⟩
  refine ⟨by rw [← r.length]; exact z, ?_⟩
  obtain ⟨u, tc, I2⟩ := laidT b I1 (t' := s1.toks) (a := s1.heap.objs.size) (h' := s1.heap.push { cls := .type "tuple", data := .seq us.toArray }) (fun c v e => Heap.get?_push_of_some _ e) (Nat.le_refl _) z r (Heap.get?_push_size _ rfl)
  exact ⟨.ref _, _, I2, rfl, q _ u (I1.hok.fresh (Nat.le_refl _)) tc⟩
theorem call_tupleC : CallR X (.type "tuple") (fun xs H Q => ∃ p ys, xs = [.ref p] ∧ ((∃ c, SqL X.K H p ys ∧ ∀ l u, H l = none → TupC c ys u → Q (.ref l) (upd H l u)) ∨ (SqT X.K H p ys ∧ Q (.ref p) H))) := by
  intro pins s σ H xs us Q I r h
  obtain ⟨p, ys, rfl, ⟨c, hq, q⟩ | ⟨hq, q⟩⟩ := h
  · obtain ⟨v, rfl, rx⟩ := vals1 r
    cases rx
    obtain ⟨its, r', pl, hz⟩ := I.list hq
    have hlen := r'.length
    refine call_tuple_list pl.isList (fun h1 kp => ?_) (by rw [List.size_toArray]; omega)
    have I1 : Inv X pins σ H { s with heap := h1 } := I.kept (t' := s.toks) kp
    obtain ⟨u, tc, I2⟩ := laidT c I1 (t' := s.toks) (a := h1.objs.size) (h' := h1.push { cls := .type "tuple", data := .seq its.toArray }) (fun c v e => Heap.get?_push_of_some _ e) (Nat.le_refl _) hz r' (Heap.get?_push_size _ rfl)
    exact ⟨.ref _, _, I2, rfl, q _ u (I1.hok.fresh (Nat.le_refl _)) tc⟩
  · exact call_tuple_of pins s σ H _ us Q I r ⟨p, ys, rfl, .inr ⟨hq, q⟩⟩
/-- t[lo:hi] -/
def rSlC (K : PySem.W.Frag) : V → Option Int → Option Int → Hp → VK → Prop := fun x lo hi H Q => ∃ a xs c, x = .ref a ∧ SqT K H a xs ∧
  (HT.sIx xs.length 0 lo = 0 ∧ HT.sIx xs.length xs.length hi = xs.length → Q (.ref a) H) ∧ (¬ (HT.sIx xs.length 0 lo = 0 ∧ HT.sIx xs.length xs.length hi = xs.length) → ∀ p u, H p = none → TupC c (cutV xs lo hi) u → Q (.ref p) (upd H p u))
theorem sl_tupC : SlR X (rSlC X.K) := by
  intro pins s σ H x v vl vu lo hi sl Q I rx hs pl pu h
  obtain ⟨a, xs, c, rfl, hx, q1, q2⟩ := h
  by_cases hw : HT.sIx xs.length 0 lo = 0 ∧ HT.sIx xs.length xs.length hi = xs.length
  · exact sl_tupA pins s σ H _ v vl vu lo hi sl Q I rx hs pl pu ⟨a, xs, rfl, hx, fun _ => q1 hw, fun n => absurd hw n⟩
  · cases rx
    obtain ⟨its, r, ht, hz⟩ := I.tuple hx
    have hlen : its.toArray.size = xs.length := List.size_toArray.trans r.length.symm
    refine ⟨"tuple", _, PyProof.Rows.slot_tuple_getitem.lookup, ht.typeIs, HT.getItem_tuple_cut ht hs pl pu (by rw [hlen]; exact hw) ?_ (by rw [hlen]; exact hz)⟩
    rw [hlen]
    obtain ⟨u, tc, I2⟩ := laidT c I (t' := s.toks) (a := s.heap.objs.size) (h' := s.heap.push { cls := .type "tuple", data := .seq ((its.drop (HT.sIx xs.length 0 lo)).take (HT.sIx xs.length xs.length hi - HT.sIx xs.length 0 lo)).toArray }) (fun c v e => Heap.get?_push_of_some _ e) (Nat.le_refl _)
      (Nat.le_trans (cutV_length xs lo hi) hz) ((r.drop (HT.sIx xs.length 0 lo)).take _) (Heap.get?_push_size _ rfl)
    exact ⟨.ref _, _, I2, rfl, q2 hw _ u (I.hok.fresh (Nat.le_refl _)) tc⟩
/-- t + u -/
def rCatC (K : PySem.W.Frag) : R2 := fun x y H Q => ∃ a b xs ys c, x = .ref a ∧ y = .ref b ∧ SqT K H a xs ∧ SqT K H b ys ∧ xs.length + ys.length ≤ sizeLine ∧
  (xs = [] → Q (.ref b) H) ∧ (xs ≠ [] → ys = [] → Q (.ref a) H) ∧ (xs ≠ [] → ys ≠ [] → ∀ p u, H p = none → TupC c (xs ++ ys) u → Q (.ref p) (upd H p u))
theorem op_catC : OpR X (binaryOp .Add) (rCatC X.K) := by
  intro pins s σ H x y v w Q I rx ry h
  obtain ⟨a, b, xs, ys, c, rfl, rfl, ha, hb, hz, q0, q1, q2⟩ := h
  by_cases hx : xs = []
  · exact op_catA pins s σ H _ _ v w Q I rx ry ⟨a, b, xs, ys, rfl, rfl, ha, hb, hz, q0, q1, fun n => absurd hx n⟩
  · by_cases hy : ys = []
    · exact op_catA pins s σ H _ _ v w Q I rx ry ⟨a, b, xs, ys, rfl, rfl, ha, hb, hz, q0, q1, fun _ n => absurd hy n⟩
    · cases rx
      cases ry
      obtain ⟨is1, r1, p1, _⟩ := I.tuple ha
      obtain ⟨is2, r2, p2, _⟩ := I.tuple hb
      refine HT.cat_tup p1 p2 (fun z => hx (r1.nil_iff.mp z)) (fun z => absurd (r2.nil_iff.mp z) hy) (fun z => ?_) (by rw [← r1.length, ← r2.length]; exact hz)
      obtain ⟨u, tc, I2⟩ := laidT c I (t' := s.toks) (a := s.heap.objs.size) (h' := s.heap.push { cls := .type "tuple", data := .seq (is1 ++ is2).toArray }) (fun c v e => Heap.get?_push_of_some _ e) (Nat.le_refl _)
        (by rw [List.length_append]; exact hz) (r1.append r2) (Heap.get?_push_size _ rfl)
      exact ⟨.ref _, _, I2, rfl, q2 hx hy _ u (I.hok.fresh (Nat.le_refl _)) tc⟩
end
end Dv

/-! Dv9: texts, lists, tests, built-ins. -/
namespace Dv
open PySem PySem.Spec PyProof.Rows L2
def S (l : List Nat) : Str := ⟨l.toArray⟩
def cps (x : Str) : List Nat := x.cps.toList
theorem cps_S (l : List Nat) : cps (S l) = l := rfl
theorem S_cps (x : Str) : S (cps x) = x := by cases x; rfl
theorem len_S (l : List Nat) : (S l).length = l.length := by simp [S, Str.length]
theorem len_cps (x : Str) : x.length = (cps x).length := by simp [cps, Str.length]
theorem append_S (x y : Str) : x ++ y = S (cps x ++ cps y) := by
  cases x with
  | mk a => cases y with
    | mk b => cases a; cases b; show (⟨_ ++ _⟩ : Str) = _; simp [S, cps]
def line24 : Nat := 16777216
theorem line24_eq : sizeLine = line24 := sizeLine_eq
section
variable {X : Cx} {a b c e : Expr} {fa fb fc : FE} {pos : Pos}

/-! ### + and * -/
def qAdd (x y : D) : Option D := match x, y with
  | .int i, .int j => some (.int (i + j))
  | .str x, .str y => if (x.length + y.length).ble line24 then some (.str (S (cps x ++ cps y))) else none
  | .tuple xs, .tuple ys => if (xs.length + ys.length).ble line24 then some (.tuple (xs ++ ys)) else none
  | _, _ => none
theorem o2_add {K : PySem.W.Frag} : Op2 K (fun x y H Q => (rI0 (fun i j => .int (i + j)) x y H Q ∨ (∃ i j, x = .str i ∧ y = .str j ∧ i.length + j.length ≤ sizeLine ∧ Q (.str (i ++ j)) H)) ∨ rCatC K x y H Q) qAdd := by
  intro O H x y dx dy d Q _ rx ry hg q
  unfold qAdd at hg
  split at hg
  · cases hg
    exact .inl (.inl ⟨_, _, rb_int rx, rb_int ry, q _ H (Xt.refl H) (.int _)⟩)
  · split at hg
    · rename_i hl
      cases hg
      refine .inl (.inr ⟨_, _, rb_str rx, rb_str ry, by rw [line24_eq]; exact Nat.le_of_ble_eq_true hl, ?_⟩)
      rw [append_S]
      exact q _ H (Xt.refl H) (.str _)
    · cases hg
  · rename_i as bs
    split at hg
    · rename_i hl
      cases hg
      obtain ⟨p, xs, rfl, hp, rp⟩ := rb_tup rx
      obtain ⟨p', ys, rfl, hp', rp'⟩ := rb_tup ry
      have ex := rp.length
      have ey := rp'.length
      have g := rl_append rp rp'
      refine .inr ⟨p, p', xs, ys, pinned (as ++ bs), rfl, rfl, .inl hp, .inl hp', by rw [line24_eq, ex, ey]; exact Nat.le_of_ble_eq_true hl, fun e => ?_, fun _ e => ?_, fun _ _ t u ht tc => ?_⟩
      · subst e
        rw [rl_nil rp, List.nil_append] at q
        exact q _ H (Xt.refl H) (rb_tupR ry)
      · subst e
        rw [rl_nil rp', List.append_nil] at q
        exact q _ H (Xt.refl H) (rb_tupR rx)
      · exact q _ _ (Gr.new ht) (.tup upd_same tc (g.go (Gr.new ht) (fun _ z _ => z.elim) fun _ z => .inl z))
    · cases hg
  · cases hg
theorem se_add (ha : SB X a fa) (hb : SB X b fb) : SE X (.BinOp a .Add b pos) (e2 qAdd fa fb) := se_op ((op_add.or op_add_str).or op_catC) o2_add ha hb
/-- list + list: a new one -/
def qCat (x y : D) : Option D := match x, y with
  | .list xs, .list ys => if (xs.length + ys.length).ble line24 then some (.list (xs ++ ys)) else none
  | _, _ => none
theorem o2_cat {K : PySem.W.Frag} : Op2N K rCat qCat := by
  intro O H x y dx dy d Q _ rx ry hg q
  unfold qCat at hg
  split at hg
  · split at hg
    · rename_i hl
      cases hg
      obtain ⟨p, xs, rfl, hp, rp⟩ := rb_list rx
      obtain ⟨p', ys, rfl, hp', rp'⟩ := rb_list ry
      refine ⟨p, p', xs, ys, rfl, rfl, hp, hp', by rw [line24_eq, rp.length, rp'.length]; exact Nat.le_of_ble_eq_true hl, fun t ht => q t _ ht ?_⟩
      exact .lst upd_same ((rl_append rp rp').go (Gr.new ht) (fun _ z _ => z.elim) (addO_new ht))
    · cases hg
  · cases hg
theorem sn_cat (ha : SB X a fa) (hb : SB X b fb) : SN X (.BinOp a .Add b pos) (e2 qCat fa fb) := sn_op op_cat o2_cat ha hb
theorem mul_list (x : Str) (n : Int) : Txt.mul x n = S ((List.replicate n.toNat (cps x)).flatten) := by
  have fold : ∀ (k : Nat) (acc : Array Nat), ((List.replicate k x.cps).foldl (· ++ ·) acc).toList = acc.toList ++ (List.replicate k (cps x)).flatten := by
    intro k
    induction k with
    | zero => intro acc; simp
    | succ k ih => intro acc; rw [List.replicate_succ, List.foldl_cons, ih, List.replicate_succ, List.flatten_cons, Array.toList_append, List.append_assoc]; rfl
  unfold Txt.mul
  split
  · have : n.toNat = 0 := by omega
    rw [this]; rfl
  · split
    · rename_i h1 h2
      rw [Bool.or_eq_true, beq_iff_eq, beq_iff_eq] at h2
      rcases h2 with h2 | h2
      · rw [h2]
        show x = S ((List.replicate 1 (cps x)).flatten)
        simp [List.replicate, S_cps]
      · have e : cps x = [] := by rw [len_cps] at h2; exact List.length_eq_zero_iff.mp h2
        have e2 : ∀ k : Nat, (List.replicate k (cps x)).flatten = [] := fun k => by rw [e]; simp
        rw [e2, ← S_cps x, e]
    · have h := fold n.toNat #[]
      have h' : (List.foldl (fun x1 x2 => x1 ++ x2) #[] (List.replicate n.toNat x.cps)) = ((List.replicate n.toNat (cps x)).flatten).toArray := by
        rw [← Array.toArray_toList (xs := List.foldl _ _ _), h]; simp
      rw [h']; rfl
def qMulS (x : Str) (n : Int) : Option D := if decide (n < 1073741824) && decide (-1073741824 < n) && (x.length * n.toNat).ble line24 then some (.str (S ((List.replicate n.toNat (cps x)).flatten))) else none
theorem mulOk_of {x : Str} {n : Int} (h1 : n < 1073741824) (h2 : -1073741824 < n) (h3 : x.length * n.toNat ≤ line24) : MulOk x n := by
  refine ⟨?_, fun h _ => ?_, fun _ _ => ?_⟩
  · rw [Bool.or_eq_false_iff, decide_eq_false_iff_not, decide_eq_false_iff_not]
    constructor <;> (have : (2 : Int) ^ 63 = 9223372036854775808 := by decide) <;> omega
  · have hn : 1 ≤ n := by omega
    have e : ((x.length * n.toNat : Nat) : Int) = (x.length : Int) * n := by rw [Int.natCast_mul, Int.toNat_of_nonneg (by omega)]
    have h4 : (x.length : Int) * n ≤ 2 ^ 63 - 1 := by
      have : (line24 : Int) ≤ 2 ^ 63 - 1 := by decide
      omega
    intro hc
    have := (Int.le_ediv_iff_mul_le (by omega : 0 < n)).mpr h4
    omega
  · unfold Builtin.Str.tooLong
    rw [decide_eq_false_iff_not]
    have := line24_eq
    omega
theorem op_mulS : OpR X (binaryOp .Mult) (fun x y H Q => ∃ z n, x = .str z ∧ y = .int n ∧ MulOk z n ∧ Q (.str (Txt.mul z n)) H) := by
  intro pins s σ H x y v u Q I rx ry h
  obtain ⟨z, n, rfl, rfl, ok, q⟩ := h
  obtain ⟨t, rfl⟩ := rx
  obtain ⟨t', rfl⟩ := ry
  exact SB.mul ok fun t2 k => ⟨.str _, H, I.tok k, ⟨t2, rfl⟩, q⟩
def qMul (x y : D) : Option D := match x, y with
  | .int i, .int j => qMulI i j
  | .str z, .int n => qMulS z n
  | _, _ => none
theorem o2_mulA {K : PySem.W.Frag} : Op2 K (fun x y H Q => rI CMul (fun i j => .int (i * j)) x y H Q ∨ (∃ z n, x = .str z ∧ y = .int n ∧ MulOk z n ∧ Q (.str (Txt.mul z n)) H)) qMul := by
  intro O H x y dx dy d Q hd rx ry hg q
  unfold qMul at hg
  split at hg
  · rename_i i j
    exact .inl (o2_mul O H x y (.int i) (.int j) d Q hd rx ry hg q)
  · unfold qMulS at hg
    split at hg
    · rename_i c
      cases hg
      rw [Bool.and_eq_true, Bool.and_eq_true, decide_eq_true_eq, decide_eq_true_eq] at c
      refine .inr ⟨_, _, rb_str rx, rb_int ry, mulOk_of c.1.1 c.1.2 (Nat.le_of_ble_eq_true c.2), ?_⟩
      rw [mul_list]
      exact q _ H (Xt.refl H) (.str _)
    · cases hg
  · cases hg
theorem se_mul (ha : SB X a fa) (hb : SB X b fb) : SE X (.BinOp a .Mult b pos) (e2 qMul fa fb) := se_op (op_mul.or op_mulS) o2_mulA ha hb

/-! ### subscripts -/
def atD {α : Type} (xs : List α) (i : Int) : Option α := (ixN xs.length i).bind fun j => xs[j]?
theorem RepL.at {K : PySem.W.Frag} {O : OS} {H : Hp} {ds : List D} {vs : List V} {i : Int} {d : D} (r : RepL K O H vs ds) (h : atD ds i = some d) : ∃ v, atI vs i = some v ∧ Rep K O H v d := by
  unfold atD at h
  unfold atI
  rw [r.length]
  cases e : ixN ds.length i with
  | none => rw [e] at h; cases h
  | some j =>
    rw [e] at h
    exact r.get h
def qIx (x y : D) : Option D := match x, y with
  | .list ds, .int i => atD ds i
  | .tuple ds, .int i => atD ds i
  | .str z, .int i => if z.length.ble line24 then match atD (cps z) i with
      | some c => some (.str (S [c]))
      | none => none
    else none
  | _, _ => none
theorem o2_ix {K : PySem.W.Frag} : Op2 K (rIx K) qIx := by
  intro O H x y dx dy d Q _ rx ry hg q
  unfold qIx at hg
  split at hg
  · obtain ⟨p, xs, rfl, hp, rp⟩ := rb_list rx
    obtain ⟨v, h1, h2⟩ := rp.at hg
    exact .inl ⟨p, xs, _, v, rfl, rb_int ry, .of hp, h1, q v H (Xt.refl H) h2⟩
  · obtain ⟨p, xs, rfl, hp, rp⟩ := rb_tup rx
    obtain ⟨v, h1, h2⟩ := rp.at hg
    exact .inr (.inl ⟨p, xs, _, v, rfl, rb_int ry, .inl hp, h1, q v H (Xt.refl H) h2⟩)
  · split at hg
    · rename_i hl
      split at hg
      · rename_i c e
        cases hg
        exact .inr (.inr ⟨_, _, c, rb_str rx, rb_int ry, by rw [line24_eq]; exact Nat.le_of_ble_eq_true hl, e, q _ H (Xt.refl H) (.str _)⟩)
      · cases hg
    · cases hg
  · cases hg
theorem se_at (ha : SB X a fa) (hb : SB X b fb) (hs : PlainIx b := by intro _ _; rfl) : SE X (.Subscript a b pos) (e2 qIx fa fb) := se_ix ix_seq o2_ix ha hb hs

/-! ### slices -/
abbrev FO := Rho → Tp → Option (Option Int × Tp)
def rdO (K : PySem.W.Frag) (f : FO) : TO := fun σ H Q => ∃ G B O τ ρ T d T', Sta K G B O τ σ H ρ T ∧ f ρ T = some (d, T') ∧ ∀ H', Xt (tS τ) H H' → TpOk O τ H' T' → Q d H'
structure SO (X : Cx) (e : Option Expr) (f : FO) : Prop where
  po : PO X e (rdO X.K f)
theorem PO.imp {e : Option Expr} {t u : TO} (h : PO X e t) (w : ∀ σ H Q, u σ H Q → t σ H Q) : PO X e u := ⟨fun pins s σ H Q I q => h.run pins s σ H Q I (w σ H Q q)⟩
def oNone : FO := fun _ T => some (none, T)
def oSome (f : FE) : FO := fun ρ T => match f ρ T with
  | some (.int i, T1) => some (some i, T1)
  | _ => none
theorem so_none : SO X none oNone := ⟨PO.imp po_none fun σ H Q ⟨G, B, O, τ, ρ, T, d, T', E, hf, q⟩ => by
  cases hf
  exact q H (Xt.refl H) E.tok⟩
theorem so_some (h : SE X e fa) : SO X (some e) (oSome fa) := ⟨PO.imp (po_some h.pe) fun σ H Q ⟨G, B, O, τ, ρ, T, d, T', E, hf, q⟩ => by
  unfold oSome at hf
  split at hf
  · rename_i i T1 h1
    cases hf
    refine ⟨G, B, O, τ, ρ, T, _, _, E, h1, fun v H' x t r => ?_⟩
    cases r
    exact ⟨i, rfl, q H' x t⟩
  · cases hf⟩
def cutD {α : Type} (xs : List α) (lo hi : Option Int) : List α := (xs.drop (HT.sIx xs.length 0 lo)).take (HT.sIx xs.length xs.length hi - HT.sIx xs.length 0 lo)
def qCut (x : D) (lo hi : Option Int) : Option D := match x with
  | .tuple ds => some (.tuple (cutD ds lo hi))
  | .str z => if z.length.ble line24 then some (.str (S (cutD (cps z) lo hi))) else none
  | _ => none
def eCut (fa : FE) (fl fh : FO) : FE := fun ρ T => match fa ρ T with
  | none => none
  | some (x, T1) => match fl ρ T1 with
    | none => none
    | some (lo, T2) => match fh ρ T2 with
      | none => none
      | some (hi, T3) => match qCut x lo hi with
        | none => none
        | some d => some (d, T3)
theorem cutV_of {ds : List D} {xs : List V} {K : PySem.W.Frag} {O : OS} {H : Hp} (r : RepL K O H xs ds) (lo hi : Option Int) : RepL K O H (cutV xs lo hi) (cutD ds lo hi) := by
  unfold cutV cutD
  rw [r.length]
  exact rl_take _ (rl_drop _ r)
theorem cutD_all {ds : List D} {lo hi : Option Int} (h : HT.sIx ds.length 0 lo = 0 ∧ HT.sIx ds.length ds.length hi = ds.length) : cutD ds lo hi = ds := by
  unfold cutD
  rw [h.1, h.2, List.drop_zero, Nat.sub_zero, List.take_length]
theorem se_cut {lo hi : Option Expr} {p2 : Pos} {fl fh : FO} (ha : SB X a fa) (hl : SO X lo fl) (hh : SO X hi fh) : SE X (.Subscript a (.Slice lo hi none p2) pos) (eCut fa fl fh) := ⟨PE.imp (pe_slice (sl_tupC.or sl_str) ha.pe hl.po hh.po) fun σ H Q ⟨G, B, O, τ, ρ, T, d, T', E, hf, q⟩ => by
  unfold eCut at hf
  split at hf
  · cases hf
  rename_i x T1 h1
  split at hf
  · cases hf
  rename_i l T2 h2
  split at hf
  · cases hf
  rename_i u T3 h3
  split at hf
  · cases hf
  rename_i d' h4
  cases hf
  refine ⟨G, B, O, τ, ρ, T, x, T1, E, h1, fun v H1 x1 t1 r1 => ⟨G, B, O, τ, ρ, T1, l, T2, E.step x1 t1, h2, fun H2 x2 t2 => ⟨G, B, O, τ, ρ, T2, u, T', (E.step x1 t1).step x2 t2, h3, fun H3 x3 t3 => ?_⟩⟩⟩
  have rv := ((r1.step (E.step x1 t1) x2).step ((E.step x1 t1).step x2 t2) x3).b
  have xx := (x1.tr x2).tr x3
  unfold qCut at h4
  split at h4
  · rename_i as
    cases h4
    obtain ⟨p, xs, rfl, hp, rp⟩ := rb_tup rv
    refine .inl ⟨p, xs, pinned (cutD as l u), rfl, .inl hp, fun hw => ?_, fun _ t w ht tc => ?_⟩
    · rw [rp.length] at hw
      have e := cutD_all (ds := _) hw
      rw [e] at q
      exact q _ H3 xx t3 (rb_tupR rv)
    · exact q _ _ (xx.tr ((Gr.new ht).mono fun _ z => z.elim)) (t3.gr (Gr.new ht)) (.tup upd_same tc ((cutV_of rp l u).go (Gr.new ht) (fun _ z _ => z.elim) fun _ z => .inl z))
  · split at h4
    · rename_i hz
      cases h4
      rw [rb_str rv]
      refine .inr ⟨_, rfl, by rw [line24_eq]; exact Nat.le_of_ble_eq_true hz, ?_⟩
      have e : ∀ z : Str, cutS z l u = S (cutD (cps z) l u) := fun z => by
        unfold cutS cutD
        rw [len_cps]; rfl
      rw [e]
      exact q _ H3 xx t3 (.str _)
    · cases h4
  · cases h4⟩
end
end Dv

/-! Dv10: tests, chains, in, built-in functions. -/
namespace Dv
open PySem PySem.Spec PyProof.Rows L2
section
variable {X : Cx} {a b c e : Expr} {fa fb fc : FE} {f g : FT} {pos : Pos}

/-! ### tests -/
def truD : D → Option Bool
  | .none => some false
  | .bool b => some b
  | .int i => some (i != 0)
  | .str x => if x.length.ble line24 then some (!(cps x).isEmpty) else none
  | .list ds => some (!ds.isEmpty)
  | .tuple ds => some (!ds.isEmpty)
  | .dict _ => none
def tTru (f : FE) : FT := fun ρ T => match f ρ T with
  | none => none
  | some (d, T1) => match truD d with
    | none => none
    | some b => some (b, T1)
theorem truV_of {K : PySem.W.Frag} {O : OS} {H : Hp} {v : V} {d : D} {k : Bool} (r : RepB K O H v d) (h : truD d = some k) : TruV K v H k := by
  unfold truD at h
  split at h
  · cases h; rw [rb_non r]; exact rfl
  · cases h; rw [rb_bl r]; exact rfl
  · cases h; rw [rb_int r]; exact rfl
  · split at h
    · rename_i x hl
      cases h
      rw [rb_str r]
      refine ⟨by rw [line24_eq]; exact Nat.le_of_ble_eq_true hl, ?_⟩
      rw [len_cps]
      cases cps x <;> simp
      omega
    · cases h
  · cases h
    obtain ⟨p, xs, rfl, hp, rp⟩ := rb_list r
    refine .inl ⟨xs, .of hp, ?_⟩
    cases rp <;> rfl
  · cases h
    obtain ⟨p, xs, rfl, hp, rp⟩ := rb_tup r
    refine .inr (.inl ⟨xs, .inl hp, ?_⟩)
    cases rp <;> rfl
  · cases h
theorem rdT_tru {K : PySem.W.Frag} {σ : L2.St} {H : Hp} {Q : Bool → Hp → Prop} (h : rdT K (tTru fa) σ H Q) : rdB K fa σ H fun x H' => ∃ k, TruV K x H' k ∧ Q k H' := by
  obtain ⟨G, B, O, τ, ρ, T, d, T', E, hf, q⟩ := h
  unfold tTru at hf
  split at hf
  · cases hf
  rename_i x T1 h1
  split at hf
  · cases hf
  rename_i k h2
  cases hf
  exact ⟨G, B, O, τ, ρ, T, x, T', E, h1, fun v H' x t r => ⟨_, truV_of r.b h2, q H' x t⟩⟩
/-- the truth of a name, a call, a subscript .. -/
theorem st_tru (h : SB X e fa) (he : ∀ whole, isTrue e X.env whole = (do let v ← whole; standAt e.pos; holding [v] (truthy v)) := by intro _; rfl) : ST X e (tTru fa) := ⟨PT.imp (pt_truth h.pe he) fun σ H Q h => rdT_tru h⟩
/-- a comparison's -/
def tBool (f : FE) : FT := fun ρ T => match f ρ T with
  | some (.bool b, T1) => some (b, T1)
  | _ => none
theorem rdT_bool {K : PySem.W.Frag} {σ : L2.St} {H : Hp} {Q : Bool → Hp → Prop} (h : rdT K (tBool fa) σ H Q) : rdE K fa σ H fun x H' => ∃ k, x = .bl k ∧ Q k H' := by
  obtain ⟨G, B, O, τ, ρ, T, d, T', E, hf, q⟩ := h
  unfold tBool at hf
  split at hf
  · rename_i b T1 h1
    cases hf
    refine ⟨G, B, O, τ, ρ, T, _, _, E, h1, fun v H' x t r => ?_⟩
    cases r
    exact ⟨d, rfl, q H' x t⟩
  · cases hf
structure SC (X : Cx) (op : CmpOp) (a b : Expr) (f : FE) : Prop where
  pc : PC X op a b (rdE X.K f)
theorem PC.imp {op : CmpOp} {t u : TE} (h : PC X op a b t) (w : ∀ σ H Q, u σ H Q → t σ H Q) : PC X op a b u := ⟨fun pins s σ H Q I q => h.run pins s σ H Q I (w σ H Q q)⟩
theorem sc_of {op : CmpOp} {r : R2} {g : D → D → Option D} (ho : OpR X (compareOp op) r) (hg : Op2 X.K r g) (ha : SB X a fa) (hb : SB X b fb) : SC X op a b (e2 g fa fb) := ⟨⟨fun pins s σ H Q I h => by
  have h' := tOp_of hg σ H Q h
  exact binT ha.pe hb.pe I h' fun v u s2 x y H2 I2 rx ry q => ho pins s2 σ H2 x y v u Q I2 rx ry q⟩⟩
theorem se_sc {op : CmpOp} (h : SC X op a b fa) (hm : behindInMarks op b = false := by first | exact nobehind _ (by decide) (by decide) | rfl) : SE X (.Compare a [op] [b] pos) fa := ⟨pe_cmp h.pc hm⟩
theorem st_sc {op : CmpOp} (h : SC X op a b fa) (hm : behindInMarks op b = false := by first | exact nobehind _ (by decide) (by decide) | rfl) : ST X (.Compare a [op] [b] pos) (tBool fa) := ⟨PT.imp (pt_cmp h.pc hm) fun σ H Q h => by
  exact rdT_bool h⟩
theorem st_val (h : SE X e fa) (he : ∀ whole, isTrue e X.env whole = (do let v ← whole; standAt e.pos; holding [v] (truthy v)) := by intro _; rfl) : ST X e (tBool fa) := ⟨PT.imp (pt_val h.pe he) fun σ H Q h => rdT_bool h⟩
structure SW (X : Cx) (e : Expr) (f : FT) : Prop where
  pw : PW X e (rdT X.K f)
theorem PW.imp {t u : TT} (h : PW X e t) (w : ∀ σ H Q, u σ H Q → t σ H Q) : PW X e u := ⟨fun wh pins s σ H Q I q => h.run wh pins s σ H Q I (w σ H Q q)⟩
def tAndF (f g : FT) : FT := fun ρ T => match f ρ T with
  | none => none
  | some (true, T1) => g ρ T1
  | some (false, T1) => some (false, T1)
def tOrF (f g : FT) : FT := fun ρ T => match f ρ T with
  | none => none
  | some (true, T1) => some (true, T1)
  | some (false, T1) => g ρ T1
def tNotF (f : FT) : FT := fun ρ T => match f ρ T with
  | none => none
  | some (b, T1) => some (!b, T1)
theorem sw_and1 (h : ST X a f) : SW X (.BoolOp .And [a] pos) f := ⟨pw_and1 h.pe⟩
theorem sw_or1 (h : ST X a f) : SW X (.BoolOp .Or [a] pos) f := ⟨pw_or1 h.pe⟩
theorem SW.st (h : SW X e f) : ST X e f := ⟨h.pw.pt⟩
theorem rd_and {K : PySem.W.Frag} {σ : L2.St} {H : Hp} {Q : Bool → Hp → Prop} (h : rdT K (tAndF f g) σ H Q) : tAnd (rdT K f) (rdT K g) σ H Q := by
  obtain ⟨G, B, O, τ, ρ, T, d, T', E, hf, q⟩ := h
  unfold tAndF at hf
  split at hf
  · cases hf
  · rename_i T1 h1
    exact ⟨G, B, O, τ, ρ, T, true, T1, E, h1, fun H1 x1 t1 => show rdT K g σ H1 Q from ⟨G, B, O, τ, ρ, T1, d, T', E.step x1 t1, hf, fun H2 x2 t2 => q H2 (x1.tr x2) t2⟩⟩
  · rename_i T1 h1
    cases hf
    exact ⟨G, B, O, τ, ρ, T, false, _, E, h1, fun H1 x1 t1 => show Q false H1 from q H1 x1 t1⟩
theorem rd_or {K : PySem.W.Frag} {σ : L2.St} {H : Hp} {Q : Bool → Hp → Prop} (h : rdT K (tOrF f g) σ H Q) : tOr (rdT K f) (rdT K g) σ H Q := by
  obtain ⟨G, B, O, τ, ρ, T, d, T', E, hf, q⟩ := h
  unfold tOrF at hf
  split at hf
  · cases hf
  · rename_i T1 h1
    cases hf
    exact ⟨G, B, O, τ, ρ, T, true, _, E, h1, fun H1 x1 t1 => show Q true H1 from q H1 x1 t1⟩
  · rename_i T1 h1
    exact ⟨G, B, O, τ, ρ, T, false, T1, E, h1, fun H1 x1 t1 => show rdT K g σ H1 Q from ⟨G, B, O, τ, ρ, T1, d, T', E.step x1 t1, hf, fun H2 x2 t2 => q H2 (x1.tr x2) t2⟩⟩
theorem sw_and {rest : List Expr} (h1 : ST X a f) (h2 : SW X (.BoolOp .And (b :: rest) pos) g) : SW X (.BoolOp .And (a :: b :: rest) pos) (tAndF f g) := ⟨PW.imp (pw_and h1.pe h2.pw) fun σ H Q h => rd_and h⟩
theorem sw_or {rest : List Expr} (h1 : ST X a f) (h2 : SW X (.BoolOp .Or (b :: rest) pos) g) : SW X (.BoolOp .Or (a :: b :: rest) pos) (tOrF f g) := ⟨PW.imp (pw_or h1.pe h2.pw) fun σ H Q h => rd_or h⟩
theorem st_not (h : ST X a f) : ST X (.UnaryOp .Not a pos) (tNotF f) := ⟨PT.imp (pt_not h.pe) fun σ H Q ⟨G, B, O, τ, ρ, T, d, T', E, hf, q⟩ => by
  unfold tNotF at hf
  split at hf
  · cases hf
  · rename_i b T1 h1
    cases hf
    exact ⟨G, B, O, τ, ρ, T, b, _, E, h1, fun H1 x1 t1 => q H1 x1 t1⟩⟩
/-- .. as values -/
def eAnd (fa fb : FE) : FE := fun ρ T => match fa ρ T with
  | some (.bool true, T1) => fb ρ T1
  | some (.bool false, T1) => some (.bool false, T1)
  | _ => none
def eOr (fa fb : FE) : FE := fun ρ T => match fa ρ T with
  | some (.bool true, T1) => some (.bool true, T1)
  | some (.bool false, T1) => fb ρ T1
  | _ => none
def eNot (fa : FE) : FE := fun ρ T => match fa ρ T with
  | some (.bool b, T1) => some (.bool (!b), T1)
  | _ => none
theorem se_one {op} (h : SE X a fa) : SE X (.BoolOp op [a] pos) fa := ⟨pe_one h.pe⟩
theorem se_and {rest : List Expr} (h1 : SE X a fa) (h2 : SE X (.BoolOp .And (b :: rest) pos) fb) : SE X (.BoolOp .And (a :: b :: rest) pos) (eAnd fa fb) := ⟨PE.imp (pe_and h1.pe h2.pe) fun σ H Q ⟨G, B, O, τ, ρ, T, d, T', E, hf, q⟩ => by
  unfold eAnd at hf
  split at hf
  · rename_i T1 h1
    refine ⟨G, B, O, τ, ρ, T, _, T1, E, h1, fun v H1 x1 t1 r => ?_⟩
    cases r
    exact ⟨true, rfl, show rdE X.K fb σ H1 Q from ⟨G, B, O, τ, ρ, T1, d, T', E.step x1 t1, hf, fun v H2 x2 t2 r => q v H2 (x1.tr x2) t2 r⟩⟩
  · rename_i T1 h1
    cases hf
    refine ⟨G, B, O, τ, ρ, T, _, _, E, h1, fun v H1 x1 t1 r => ?_⟩
    cases r
    exact ⟨false, rfl, show Q (.bl false) H1 from q _ H1 x1 t1 (.bl _)⟩
  · cases hf⟩
theorem se_or {rest : List Expr} (h1 : SE X a fa) (h2 : SE X (.BoolOp .Or (b :: rest) pos) fb) : SE X (.BoolOp .Or (a :: b :: rest) pos) (eOr fa fb) := ⟨PE.imp (pe_or h1.pe h2.pe) fun σ H Q ⟨G, B, O, τ, ρ, T, d, T', E, hf, q⟩ => by
  unfold eOr at hf
  split at hf
  · rename_i T1 h1
    cases hf
    refine ⟨G, B, O, τ, ρ, T, _, _, E, h1, fun v H1 x1 t1 r => ?_⟩
    cases r
    exact ⟨true, rfl, show Q (.bl true) H1 from q _ H1 x1 t1 (.bl _)⟩
  · rename_i T1 h1
    refine ⟨G, B, O, τ, ρ, T, _, T1, E, h1, fun v H1 x1 t1 r => ?_⟩
    cases r
    exact ⟨false, rfl, show rdE X.K fb σ H1 Q from ⟨G, B, O, τ, ρ, T1, d, T', E.step x1 t1, hf, fun v H2 x2 t2 r => q v H2 (x1.tr x2) t2 r⟩⟩
  · cases hf⟩
theorem se_not (h : SE X a fa) : SE X (.UnaryOp .Not a pos) (eNot fa) := ⟨PE.imp (pe_not h.pe) fun σ H Q ⟨G, B, O, τ, ρ, T, d, T', E, hf, q⟩ => by
  unfold eNot at hf
  split at hf
  · rename_i b T1 h1
    cases hf
    refine ⟨G, B, O, τ, ρ, T, _, _, E, h1, fun v H1 x1 t1 r => ?_⟩
    cases r
    exact ⟨b, rfl, q _ H1 x1 t1 (.bl _)⟩
  · cases hf⟩
def eIf (c : FT) (fa fb : FE) : FE := fun ρ T => match c ρ T with
  | none => none
  | some (true, T1) => fa ρ T1
  | some (false, T1) => fb ρ T1
theorem se_if (hc : ST X c f) (ha : SE X a fa) (hb : SE X b fb) : SE X (.IfExp c a b pos) (eIf f fa fb) := ⟨PE.imp (pe_ifExp hc.pe ha.pe hb.pe) fun σ H Q ⟨G, B, O, τ, ρ, T, d, T', E, hf, q⟩ => by
  unfold eIf at hf
  split at hf
  · cases hf
  · rename_i T1 h1
    exact ⟨G, B, O, τ, ρ, T, _, T1, E, h1, fun H1 x1 t1 => show rdE X.K fa σ H1 Q from ⟨G, B, O, τ, ρ, T1, d, T', E.step x1 t1, hf, fun v H2 x2 t2 r => q v H2 (x1.tr x2) t2 r⟩⟩
  · rename_i T1 h1
    exact ⟨G, B, O, τ, ρ, T, _, T1, E, h1, fun H1 x1 t1 => show rdE X.K fb σ H1 Q from ⟨G, B, O, τ, ρ, T1, d, T', E.step x1 t1, hf, fun v H2 x2 t2 r => q v H2 (x1.tr x2) t2 r⟩⟩⟩

/-! ### chains -/
def eChain (g h : D → D → Option D) (fa fb fc : FE) : FE := fun ρ T => match fa ρ T with
  | none => none
  | some (x, T1) => match fb ρ T1 with
    | none => none
    | some (y, T2) => match g x y with
      | some (.bool true) => match fc ρ T2 with
        | none => none
        | some (z, T3) => match h y z with
          | none => none
          | some d => some (d, T3)
      | some (.bool false) => some (.bool false, T2)
      | _ => none
theorem tChain_of {K : PySem.W.Frag} {r r' : R2} {g h : D → D → Option D} (hr : Op2 K r g) (hr' : Op2 K r' h) {σ : L2.St} {H : Hp} {Q : VK} (w : rdE K (eChain g h fa fb fc) σ H Q) : tChain r r' (rdB K fa) (rdB K fb) (rdB K fc) σ H Q := by
  obtain ⟨G, B, O, τ, ρ, T, d, T', E, hf, q⟩ := w
  unfold eChain at hf
  split at hf
  · cases hf
  rename_i x T1 h1
  split at hf
  · cases hf
  rename_i y T2 h2
  refine ⟨G, B, O, τ, ρ, T, x, T1, E, h1, fun v H1 x1 t1 r1 => ⟨G, B, O, τ, ρ, T1, y, T2, E.step x1 t1, h2, fun u H2 x2 t2 r2 => ?_⟩⟩
  have E1 := E.step x1 t1
  have E2 := E1.step x2 t2
  split at hf
  · rename_i h3
    split at hf
    · cases hf
    rename_i z T3 h4
    split at hf
    · cases hf
    rename_i d' h5
    cases hf
    refine hr O H2 v u x y _ _ E2.dom (r1.step E1 x2).b r2.b h3 fun w H3 x3 r3 => ?_
    cases r3
    refine ⟨true, rfl, ?_⟩
    show rdB K fc σ H3 _
    refine ⟨G, B, O, τ, ρ, T2, z, T', E2.grow x3, h4, fun w H4 x4 t4 r4 => ?_⟩
    have x3' : Xt (tS τ) H2 H3 := x3.mono fun _ z => z.elim
    exact hr' O H4 u w y z d Q ((E2.grow x3).step x4 t4).dom ((r2.step E2 x3').step (E2.grow x3) x4).b r4.b h5 fun v H5 x5 r5 => q v H5 ((((x1.tr x2).tr x3').tr x4).tr (x5.mono fun _ z => z.elim)) (t4.gr x5) r5
  · rename_i h3
    cases hf
    refine hr O H2 v u x y _ _ E2.dom (r1.step E1 x2).b r2.b h3 fun w H3 x3 r3 => ?_
    cases r3
    exact ⟨false, rfl, show Q (.bl false) H3 from q _ H3 ((x1.tr x2).tr (x3.mono fun _ z => z.elim)) (t2.gr x3) (.bl _)⟩
  · cases hf
theorem se_chain {op op' : CmpOp} {r r' : R2} {g h : D → D → Option D} (ho : OpR X (compareOp op) r) (ho' : OpR X (compareOp op') r') (hg : Op2 X.K r g) (hg' : Op2 X.K r' h) (ha : SB X a fa) (hb : SB X b fb) (hc : SB X c fc)
    (hm : lastMarks [op, op'] [b, c] = false := by with_unfolding_all rfl) : SE X (.Compare a [op, op'] [b, c] pos) (eChain g h fa fb fc) := ⟨PE.imp (pe_chain ho ho' ha.pe hb.pe hc.pe hm) fun σ H Q w => tChain_of hg hg' w⟩
end
end Dv

/-! Dv11: what is walked (ranges, lists, tuples, texts), displays, lists that grow. -/
namespace Dv
open PySem PySem.Spec PyProof.Rows L2
section
variable {X : Cx} {tg a b e : Expr} {fa fb : FE} {p pos : Pos}

/-! ### ranges -/
def rngD (lo : Int) : Nat → List D
  | 0 => []
  | n + 1 => .int lo :: rngD (lo + 1) n
theorem rngD_len : ∀ (n : Nat) (lo : Int), (rngD lo n).length = n
  | 0, _ => rfl
  | n + 1, lo => by rw [rngD, List.length_cons, rngD_len n]
theorem rngD_get : ∀ (n : Nat) (lo : Int) (i : Nat) (d : D), (rngD lo n)[i]? = some d → i < n ∧ d = .int (lo + i)
  | 0, _, _, _, h => by cases h
  | n + 1, lo, 0, d, h => by
    cases h
    exact ⟨Nat.succ_pos _, by rw [show lo + ((0 : Nat) : Int) = lo by omega]⟩
  | n + 1, lo, i + 1, d, h => by
    obtain ⟨h1, h2⟩ := rngD_get n (lo + 1) i d h
    exact ⟨Nat.succ_lt_succ h1, by rw [h2]; congr 1; omega⟩
def ok62 (i : Int) : Bool := decide (-4611686018427387904 ≤ i) && decide (i < 4611686018427387904)
theorem ok62_of {i : Int} (h : ok62 i = true) : -(2 ^ 62) ≤ i ∧ i < 2 ^ 62 := by
  unfold ok62 at h
  rw [Bool.and_eq_true, decide_eq_true_eq, decide_eq_true_eq] at h
  have : (2 : Int) ^ 62 = 4611686018427387904 := by decide
  omega
theorem walk_rng {K : PySem.W.Frag} {O : OS} {H : Hp} (lo : Int) (n : Nat) : Walk K O H (Itr lo n) (rngD lo n) := fun i O' H' _ _ =>
  ⟨fun d h => by
    obtain ⟨h1, h2⟩ := rngD_get n lo i d h
    exact ⟨h1, fun x H'' ⟨e1, e2⟩ => by subst e1; subst e2; subst h2; exact ⟨Xt.refl _, .int _⟩⟩, fun h => by rw [rngD_len] at h; exact h⟩
def iR1 (fa : FE) : FI := fun ρ T => match fa ρ T with
  | some (.int j, T1) => if ok62 j then some (rngD 0 j.toNat, T1) else none
  | _ => none
theorem si_r1 (hm : X.mg "range" = none) (ha : SE X a fa) (hg : Gl X "range" := by rfl) (hs : starEach [a] X.env = [(false, eval a X.env)] := by rfl) (hs' : starEach [a] X.env = (false, eval a X.env) :: starEach [] X.env := by rfl) : SI X tg (.Call (.Name "range" p) [a] [] pos) (iR1 fa) := ⟨PI.imp (pi_range1 hg hm (sa_cons ha sa_nil hs').pe hs) fun σ H R ⟨G, B, O, τ, ρ, T, ds, T', E, hf, q⟩ => by
  unfold iR1 at hf
  split at hf
  · rename_i j T1 h1
    split at hf
    · rename_i h2
      cases hf
      obtain ⟨b1, b2⟩ := ok62_of h2
      refine ⟨G, B, O, τ, ρ, T, [.int j], T', E, by simp only [aCons, aNil, h1], fun vs H1 x t r => ?_⟩
      cases r with
      | cons r rr =>
        cases rr
        cases r
        exact ⟨j, rfl, b1, b2, q _ H1 x t (walk_rng 0 _)⟩
    · cases hf
  · cases hf⟩
def iR2 (fa fb : FE) : FI := fun ρ T => match fa ρ T with
  | some (.int i, T1) => match fb ρ T1 with
    | some (.int j, T2) => if ok62 i && ok62 j then some (rngD i (j - i).toNat, T2) else none
    | _ => none
  | _ => none
theorem si_r2 (hm : X.mg "range" = none) (ha : SE X a fa) (hb : SE X b fb) (hg : Gl X "range" := by rfl) (hs : starEach [a, b] X.env = [(false, eval a X.env), (false, eval b X.env)] := by rfl) (hs2 : starEach [b] X.env = [(false, eval b X.env)] := by rfl)
    (hs' : starEach [a, b] X.env = (false, eval a X.env) :: starEach [b] X.env := by rfl) (hs2' : starEach [b] X.env = (false, eval b X.env) :: starEach [] X.env := by rfl) : SI X tg (.Call (.Name "range" p) [a, b] [] pos) (iR2 fa fb) := ⟨PI.imp (pi_range2 hg hm (sa_cons ha (sa_cons hb sa_nil hs2') hs').pe hs hs2) fun σ H R ⟨G, B, O, τ, ρ, T, ds, T', E, hf, q⟩ => by
  unfold iR2 at hf
  split at hf
  · rename_i i T1 h1
    split at hf
    · rename_i j T2 h2
      split at hf
      · rename_i h3
        cases hf
        rw [Bool.and_eq_true] at h3
        obtain ⟨b1, b2⟩ := ok62_of h3.1
        obtain ⟨b3, b4⟩ := ok62_of h3.2
        refine ⟨G, B, O, τ, ρ, T, [.int i, .int j], T', E, by simp only [aCons, aNil, h1, h2], fun vs H1 x t r => ?_⟩
        cases r with
        | cons r rr =>
          cases rr with
          | cons r' rr =>
            cases rr
            cases r
            cases r'
            exact ⟨i, j, rfl, ⟨b1, b2, b3, b4⟩, q _ H1 x t (walk_rng i _)⟩
      · cases hf
    · cases hf
  · cases hf⟩

/-! ### lists, tuples, texts -/
def iSeqT (K : PySem.W.Frag) (te : TE) : TI := fun σ H R => te σ H fun x H1 => (∃ a, x = .ref a ∧ (∃ xs, SqL K H1 a xs) ∧ R (Itl K a) H1) ∨ (∃ a, x = .ref a ∧ (∃ xs, SqT K H1 a xs) ∧ R (Itt K a) H1) ∨ ∃ z, x = .str z ∧ R (Its z) H1
theorem pi_seq {te : TE} (he : PE X e te) : PI X tg e (iSeqT X.K te) := ⟨fun pins s σ H R I h => thn (he.run pins s σ H _ I h) fun v s1 ⟨x, H1, I1, r1, q1⟩ => by
  rcases q1 with ⟨a, rfl, ⟨xs, hq⟩, q⟩ | ⟨a, rfl, ⟨xs, hq⟩, q⟩ | ⟨z, rfl, q⟩
  · cases r1
    obtain ⟨its, _, pl, _⟩ := I1.list hq
    exact wpAny_pyIter_list pl.isList (pi_one (tk := s1.toks) I1 _ (turn_list a _) ⟨_, Heap.get?_push_size _ rfl, rfl, rfl⟩ q)
  · cases r1
    obtain ⟨its, _, pl, _⟩ := I1.tuple hq
    exact wpAny_pyIter_tuple (show s1.heap.IsTuple a its.toArray from pl) (pi_one (tk := s1.toks) I1 _ (turn_tuple a _) ⟨_, Heap.get?_push_size _ rfl, rfl, rfl⟩ q)
  · obtain ⟨t, rfl⟩ := r1
    cases hz : z.cps.all (· < 128)
    · exact wpAny_pyIter_wide hz (pi_one (tk := s1.toks) I1 _ (turn_str _ z t "str_iterator" (.inr rfl)) ⟨_, Heap.get?_push_size _ rfl, rfl, rfl⟩ q)
    · exact wpAny_pyIter_ascii hz (pi_one (tk := s1.toks) I1 _ (turn_str _ z t "str_ascii_iterator" (.inl rfl)) ⟨_, Heap.get?_push_size _ rfl, rfl, rfl⟩ q)⟩
def seqD : D → Option (List D)
  | .list ds => some ds
  | .tuple ds => some ds
  | .str z => some ((cps z).map fun c => .str (S [c]))
  | _ => none
def iSeq (fa : FE) : FI := fun ρ T => match fa ρ T with
  | none => none
  | some (d, T1) => match seqD d with
    | none => none
    | some ds => some (ds, T1)
theorem walk_list {K : PySem.W.Frag} {O : OS} {H : Hp} {a : Addr} {xs : List V} {ds : List D} (no : ¬ O a) (e : H a = some (.lst xs)) (r : RepL K O H xs ds) : Walk K O H (Itl K a) ds := fun i O' H' af _ => by
  have e' : H' a = some (.lst xs) := af.xt _ _ e (.inl no)
  have r' := af.repL r
  have only : ∀ ys, SqL K H' a ys → ys = xs ∨ True := fun _ _ => .inr trivial
  refine ⟨fun d h => ?_, fun h => ⟨xs, .of e', by rw [r'.length]; exact h⟩⟩
  obtain ⟨v, hv, rv⟩ := r'.get h
  refine ⟨⟨xs, v, .of e', hv⟩, fun x H'' ⟨e1, e2⟩ => ?_⟩
  subst e1
  have := e2 xs (.of e')
  rw [hv] at this
  cases this
  exact ⟨Xt.refl _, rv⟩
theorem walk_tup {K : PySem.W.Frag} {O : OS} {H : Hp} {a : Addr} {xs : List V} {ds : List D} (e : SqT K H a xs) (r : RepL K O H xs ds) : Walk K O H (Itt K a) ds := fun i O' H' af _ => by
  have e' : SqT K H' a xs := af.xt.sqT e
  have r' := af.repL r
  refine ⟨fun d h => ?_, fun h => ⟨xs, e', by rw [r'.length]; exact h⟩⟩
  obtain ⟨v, hv, rv⟩ := r'.get h
  refine ⟨⟨xs, v, e', hv⟩, fun x H'' ⟨e1, e2⟩ => ?_⟩
  subst e1
  have := e2 xs e'
  rw [hv] at this
  cases this
  exact ⟨Xt.refl _, rv⟩
theorem walk_str {K : PySem.W.Frag} {O : OS} {H : Hp} (z : Str) : Walk K O H (Its z) ((cps z).map fun c => .str (S [c])) := fun i O' H' _ _ => by
  refine ⟨fun d h => ?_, fun h => ?_⟩
  · rw [List.getElem?_map] at h
    cases e : (cps z)[i]? with
    | none => rw [e] at h; cases h
    | some c =>
      rw [e] at h
      cases h
      have e' : z.cps[i]? = some c := by rw [← Array.getElem?_toList]; exact e
      refine ⟨?_, fun x H'' ⟨e1, c', e2, e3⟩ => ?_⟩
      · show i < z.cps.size
        exact (Array.getElem?_eq_some_iff.mp e').1
      · subst e1; subst e3
        rw [e'] at e2; cases e2
        exact ⟨Xt.refl _, .str _⟩
  · show z.cps.size ≤ i
    rw [List.length_map] at h
    exact h
theorem si_seq (h : SE X e fa) : SI X tg e (iSeq fa) := ⟨PI.imp (pi_seq h.pe) fun σ H R ⟨G, B, O, τ, ρ, T, ds, T', E, hf, q⟩ => by
  unfold iSeq at hf
  split at hf
  · cases hf
  rename_i d T1 h1
  split at hf
  · cases hf
  rename_i ds' h2
  cases hf
  refine ⟨G, B, O, τ, ρ, T, d, T', E, h1, fun v H1 x t r => ?_⟩
  unfold seqD at h2
  split at h2
  · cases h2
    cases r with
    | lst no e r => exact .inl ⟨_, rfl, ⟨_, .of e⟩, q _ H1 x t (walk_list no e r)⟩
  · cases h2
    cases r with
    | tup e c r => exact .inr (.inl ⟨_, rfl, ⟨_, .inl (c.rd e)⟩, q _ H1 x t (walk_tup (.inl (c.rd e)) r)⟩)
  · cases h2
    cases r
    exact .inr (.inr ⟨_, rfl, q _ H1 x t (walk_str _)⟩)
  · cases h2⟩
end
end Dv

/-! Dv12: displays, lists that grow, built-in functions, methods. -/
namespace Dv
open PySem PySem.Spec PyProof.Rows L2
section
variable {X : Cx} {tg a b e o : Expr} {es : List Expr} {fa fb fo : FE} {ga : FA} {p pos cpos apos : Pos}

/-! ### displays -/
def eTup (ga : FA) : FE := fun ρ T => match ga ρ T with
  | none => none
  | some (ds, T1) => if ds.length.ble line24 then some (.tuple ds, T1) else none
theorem se_tup {x1 : Nat} (h : SA X es ga) (hs : (starEach es X.env).any (·.1) = false := by rfl) : SE X (.Tuple es x1 pos) (eTup ga) := ⟨PE.imp (pe_tupC h.pe) fun σ H Q ⟨G, B, O, τ, ρ, T, d, T', E, hf, q⟩ => by
  unfold eTup at hf
  split at hf
  · cases hf
  rename_i ds T1 h1
  split at hf
  · rename_i hl
    cases hf
    refine ⟨G, B, O, τ, ρ, T, ds, T', E, h1, fun vs H1 x t r => ⟨pinned ds, by rw [r.length, line24_eq]; exact Nat.le_of_ble_eq_true hl, fun u w hu tc => ?_⟩⟩
    exact q _ _ (x.tr ((Gr.new hu).mono fun _ z => z.elim)) (t.gr (Gr.new hu)) (.tup upd_same tc (r.go (Gr.new hu) (fun _ z _ => z.elim) fun _ z => .inl z))
  · cases hf⟩
def eLst (ga : FA) : FE := fun ρ T => match ga ρ T with
  | none => none
  | some (ds, T1) => if ds.length.ble line24 then some (.list ds, T1) else none
theorem sn_lst (h : SA X es ga) : SN X (.List es pos) (eLst ga) := ⟨PE.imp (pe_lst h.pe) fun σ H Q ⟨G, B, O, τ, ρ, T, d, T', E, hf, q⟩ => by
  unfold eLst at hf
  split at hf
  · cases hf
  rename_i ds T1 h1
  split at hf
  · rename_i hl
    cases hf
    refine ⟨G, B, O, τ, ρ, T, ds, T', E, h1, fun vs H1 x t r => ⟨by rw [r.length, line24_eq]; exact Nat.le_of_ble_eq_true hl, fun u hu => ?_⟩⟩
    exact q u _ (new_back E x t hu) (x.tr ((Gr.new hu).mono fun _ z => z.elim)) (t.more hu) (.lst upd_same (r.go (Gr.new hu) (fun _ z _ => z.elim) (addO_new hu)))
  · cases hf⟩

/-! ### x.append(e), x the slot's own list -/
def sApp (i : Nat) (f : FE) : FS := fun ρ T => match f ρ T with
  | none => none
  | some (d, T1) => match ρ[i]? with
    | some (.ow (.list ds)) => if ds.length.blt line24 then some (.nx (ρ.set i (.ow (.list (ds ++ [d])))), T1) else none
    | _ => none
/-- the slot's own thing changes -/
theorem Sta.change {K : PySem.W.Frag} {G : Hp} {B O : OS} {τ : Option Addr} {σ : L2.St} {H : Hp} {ρ : Rho} {T : Tp} {i : Nat} {d d' : D} {p : Addr} {u o : HO} (E : Sta K G B O τ σ H ρ T) (hi : ρ[i]? = some (.ow d)) (hs : σ[i]? = some (some (.ref p))) (hp : H p = some u) (nf : ¬ Fix u) (r : Top K O (upd H p o) p d') :
    Aft O O H (upd H p o) ∧ Sta K G B O τ σ (upd H p o) (ρ.set i (.ow d')) T := by
  obtain ⟨a, ea, oa, nb, ga, ta, _⟩ := E.ow i d hi
  rw [hs] at ea; cases ea
  have x : Xt O H (upd H p o) := Xt.wr oa hp nf
  have x' : Xt (fun b => b = p) H (upd H p o) := Xt.wr rfl hp nf
  refine ⟨⟨x, fun _ z => .inl z⟩, ?_⟩
  exact {
    len := by rw [List.length_set]; exact E.len
    fr := fun j dj h => by
      rw [List.getElem?_set] at h
      by_cases hj : i = j
      · rw [if_pos hj] at h; split at h <;> cases h
      · rw [if_neg hj] at h
        obtain ⟨v, e, q⟩ := E.fr j dj h
        exact ⟨v, e, q.go x (fun _ z _ => z) fun _ z => .inl z⟩
    ow := fun j dj h => by
      rw [List.getElem?_set] at h
      by_cases hj : i = j
      · subst hj
        rw [if_pos rfl] at h
        split at h
        · cases h
          exact ⟨p, hs, oa, nb, ga, ta, r⟩
        · cases h
      · rw [if_neg hj] at h
        obtain ⟨b, e, ob, nb', gb, tb, q⟩ := E.ow j dj h
        have hne : b ≠ p := fun z => by
          subst z
          exact hj (E.sep i j d dj b hi h hs e)
        exact ⟨b, e, ob, nb', gb, tb, q.go x' (fun c z _ => by rw [z]; exact oa) (fun _ z => .inl z) hne⟩
    sep := fun j k dj dk b h1 h2 h3 h4 => by
      rw [List.getElem?_set] at h1 h2
      have g1 : ∃ dj, ρ[j]? = some (.ow dj) := by
        by_cases hj : i = j
        · subst hj; exact ⟨d, hi⟩
        · rw [if_neg hj] at h1; exact ⟨dj, h1⟩
      have g2 : ∃ dk, ρ[k]? = some (.ow dk) := by
        by_cases hk : i = k
        · subst hk; exact ⟨d, hi⟩
        · rw [if_neg hk] at h2; exact ⟨dk, h2⟩
      obtain ⟨e1, g1⟩ := g1
      obtain ⟨e2, g2⟩ := g2
      exact E.sep j k e1 e2 b g1 g2 h3 h4
    tp := fun j h => by
      rw [List.getElem?_set] at h
      by_cases hj : i = j
      · rw [if_pos hj] at h; split at h <;> cases h
      · rw [if_neg hj] at h; exact E.tp j h
    tok := E.tok.go (S := fun b => b = p) x' (fun b z _ => by subst z; exact ⟨oa, ta⟩) (fun _ z => .inl z) E.tO
    tb := E.tb
    dom := fun b z => by
      by_cases h : b = p
      · rw [h, upd_same]; simp
      · rw [upd_ne h]; exact E.dom b z
    gb := E.gb
    gd := E.gd
    gk := fun b u' h n => by
      have h1 := E.gk b u' h n
      have hne : b ≠ p := fun z => by rw [z, ga] at h; cases h
      rw [upd_ne hne]; exact h1 }
theorem ss_app {i : Nat} {x : Str} {px : Pos} (he : SE X e fa) (hN : X.N[i]? = some x := by rfl) (hv : Vis X.env.scope x := by first | exact Or.inl rfl | exact Or.inr (Or.inl rfl) | exact Or.inr (Or.inr rfl)) (hd : (x == ("__debug__" : Str)) = false := by decide) (hcd : (x == ("__classdict__" : Str)) = false := by decide)
    (hbase : attributeBase (.Name x px) "append" X.env (eval (.Name x px) X.env) = eval (.Name x px) X.env := by rfl)
    (hfew : ((backTo cpos (starEach [e] X.env)).all (fun x => !x.1) && (backToKw cpos (keywordEach [] X.env)).all (fun x => x.1.isSome) && decide ([e].length + ([] : List Keyword).length + (if ([] : List Keyword).isEmpty then 0 else 1) < 30)) = true := by rfl)
    (hline : (apos.endLine == cpos.line) = true := by rfl) (hst : starEach [e] X.env = (false, eval e X.env) :: starEach [] X.env := by rfl) (hplain : (backTo cpos (starEach [] X.env)).any (·.1) = false := by rfl)
    (hs : swapsWith (.Call (.Attribute (.Name x px) "append" apos) [e] [] cpos) none pos.line X.env = pure false := by rfl) :
    SS X (.Expr (.Call (.Attribute (.Name x px) "append" apos) [e] [] cpos) pos) (sApp i fa) := ⟨PS.imp (ps_expr (pe_bm PySem.F.plainAttrs_list PySem.F.slot_list_append PySem.F.type_list_append mt_append (pe_var hN hv hd hcd) (sa_cons he sa_nil hst).pe hbase hfew hline hst hplain) hs) fun D σ H ⟨G, B, O, τ, ρ, T, fl, T', E, hf, q⟩ => by
  unfold sApp at hf
  split at hf
  · cases hf
  rename_i d T1 h1
  split at hf
  · rename_i ds h2
    split at hf
    · rename_i h3
      cases hf
      obtain ⟨a, ea, oa, nb, gaa, ta, tt⟩ := E.ow i _ h2
      cases tt with
      | @lst xs _ hp r =>
        refine ⟨_, ea, .inl ⟨rfl, xs, .of hp⟩, G, B, O, τ, ρ, T, [d], T', E, by simp only [aCons, aNil, h1], fun vs H1 x t rv => ?_⟩
        have E1 := E.step x t
        have hp1 : H1 a = some (.lst xs) := x _ _ hp (.inl ta)
        cases rv with
        | @cons v _ _ _ rv rr =>
          cases rr
          have r1 := r.go x (fun a z _ => E.tO a z) (fun _ z => .inl z)
          refine ⟨a, xs, v, rfl, rfl, hp1, by rw [r.length, line24_eq]; exact Nat.blt_eq.mp h3, ?_⟩
          have xw : Xt O H1 (upd H1 a (.lst (xs ++ [v]))) := Xt.wr oa hp1 id
          obtain ⟨af, E2⟩ := E1.change (o := .lst (xs ++ [v])) (d' := .list (ds ++ [d])) h2 ea hp1 id (.lst upd_same ((RepL.app rv r1).go xw (fun _ z _ => z) fun _ z => .inl z))
          exact q σ _ O ((E.aft x).tr af) E2
    · cases hf
  · cases hf⟩

/-! ### built-in functions -/
def q1 (g : D → Option D) : List D → Option D
  | [d] => g d
  | _ => none
theorem rbl1 {K : PySem.W.Frag} {O : OS} {H : Hp} {xs : List V} {d : D} (h : RepBL K O H xs [d]) : ∃ v, xs = [v] ∧ RepB K O H v d := by
  cases h with
  | cons r q => cases q; exact ⟨_, rfl, r⟩
theorem rbl2 {K : PySem.W.Frag} {O : OS} {H : Hp} {xs : List V} {d d' : D} (h : RepBL K O H xs [d, d']) : ∃ v w, xs = [v, w] ∧ RepB K O H v d ∧ RepB K O H w d' := by
  cases h with
  | cons r q =>
    cases q with
    | cons r' q' => cases q'; exact ⟨_, _, rfl, r, r'⟩
def qLen : List D → Option D := q1 fun d => match d with
  | .list ds => some (.int ds.length)
  | .tuple ds => some (.int ds.length)
  | .str z => if z.length.ble line24 then some (.int z.length) else none
  | .dict es => if isK es then none else some (.int es.length)
  | _ => none
theorem call_lenR : CallR X (.builtin "len") (fun xs H Q => (∃ a kvs, xs = [V.ref a] ∧ Rd H a (.dK kvs) ∧ Q (.int kvs.length) H) ∨ ∃ a kvs, xs = [V.ref a] ∧ Rd H a (.dT kvs) ∧ Q (.int kvs.length) H) := by
  intro pins s σ H xs us Q I r h
  rcases h with ⟨a, kvs, rfl, ha, q⟩ | ⟨a, kvs, rfl, ha, q⟩
  · obtain ⟨u, rfl, ru⟩ := vals1 r
    cases ru
    exact d_len I ha fun t s' I' => ⟨.int kvs.length, H, I', ⟨t, rfl⟩, q⟩
  · obtain ⟨u, rfl, ru⟩ := vals1 r
    cases ru
    obtain ⟨z, hd, ys, rel, dd⟩ := dt_rd I.hok ha
    have hl : kvs.length = ys.length := Paired.length rel
    refine call_len_dictH hd dd (by rw [← hl]; rw [sizeLine_eq] at z; omega) ?_
    rw [← hl]
    exact ⟨.int ((kvs.length : Nat) : Int), H, I.tok _, ⟨_, rfl⟩, q⟩
theorem call_lenA : CallR X (.builtin "len") (fun xs H Q => ((∃ p ys, xs = [.ref p] ∧ (SqL X.K H p ys ∨ SqT X.K H p ys) ∧ Q (.int ys.length) H) ∨ (∃ z, xs = [.str z] ∧ z.length ≤ sizeLine ∧ Q (.int z.length) H)) ∨ ((∃ a kvs, xs = [V.ref a] ∧ Rd H a (.dK kvs) ∧ Q (.int kvs.length) H) ∨ ∃ a kvs, xs = [V.ref a] ∧ Rd H a (.dT kvs) ∧ Q (.int kvs.length) H)) := (call_len_seq.or call_len_str).or call_lenR
end
end Dv

/-! Dv13: built-in functions and methods. -/
namespace Dv
open PySem PySem.Spec PyProof.Rows L2
section
variable {K : PySem.W.Frag}
theorem q1_some {g : D → Option D} {ds : List D} {d : D} (h : q1 g ds = some d) : ∃ x, ds = [x] ∧ g x = some d := by
  unfold q1 at h
  split at h
  · exact ⟨_, rfl, h⟩
  · cases h
theorem on1 {r : List V → Hp → VK → Prop} {g : D → Option D} (h : ∀ (O : OS) (H : Hp) (v : V) (x d : D) (Q : VK), (∀ a, O a → H a ≠ none) → RepB K O H v x → g x = some d → (∀ w H', Gr H H' → Rep K O H' w d → Q w H') → r [v] H Q) : OpN K r (q1 g) := fun O H xs ds d Q hd r hg q => by
  obtain ⟨x, rfl, hx⟩ := q1_some hg
  obtain ⟨v, rfl, rv⟩ := rbl1 r
  exact h O H v x d Q hd rv hx q
theorem onn1 {r : List V → Hp → VK → Prop} {g : D → Option D} (h : ∀ (O : OS) (H : Hp) (v : V) (x d : D) (Q : VK), (∀ a, O a → H a ≠ none) → RepB K O H v x → g x = some d → (∀ p o, H p = none → Top K (addO O p) (upd H p o) p d → Q (.ref p) (upd H p o)) → r [v] H Q) : OpNN K r (q1 g) := fun O H xs ds d Q hd r hg q => by
  obtain ⟨x, rfl, hx⟩ := q1_some hg
  obtain ⟨v, rfl, rv⟩ := rbl1 r
  exact h O H v x d Q hd rv hx q
theorem rl_new {O : OS} {H : Hp} {p : Addr} {o : HO} {xs : List V} {ds : List D} (hp : H p = none) (r : RepL K O H xs ds) : RepL K (addO O p) (upd H p o) xs ds := r.go (Gr.new hp) (fun _ z _ => z.elim) (addO_new hp)
theorem rl_gr {O : OS} {H H' : Hp} {xs : List V} {ds : List D} (g : Gr H H') (r : RepL K O H xs ds) : RepL K O H' xs ds := r.go g (fun _ z _ => z.elim) fun _ z => .inl z
end
section
variable {X : Cx} {tg a b e o : Expr} {es : List Expr} {fa fb fo : FE} {ga : FA} {p pos cpos apos : Pos}
theorem on_len : OpN X.K (fun xs H Q => ((∃ p ys, xs = [.ref p] ∧ (SqL X.K H p ys ∨ SqT X.K H p ys) ∧ Q (.int ys.length) H) ∨ (∃ z, xs = [.str z] ∧ z.length ≤ sizeLine ∧ Q (.int z.length) H)) ∨ ((∃ a kvs, xs = [V.ref a] ∧ Rd H a (.dK kvs) ∧ Q (.int kvs.length) H) ∨ ∃ a kvs, xs = [V.ref a] ∧ Rd H a (.dT kvs) ∧ Q (.int kvs.length) H)) qLen := on1 fun O H v x d Q hd rv hx q => by
  split at hx
  · cases hx
    obtain ⟨p, xs, rfl, hp, rp⟩ := rb_list rv
    exact .inl (.inl ⟨p, xs, rfl, .inl (.of hp), by rw [rp.length]; exact q _ H (Xt.refl H) (.int _)⟩)
  · cases hx
    obtain ⟨p, xs, rfl, hp, rp⟩ := rb_tup rv
    exact .inl (.inl ⟨p, xs, rfl, .inr (.inl hp), by rw [rp.length]; exact q _ H (Xt.refl H) (.int _)⟩)
  · split at hx
    · rename_i hl
      cases hx
      exact .inl (.inr ⟨_, by rw [rb_str rv], by rw [line24_eq]; exact Nat.le_of_ble_eq_true hl, q _ H (Xt.refl H) (.int _)⟩)
    · cases hx
  · split at hx
    · cases hx
    rename_i hk
    have hk := eq_false_of_ne_true hk
    cases hx
    obtain ⟨p, rfl, ⟨kvs, hp, rp⟩ | ⟨kvs, hp, rp⟩⟩ := rb_dict hk rv
    · exact .inr (.inl ⟨p, kvs, rfl, hp, by rw [rp.length]; exact q _ H (Xt.refl H) (.int _)⟩)
    · exact .inr (.inr ⟨p, kvs, rfl, hp, by rw [rp.length]; exact q _ H (Xt.refl H) (.int _)⟩)
  · cases hx
theorem se_len (hm : X.mg "len" = none) (ha : SAB X (e :: es) ga) (hg : Gl X "len" := by rfl) (he : starEach (e :: es) X.env = (false, eval e X.env) :: starEach es X.env := by rfl) (hpl : (backTo pos (starEach es X.env)).any (·.1) = false := by rfl) : SE X (.Call (.Name "len" p) (e :: es) [] pos) (eCall qLen ga) :=
  se_callB call_lenA on_len hm ha boot_len hg (by decide) (by decide) he hpl
def qAll : List D → Option D := q1 fun d => match d with
  | .list ds => match boolsD ds with
    | none => none
    | some bs => some (.bool (bs.all id))
  | _ => none
theorem se_all (hc : X.calm = true) (hm : X.mg "all" = none) (ha : SAB X (e :: es) ga) (hg : Gl X "all" := by rfl) (he : starEach (e :: es) X.env = (false, eval e X.env) :: starEach es X.env := by rfl) (hpl : (backTo pos (starEach es X.env)).any (·.1) = false := by rfl) : SE X (.Call (.Name "all" p) (e :: es) [] pos) (eCall qAll ga) :=
  se_callB (cr_all hc) (on1 fun O H v x d Q hd rv hx q => by
    split at hx
    · split at hx
      · cases hx
      rename_i bs h2
      cases hx
      obtain ⟨p, xs, rfl, hp, rp⟩ := rb_list rv
      rw [rl_bools rp h2] at hp
      exact ⟨p, bs, rfl, .of hp, q _ H (Xt.refl H) (.bl _)⟩
    · cases hx) hm ha (by decide +kernel) hg (by decide) (by decide) he hpl
def qAny : List D → Option D := q1 fun d => match d with
  | .list ds => match boolsD ds with
    | none => none
    | some bs => some (.bool (bs.any id))
  | _ => none
theorem se_any (hc : X.calm = true) (hm : X.mg "any" = none) (ha : SAB X (e :: es) ga) (hg : Gl X "any" := by rfl) (he : starEach (e :: es) X.env = (false, eval e X.env) :: starEach es X.env := by rfl) (hpl : (backTo pos (starEach es X.env)).any (·.1) = false := by rfl) : SE X (.Call (.Name "any" p) (e :: es) [] pos) (eCall qAny ga) :=
  se_callB (cr_any hc) (on1 fun O H v x d Q hd rv hx q => by
    split at hx
    · split at hx
      · cases hx
      rename_i bs h2
      cases hx
      obtain ⟨p, xs, rfl, hp, rp⟩ := rb_list rv
      rw [rl_bools rp h2] at hp
      exact ⟨p, bs, rfl, .of hp, q _ H (Xt.refl H) (.bl _)⟩
    · cases hx) hm ha (by decide +kernel) hg (by decide) (by decide) he hpl
def qSum : List D → Option D := q1 fun d => match d with
  | .list ds => match intsD ds with
    | none => none
    | some bs => some (.int bs.sum)
  | _ => none
theorem se_sum (hc : X.calm = true) (hm : X.mg "sum" = none) (ha : SAB X (e :: es) ga) (hg : Gl X "sum" := by rfl) (he : starEach (e :: es) X.env = (false, eval e X.env) :: starEach es X.env := by rfl) (hpl : (backTo pos (starEach es X.env)).any (·.1) = false := by rfl) : SE X (.Call (.Name "sum" p) (e :: es) [] pos) (eCall qSum ga) :=
  se_callB (cr_sum hc) (on1 fun O H v x d Q hd rv hx q => by
    split at hx
    · split at hx
      · cases hx
      rename_i bs h2
      cases hx
      obtain ⟨p, xs, rfl, hp, rp⟩ := rb_list rv
      rw [rl_ints rp h2] at hp
      exact ⟨p, bs, rfl, .of hp, q _ H (Xt.refl H) (.int _)⟩
    · cases hx) hm ha (by decide +kernel) hg (by decide) (by decide) he hpl
/-- the greatest, the least of ints -/
def mxL : Int → List Int → Int
  | m, [] => m
  | m, x :: r => mxL (if m < x then x else m) r
def mnL : Int → List Int → Int
  | m, [] => m
  | m, x :: r => mnL (if x < m then x else m) r
theorem mxL_spec : ∀ (r : List Int) (m : Int), (mxL m r = m ∨ mxL m r ∈ r) ∧ m ≤ mxL m r ∧ ∀ y ∈ r, y ≤ mxL m r
  | [], m => ⟨.inl rfl, Int.le_refl _, fun _ h => by cases h⟩
  | x :: r, m => by
    have h := mxL_spec r (if m < x then x else m)
    unfold mxL
    by_cases c : m < x
    · rw [if_pos c] at h ⊢
      refine ⟨.inr ?_, by omega, fun y hy => ?_⟩
      · rcases h.1 with z | z
        · rw [z]; exact List.mem_cons_self
        · exact List.mem_cons_of_mem _ z
      · rcases List.mem_cons.mp hy with z | z
        · rw [z]; exact h.2.1
        · exact h.2.2 y z
    · rw [if_neg c] at h ⊢
      refine ⟨h.1.imp id fun z => List.mem_cons_of_mem _ z, h.2.1, fun y hy => ?_⟩
      rcases List.mem_cons.mp hy with z | z
      · rw [z]; omega
      · exact h.2.2 y z
theorem mnL_spec : ∀ (r : List Int) (m : Int), (mnL m r = m ∨ mnL m r ∈ r) ∧ mnL m r ≤ m ∧ ∀ y ∈ r, mnL m r ≤ y
  | [], m => ⟨.inl rfl, Int.le_refl _, fun _ h => by cases h⟩
  | x :: r, m => by
    have h := mnL_spec r (if x < m then x else m)
    unfold mnL
    by_cases c : x < m
    · rw [if_pos c] at h ⊢
      refine ⟨.inr ?_, by omega, fun y hy => ?_⟩
      · rcases h.1 with z | z
        · rw [z]; exact List.mem_cons_self
        · exact List.mem_cons_of_mem _ z
      · rcases List.mem_cons.mp hy with z | z
        · rw [z]; exact h.2.1
        · exact h.2.2 y z
    · rw [if_neg c] at h ⊢
      refine ⟨h.1.imp id fun z => List.mem_cons_of_mem _ z, h.2.1, fun y hy => ?_⟩
      rcases List.mem_cons.mp hy with z | z
      · rw [z]; omega
      · exact h.2.2 y z
def qMax : List D → Option D
  | [.int i, .int j] => some (.int (if j > i then j else i))
  | [.list ds] => match intsD ds with
    | some (m :: r) => some (.int (mxL m r))
    | _ => none
  | _ => none
def qMin : List D → Option D
  | [.int i, .int j] => some (.int (if j < i then j else i))
  | [.list ds] => match intsD ds with
    | some (m :: r) => some (.int (mnL m r))
    | _ => none
  | _ => none
theorem on_max : OpN X.K (fun xs H Q => (∃ i j, xs = [.int i, .int j] ∧ Q (.int (if j > i then j else i)) H) ∨ rMax X.K xs H Q) qMax := fun O H xs ds d Q hd r hg q => by
  unfold qMax at hg
  split at hg
  · cases hg
    obtain ⟨v, w, rfl, r1, r2⟩ := rbl2 r
    exact .inl ⟨_, _, by rw [rb_int r1, rb_int r2], q _ H (Xt.refl H) (.int _)⟩
  · split at hg
    · rename_i m s h2
      cases hg
      obtain ⟨v, rfl, rv⟩ := rbl1 r
      obtain ⟨p, xs, rfl, hp, rp⟩ := rb_list rv
      rw [rl_ints rp h2] at hp
      refine .inr ⟨p, m :: s, rfl, .of hp, Nat.succ_pos _, fun k hk hy => ?_⟩
      have sp := mxL_spec s m
      have h1 : k ≤ mxL m s := by
        rcases List.mem_cons.mp hk with z | z
        · rw [z]; exact sp.2.1
        · exact sp.2.2 k z
      have h2 : mxL m s ≤ k := by
        rcases sp.1 with z | z
        · rw [z]; exact hy m List.mem_cons_self
        · exact hy _ (List.mem_cons_of_mem _ z)
      rw [Int.le_antisymm h1 h2]
      exact q _ H (Xt.refl H) (.int _)
    · cases hg
  · cases hg
theorem on_min : OpN X.K (fun xs H Q => (∃ i j, xs = [.int i, .int j] ∧ Q (.int (if j < i then j else i)) H) ∨ rMin X.K xs H Q) qMin := fun O H xs ds d Q hd r hg q => by
  unfold qMin at hg
  split at hg
  · cases hg
    obtain ⟨v, w, rfl, r1, r2⟩ := rbl2 r
    exact .inl ⟨_, _, by rw [rb_int r1, rb_int r2], q _ H (Xt.refl H) (.int _)⟩
  · split at hg
    · rename_i m s h2
      cases hg
      obtain ⟨v, rfl, rv⟩ := rbl1 r
      obtain ⟨p, xs, rfl, hp, rp⟩ := rb_list rv
      rw [rl_ints rp h2] at hp
      refine .inr ⟨p, m :: s, rfl, .of hp, Nat.succ_pos _, fun k hk hy => ?_⟩
      have sp := mnL_spec s m
      have h1 : mnL m s ≤ k := by
        rcases List.mem_cons.mp hk with z | z
        · rw [z]; exact sp.2.1
        · exact sp.2.2 k z
      have h2 : k ≤ mnL m s := by
        rcases sp.1 with z | z
        · rw [z]; exact hy m List.mem_cons_self
        · exact hy _ (List.mem_cons_of_mem _ z)
      rw [Int.le_antisymm h2 h1]
      exact q _ H (Xt.refl H) (.int _)
    · cases hg
  · cases hg
theorem se_max (hc : X.calm = true) (hm : X.mg "max" = none) (ha : SAB X (e :: es) ga) (hg : Gl X "max" := by rfl) (he : starEach (e :: es) X.env = (false, eval e X.env) :: starEach es X.env := by rfl) (hpl : (backTo pos (starEach es X.env)).any (·.1) = false := by rfl) : SE X (.Call (.Name "max" p) (e :: es) [] pos) (eCall qMax ga) :=
  se_callB ((call_max2 hc).or (cr_max hc)) on_max hm ha (by decide +kernel) hg (by decide) (by decide) he hpl
theorem se_min (hc : X.calm = true) (hm : X.mg "min" = none) (ha : SAB X (e :: es) ga) (hg : Gl X "min" := by rfl) (he : starEach (e :: es) X.env = (false, eval e X.env) :: starEach es X.env := by rfl) (hpl : (backTo pos (starEach es X.env)).any (·.1) = false := by rfl) : SE X (.Call (.Name "min" p) (e :: es) [] pos) (eCall qMin ga) :=
  se_callB ((call_min2 hc).or (cr_min hc)) on_min hm ha (by decide +kernel) hg (by decide) (by decide) he hpl
def qAbs : List D → Option D := q1 fun d => match d with
  | .int i => some (.int (if i < 0 then -i else i))
  | _ => none
theorem se_abs (hm : X.mg "abs" = none) (ha : SAB X (e :: es) ga) (hg : Gl X "abs" := by rfl) (he : starEach (e :: es) X.env = (false, eval e X.env) :: starEach es X.env := by rfl) (hpl : (backTo pos (starEach es X.env)).any (·.1) = false := by rfl) : SE X (.Call (.Name "abs" p) (e :: es) [] pos) (eCall qAbs ga) :=
  se_callB call_abs (on1 fun O H v x d Q hd rv hx q => by
    split at hx
    · cases hx
      exact ⟨_, by rw [rb_int rv], q _ H (Xt.refl H) (.int _)⟩
    · cases hx) hm ha (by decide +kernel) hg (by decide) (by decide) he hpl
/-- int(n), int(True), int of one digit -/
def digD : List Nat → Option Int
  | [c] => if Nat.ble 48 c && Nat.ble c 57 then some ((c - 48 : Nat) : Int) else none
  | _ => none
theorem digD_text {x : Str} {n : Int} (h : digD (cps x) = some n) : PySem.intText? x = some n ∧ x.length ≤ 640 := by
  unfold digD at h
  split at h
  · rename_i c e
    split at h
    · rename_i hc
      cases h
      rw [Bool.and_eq_true] at hc
      have h1 := Nat.le_of_ble_eq_true hc.1
      have h2 := Nat.le_of_ble_eq_true hc.2
      have ex : x = S [c] := by rw [← S_cps x, e]
      subst ex
      refine ⟨?_, by rw [len_S]; show 1 ≤ 640; decide⟩
      have all : ∀ k : Fin 10, PySem.intText? (S [48 + k.val]) = some ((48 + k.val - 48 : Nat) : Int) := by decide +kernel
      have := all ⟨c - 48, by omega⟩
      rw [show 48 + (c - 48) = c by omega] at this
      exact this
    · cases h
  · cases h
def qInt : List D → Option D := q1 fun d => match d with
  | .int i => some (.int i)
  | .bool b => some (.int (if b then 1 else 0))
  | .str z => match digD (cps z) with
    | none => none
    | some n => some (.int n)
  | _ => none
theorem se_int1 (hm : X.mg "int" = none) (ha : SAB X (e :: es) ga) (hg : Gl X "int" := by rfl) (he : starEach (e :: es) X.env = (false, eval e X.env) :: starEach es X.env := by rfl) (hpl : (backTo pos (starEach es X.env)).any (·.1) = false := by rfl) : SE X (.Call (.Name "int" p) (e :: es) [] pos) (eCall qInt ga) :=
  se_callTy (call_int1.or call_int_str) (on1 fun O H v x d Q hd rv hx q => by
    split at hx
    · cases hx
      exact .inl (.inl ⟨_, by rw [rb_int rv], q _ H (Xt.refl H) (.int _)⟩)
    · cases hx
      exact .inl (.inr ⟨_, by rw [rb_bl rv], q _ H (Xt.refl H) (.int _)⟩)
    · split at hx
      · cases hx
      rename_i n h2
      cases hx
      obtain ⟨h3, h4⟩ := digD_text h2
      exact .inr ⟨_, n, by rw [rb_str rv], h3, h4, q _ H (Xt.refl H) (.int _)⟩
    · cases hx) hm ha (by decide +kernel) hg (by decide) (by decide) he hpl
/-- str of one digit -/
def qStr : List D → Option D := q1 fun d => match d with
  | .int i => if decide (0 ≤ i) && decide (i < 10) then some (.str (S [48 + i.toNat])) else none
  | _ => none
theorem str_dig {i : Int} (h0 : 0 ≤ i) (h1 : i < 10) : (toString i : Str) = S [48 + i.toNat] := by
  have all : ∀ k : Fin 10, (toString ((k.val : Nat) : Int) : Str) = S [48 + k.val] := by decide +kernel
  have := all ⟨i.toNat, by omega⟩
  rw [show ((i.toNat : Nat) : Int) = i by omega] at this
  exact this
theorem se_str1 (hm : X.mg "str" = none) (ha : SAB X (e :: es) ga) (hg : Gl X "str" := by rfl) (he : starEach (e :: es) X.env = (false, eval e X.env) :: starEach es X.env := by rfl) (hpl : (backTo pos (starEach es X.env)).any (·.1) = false := by rfl) : SE X (.Call (.Name "str" p) (e :: es) [] pos) (eCall qStr ga) :=
  se_callTy call_str_int (on1 fun O H v x d Q hd rv hx q => by
    split at hx
    · split at hx
      · rename_i c
        cases hx
        rw [Bool.and_eq_true, decide_eq_true_eq, decide_eq_true_eq] at c
        refine ⟨_, by rw [rb_int rv], ?_, ?_⟩
        · have lg : ∀ (k : Nat), k < 10 → k.log2 < 1920 := fun k hk => (by decide +kernel : ∀ k : Fin 10, k.val.log2 < 1920) ⟨k, hk⟩
          exact lg _ (by omega)
        · rw [str_dig c.1 c.2]
          exact q _ H (Xt.refl H) (.str _)
      · cases hx
    · cases hx) hm ha (by decide +kernel) hg (by decide) (by decide) he hpl
/-- tuple(list), tuple(tuple): a value -/
def qTuple : List D → Option D := q1 fun d => match d with
  | .list ds => some (.tuple ds)
  | .tuple ds => some (.tuple ds)
  | _ => none
theorem se_tuple (hm : X.mg "tuple" = none) (ha : SAB X (e :: es) ga) (hg : Gl X "tuple" := by rfl) (he : starEach (e :: es) X.env = (false, eval e X.env) :: starEach es X.env := by rfl) (hpl : (backTo pos (starEach es X.env)).any (·.1) = false := by rfl) : SE X (.Call (.Name "tuple" p) (e :: es) [] pos) (eCall qTuple ga) :=
  se_callTy call_tupleC (on1 fun O H v x d Q hd rv hx q => by
    split at hx
    · rename_i as
      cases hx
      obtain ⟨p, xs, rfl, hp, rp⟩ := rb_list rv
      exact ⟨p, xs, rfl, .inl ⟨pinned as, .of hp, fun l u hl tc => q _ _ (Gr.new hl) (.tup upd_same tc (rl_gr (Gr.new hl) rp))⟩⟩
    · cases hx
      obtain ⟨p, xs, rfl, hp, rp⟩ := rb_tup rv
      exact ⟨p, xs, rfl, .inr ⟨.inl hp, q _ H (Xt.refl H) (rb_tupR rv)⟩⟩
    · cases hx) hm ha (by decide +kernel) hg (by decide) (by decide) he hpl
/-- list(list), list(tuple): a new one -/
def qList : List D → Option D := q1 fun d => match d with
  | .list ds => some (.list ds)
  | .tuple ds => some (.list ds)
  | _ => none
theorem sn_list (hm : X.mg "list" = none) (ha : SAB X (e :: es) ga) (hg : Gl X "list" := by rfl) (he : starEach (e :: es) X.env = (false, eval e X.env) :: starEach es X.env := by rfl) (hpl : (backTo pos (starEach es X.env)).any (·.1) = false := by rfl) : SN X (.Call (.Name "list" p) (e :: es) [] pos) (eCall qList ga) :=
  sn_callTy call_list_of (onn1 fun O H v x d Q hd rv hx q => by
    split at hx
    · cases hx
      obtain ⟨p, xs, rfl, hp, rp⟩ := rb_list rv
      exact ⟨p, xs, rfl, .inl (.of hp), fun l hl => q _ _ hl (.lst upd_same (rl_new hl rp))⟩
    · cases hx
      obtain ⟨p, xs, rfl, hp, rp⟩ := rb_tup rv
      exact ⟨p, xs, rfl, .inr (.inl hp), fun l hl => q _ _ hl (.lst upd_same (rl_new hl rp))⟩
    · cases hx) hm ha (by decide +kernel) hg (by decide) (by decide) he hpl
end
end Dv

/-! Dv14: texts: join, count, in; dicts by comprehension; reversed. -/
namespace Dv
open PySem PySem.Spec PyProof.Rows L2
/-- is y within x -/
def subIn (y : List Nat) : List Nat → Bool
  | [] => y.isEmpty
  | c :: r => y.isPrefixOf (c :: r) || subIn y r
theorem subIn_iff (y : List Nat) : ∀ x : List Nat, subIn y x = true ↔ ∃ i, i ≤ x.length ∧ (x.drop i).take y.length = y
  | [] => by
    unfold subIn
    rw [List.isEmpty_iff]
    constructor
    · intro h; subst h; exact ⟨0, Nat.le_refl _, rfl⟩
    · rintro ⟨i, _, h⟩
      rw [List.drop_nil, List.take_nil] at h
      exact h.symm
  | c :: r => by
    unfold subIn
    rw [Bool.or_eq_true, List.isPrefixOf_iff_prefix, subIn_iff y r]
    constructor
    · rintro (⟨t, ht⟩ | ⟨i, h1, h2⟩)
      · exact ⟨0, Nat.zero_le _, by rw [List.drop_zero, ← ht, List.take_left]⟩
      · exact ⟨i + 1, Nat.succ_le_succ h1, by rw [List.drop_succ_cons]; exact h2⟩
    · rintro ⟨i, h1, h2⟩
      cases i with
      | zero =>
        refine .inl ⟨(c :: r).drop y.length, ?_⟩
        rw [List.drop_zero] at h2
        rw [← h2, List.length_take]
        have e : min y.length (c :: r).length = y.length ∨ y.length ≤ (c :: r).length ∨ (c :: r).length < y.length := by omega
        by_cases hl : y.length ≤ (c :: r).length
        · rw [Nat.min_eq_left hl, List.take_append_drop]
        · have : ((c :: r).take y.length).length = y.length := by rw [h2]
          rw [List.length_take] at this
          omega
      | succ i => exact .inr ⟨i, Nat.le_of_succ_le_succ h1, by rw [List.drop_succ_cons] at h2; exact h2⟩
theorem found_sub (x y : Str) : (!(Builtin.Str.occurrences x y 0 x.length 1).isEmpty) = subIn (cps y) (cps x) := by
  rw [Bool.eq_iff_iff, StrLaws.found_iff, subIn_iff]
  constructor
  · rintro ⟨i, h1, h2⟩
    rw [StrLaws.subAt_eq, beq_iff_eq] at h2
    rw [len_cps, len_cps] at h1
    exact ⟨i, by omega, by rw [← len_cps]; exact h2⟩
  · rintro ⟨i, h1, h2⟩
    have hl : ((cps x).drop i).take (cps y).length = cps y := h2
    have h3 : (((cps x).drop i).take (cps y).length).length = (cps y).length := by rw [hl]
    rw [List.length_take, List.length_drop] at h3
    refine ⟨i, by rw [len_cps, len_cps]; omega, ?_⟩
    rw [StrLaws.subAt_eq, beq_iff_eq, len_cps]
    exact h2
/-- how often a sign stands in a text -/
theorem occ_count (x : Str) (c : Nat) (lim : Nat) : ∀ (n a : Nat) (st : Array Nat × Nat), a + n = x.length → st.2 ≤ a → st.1.size + n ≤ lim →
    (forIn (List.range' a (n + 1)) st (StrLaws.occBody x ⟨#[c]⟩ x.length lim)).run.fst.size = st.1.size + ((cps x).drop a).countP (· == c) := by
  intro n
  induction n with
  | zero =>
    intro a st ha hs hl
    have e : (cps x).drop a = [] := List.drop_eq_nil_of_le (by rw [← len_cps]; omega)
    rw [e, List.range'_succ, List.range'_zero, List.forIn_cons]
    unfold StrLaws.occBody
    rw [if_neg]
    · rfl
    · rintro ⟨⟨_, h⟩, _⟩
      have : (⟨#[c]⟩ : Str).length = 1 := rfl
      omega
  | succ n ih =>
    intro a st ha hs hl
    have hlt : a < (cps x).length := by rw [← len_cps]; omega
    rw [List.range'_succ, List.forIn_cons, List.drop_eq_getElem_cons hlt, List.countP_cons]
    unfold StrLaws.occBody
    have l1 : (⟨#[c]⟩ : Str).length = 1 := rfl
    by_cases hc : (cps x)[a] = c
    · have hsub : Builtin.Str.subAt x ⟨#[c]⟩ a = true := ((StrLaws.subAt_one x c a).mpr (by rw [← hc]; exact List.getElem?_eq_getElem hlt)).2
      rw [if_pos ⟨⟨⟨by omega, hs⟩, by omega⟩, hsub⟩]
      have := ih (a + 1) (st.1.push a, a + 1) (by omega) (Nat.le_refl _) (by rw [Array.size_push]; omega)
      rw [if_pos (by rw [beq_iff_eq]; exact hc)]
      rw [Array.size_push] at this
      refine Eq.trans this ?_
      omega
    · have hsub : ¬ Builtin.Str.subAt x ⟨#[c]⟩ a = true := fun h => by
        have := (StrLaws.subAt_one x c a).mp ⟨by omega, h⟩
        have e2 : (cps x)[a]? = some (cps x)[a] := List.getElem?_eq_getElem hlt
        have e3 : (cps x)[a]? = some c := this
        rw [e2] at e3
        exact hc (Option.some.inj e3)
      rw [if_neg fun h => hsub h.2, if_neg (by rw [beq_iff_eq]; exact hc)]
      have := ih (a + 1) st (by omega) (Nat.le_succ_of_le hs) (by omega)
      refine Eq.trans this ?_
      rfl
theorem count_sign (x : Str) (c : Nat) : Txt.count x ⟨#[c]⟩ = (((cps x).countP (· == c) : Nat) : Int) := by
  unfold Txt.count
  rw [StrLaws.occ_eq, Array.length_toList]
  have h := occ_count x c (x.length + 1) x.length 0 (#[], 0) (by omega) (Nat.le_refl _) (by show 0 + x.length ≤ _; omega)
  rw [Nat.sub_zero]
  rw [List.drop_zero] at h
  rw [h]
  show ((0 + _ : Nat) : Int) = _
  rw [Nat.zero_add]
theorem join_nil (ys : List Str) : Txt.join (S []) ys = S ((ys.map cps).flatten) := by
  have fold : ∀ (r : List Str) (acc : Array Nat), (r.foldl (fun acc p => acc ++ (S []).cps ++ p.cps) acc).toList = acc.toList ++ (r.map cps).flatten := by
    intro r
    induction r with
    | nil => intro acc; simp
    | cons y r ih => intro acc; rw [List.foldl_cons, ih]; simp [S, cps]
  unfold Txt.join
  cases ys with
  | nil => rfl
  | cons y r =>
    have h := fold r y.cps
    rw [← S_cps (Builtin.Str.glued (S []) (y :: r))]
    congr 1

section
variable {X : Cx} {tg a b e o : Expr} {es : List Expr} {fa fb fo : FE} {ga : FA} {p pos cpos apos : Pos}
/-- o.m(e, ..), o a text or list that is looked at -/
def eMeth (g : D → List D → Option D) (fo : FE) (ga : FA) : FE := fun ρ T => match fo ρ T with
  | none => none
  | some (x, T1) => match ga ρ T1 with
    | none => none
    | some (ds, T2) => match g x ds with
      | none => none
      | some d => some (d, T2)
def OpM (K : PySem.W.Frag) (T : String) (r : V → List V → Hp → VK → Prop) (g : D → List D → Option D) : Prop := ∀ (O : OS) (H : Hp) (v : V) (xs : List V) (x : D) (ds : List D) (d : D) (Q : VK), (∀ a, O a → H a ≠ none) → RepB K O H v x → RepBL K O H xs ds → g x ds = some d →
  (∀ w H', Gr H H' → Rep K O H' w d → Q w H') → r v xs H Q
/-- the receiver's type stands ahead of the arguments -/
def TyD (K : PySem.W.Frag) (T : String) (g : D → List D → Option D) : Prop := ∀ (O : OS) (H : Hp) (v : V) (x : D) (ds : List D) (d : D), RepB K O H v x → g x ds = some d → tyV K T v H
theorem tBM_of {K : PySem.W.Frag} {T : String} {r : V → List V → Hp → VK → Prop} {g : D → List D → Option D} (ht : TyD K T g) (ho : OpM K T r g) {σ : L2.St} {H : Hp} {Q : VK} (h : rdE K (eMeth g fo ga) σ H Q) : tBM K T r (rdB K fo) (rdAB K ga) σ H Q := by
  obtain ⟨G, B, O, τ, ρ, T, d, T', E, hf, q⟩ := h
  unfold eMeth at hf
  split at hf
  · cases hf
  rename_i x T1 h1
  split at hf
  · cases hf
  rename_i ds T2 h2
  split at hf
  · cases hf
  rename_i d' h3
  cases hf
  refine ⟨G, B, O, τ, ρ, T, x, T1, E, h1, fun v H1 x1 t1 r1 => ⟨ht O H1 v x ds d r1.b h3, G, B, O, τ, ρ, T1, ds, T', E.step x1 t1, h2, fun vs H2 x2 t2 r2 => ?_⟩⟩
  have E1 := E.step x1 t1
  exact ho O H2 v vs x ds d Q (E1.step x2 t2).dom (r1.step E1 x2).b r2 h3 fun w H' g' rw' => q w H' ((x1.tr x2).tr (g'.mono fun _ z => z.elim)) (t2.gr g') rw'
theorem se_meth {T id : String} {name : Str} {r : V → List V → Hp → VK → Prop} {g : D → List D → Option D} (pa : PlainAttrs T) (slot : Slot T name id) (hty : typeOf (.builtin id) = pure (.type "method_descriptor")) (hm : MtR X id r) (ht : TyD X.K T g) (hg : OpM X.K T r g)
    (ho : SB X o fo) (ha : SAB X (e :: es) ga) (hbase : attributeBase o name X.env (eval o X.env) = eval o X.env := by rfl)
    (hfew : ((backTo cpos (starEach (e :: es) X.env)).all (fun x => !x.1) && (backToKw cpos (keywordEach [] X.env)).all (fun x => x.1.isSome) && decide ((e :: es).length + ([] : List Keyword).length + (if ([] : List Keyword).isEmpty then 0 else 1) < 30)) = true := by rfl)
    (hline : (apos.endLine == cpos.line) = true := by rfl) (hs : starEach (e :: es) X.env = (false, eval e X.env) :: starEach es X.env := by rfl) (hplain : (backTo cpos (starEach es X.env)).any (·.1) = false := by rfl) :
    SE X (.Call (.Attribute o name apos) (e :: es) [] cpos) (eMeth g fo ga) := ⟨PE.imp (pe_bm pa slot hty hm ho.pe ha.pe hbase hfew hline hs hplain) fun σ H Q h => tBM_of ht hg h⟩
def qJoin (x : D) (ds : List D) : Option D := match x, ds with
  | .str z, [.list l] => if (cps z).isEmpty then match strsD l with
      | none => none
      | some ys => if (((ys.map cps).flatten).length).ble line24 then some (.str (S ((ys.map cps).flatten))) else none
    else none
  | _, _ => none
theorem sum_flat : ∀ ys : List Str, (ys.map (·.length)).sum = ((ys.map cps).flatten).length
  | [] => rfl
  | y :: r => by
    rw [List.map_cons, List.sum_cons, List.map_cons, List.flatten_cons, List.length_append, ← len_cps, sum_flat r]
theorem se_join (ho : SB X o fo) (ha : SAB X [e] ga) (hline : (apos.endLine == cpos.line) = true := by rfl) (hbase : attributeBase o "join" X.env (eval o X.env) = eval o X.env := by rfl)
    (hfew : ((backTo cpos (starEach [e] X.env)).all (fun x => !x.1) && (backToKw cpos (keywordEach [] X.env)).all (fun x => x.1.isSome) && decide ([e].length + ([] : List Keyword).length + (if ([] : List Keyword).isEmpty then 0 else 1) < 30)) = true := by rfl)
    (hs : starEach [e] X.env = (false, eval e X.env) :: starEach [] X.env := by rfl) (hplain : (backTo cpos (starEach [] X.env)).any (·.1) = false := by rfl) : SE X (.Call (.Attribute o "join" apos) [e] [] cpos) (eMeth qJoin fo ga) :=
  se_meth (T := "str") PySem.F.plainAttrs_str PySem.F.slot_str_join PySem.F.type_str_join mt_join (fun O H v x ds d r h => by
    unfold qJoin at h
    split at h
    · rw [rb_str r]; rfl
    · cases h) (fun O H v xs x ds d Q hd r rl h q => by
    unfold qJoin at h
    split at h
    · split at h
      · rename_i z l hz
        split at h
        · cases h
        rename_i ys h2
        split at h
        · rename_i h3
          cases h
          obtain ⟨w, rfl, rw'⟩ := rbl1 rl
          obtain ⟨p, xs, rfl, hp, rp⟩ := rb_list rw'
          rw [rl_strs rp h2] at hp
          have ez : z = S [] := by rw [← S_cps z, List.isEmpty_iff.mp hz]
          refine ⟨z, p, ys, rb_str r, rfl, .inl (.of hp), ?_, ?_⟩
          · rw [ez, sum_flat]
            have := Nat.le_of_ble_eq_true h3
            show _ + _ * 0 ≤ line24
            omega
          · rw [ez, join_nil]
            exact q _ H (Xt.refl H) (.str _)
        · cases h
      · cases h
    · cases h) ho ha hbase hfew hline hs hplain
def qCount (x : D) (ds : List D) : Option D := match x, ds with
  | .str z, [.str y] => match cps y with
    | [c] => some (.int (((cps z).countP (· == c) : Nat) : Int))
    | _ => none
  | _, _ => none
theorem se_count (ho : SB X o fo) (ha : SAB X [e] ga) (hline : (apos.endLine == cpos.line) = true := by rfl) (hbase : attributeBase o "count" X.env (eval o X.env) = eval o X.env := by rfl)
    (hfew : ((backTo cpos (starEach [e] X.env)).all (fun x => !x.1) && (backToKw cpos (keywordEach [] X.env)).all (fun x => x.1.isSome) && decide ([e].length + ([] : List Keyword).length + (if ([] : List Keyword).isEmpty then 0 else 1) < 30)) = true := by rfl)
    (hs : starEach [e] X.env = (false, eval e X.env) :: starEach [] X.env := by rfl) (hplain : (backTo cpos (starEach [] X.env)).any (·.1) = false := by rfl) : SE X (.Call (.Attribute o "count" apos) [e] [] cpos) (eMeth qCount fo ga) :=
  se_meth (T := "str") PySem.F.plainAttrs_str PySem.F.slot_str_count PySem.F.type_str_count mt_count (fun O H v x ds d r h => by
    unfold qCount at h
    split at h
    · rw [rb_str r]; rfl
    · cases h) (fun O H v xs x ds d Q hd r rl h q => by
    unfold qCount at h
    split at h
    · rename_i z y
      split at h
      · rename_i c e1
        cases h
        obtain ⟨w, rfl, rw'⟩ := rbl1 rl
        have ey : y = ⟨#[c]⟩ := by rw [← S_cps y, e1]; rfl
        refine ⟨z, y, rb_str r, by rw [rb_str rw'], ?_⟩
        rw [ey, count_sign]
        exact q _ H (Xt.refl H) (.int _)
      · cases h
    · cases h) ho ha hbase hfew hline hs hplain

/-! ### in -/
def flatD : D → Bool
  | .none => true
  | .bool _ => true
  | .int _ => true
  | .str _ => true
  | _ => false
def eqF : D → D → Bool
  | .none, .none => true
  | .bool a, .bool b => a == b
  | .bool a, .int b => (if a then 1 else 0) == b
  | .int a, .bool b => a == (if b then 1 else 0)
  | .int a, .int b => a == b
  | .str a, .str b => cps a == cps b
  | _, _ => false
def qIn (x y : D) : Option D := match y with
  | .str z => match x with
    | .str w => some (.bool (subIn (cps w) (cps z)))
    | _ => none
  | .list ds => if flatD x && ds.all flatD then some (.bool (ds.any fun d => eqF d x)) else none
  | .tuple ds => if flatD x && ds.all flatD then some (.bool (ds.any fun d => eqF d x)) else none
  | _ => none
theorem flat_of {K : PySem.W.Frag} {O : OS} {H : Hp} {v : V} {d : D} (r : Rep K O H v d) (h : flatD d = true) : flatV v = true := by cases r <;> first | rfl | cases h
theorem flatB_of {K : PySem.W.Frag} {O : OS} {H : Hp} {v : V} {d : D} (r : RepB K O H v d) (h : flatD d = true) : Rep K O H v d := by
  rcases r with r | ⟨p, _, r⟩
  · exact r
  · cases r <;> cases h
theorem eqF_of {K : PySem.W.Frag} {O O' : OS} {H : Hp} {v w : V} {d d' : D} (r : Rep K O H v d) (r' : Rep K O' H w d') (h : flatD d = true) (h' : flatD d' = true) : eqV v w = eqF d d' := by
  cases r <;> first | (cases h; done) | (cases r' <;> first | (cases h'; done) | rfl | exact str_beq _ _)
theorem flatL_of {K : PySem.W.Frag} {O : OS} {H : Hp} : ∀ {ds : List D} {vs : List V}, RepL K O H vs ds → ds.all flatD = true → vs.all flatV = true
  | [], _, .nil, _ => rfl
  | _ :: _, _, .cons r q, h => by
    rw [List.all_cons, Bool.and_eq_true] at h ⊢
    exact ⟨flat_of r h.1, flatL_of q h.2⟩
theorem inV_of {K : PySem.W.Frag} {O : OS} {H : Hp} {v : V} {d : D} (r : Rep K O H v d) (h : flatD d = true) : ∀ {ds : List D} {vs : List V}, RepL K O H vs ds → ds.all flatD = true → inV v vs = ds.any fun z => eqF z d
  | [], _, .nil, _ => rfl
  | _ :: _, _, .cons r' q, h' => by
    rw [List.all_cons, Bool.and_eq_true] at h'
    unfold inV
    rw [List.any_cons, List.any_cons, eqF_of r' r h'.1 h]
    have := inV_of r h q h'.2
    unfold inV at this
    rw [this]
theorem o2_in : Op2 X.K (fun x y H Q => (∃ i j, x = .str i ∧ y = .str j ∧ Q (.bl (!(Builtin.Str.occurrences j i 0 j.length 1).isEmpty)) H) ∨ rIn X.K false x y H Q) qIn := by
  intro O H x y dx dy d Q _ rx ry hg q
  unfold qIn at hg
  split at hg
  · split at hg
    · cases hg
      refine .inl ⟨_, _, rb_str rx, rb_str ry, ?_⟩
      rw [found_sub]
      exact q _ H (Xt.refl H) (.bl _)
    · cases hg
  · split at hg
    · rename_i c
      cases hg
      rw [Bool.and_eq_true] at c
      obtain ⟨p, xs, rfl, hp, rp⟩ := rb_list ry
      have r0 := flatB_of rx c.1
      refine .inr ⟨p, xs, rfl, .inl (.of hp), flat_of r0 c.1, flatL_of rp c.2, ?_⟩
      rw [if_neg Bool.false_ne_true, inV_of r0 c.1 rp c.2]
      exact q _ H (Xt.refl H) (.bl _)
    · cases hg
  · split at hg
    · rename_i c
      cases hg
      rw [Bool.and_eq_true] at c
      obtain ⟨p, xs, rfl, hp, rp⟩ := rb_tup ry
      have r0 := flatB_of rx c.1
      refine .inr ⟨p, xs, rfl, .inr (.inl hp), flat_of r0 c.1, flatL_of rp c.2, ?_⟩
      rw [if_neg Bool.false_ne_true, inV_of r0 c.1 rp c.2]
      exact q _ H (Xt.refl H) (.bl _)
    · cases hg
  · cases hg
theorem o2_notin : Op2 X.K (fun x y H Q => (∃ i j, x = .str i ∧ y = .str j ∧ Q (.bl (!(!(Builtin.Str.occurrences j i 0 j.length 1).isEmpty))) H) ∨ rIn X.K true x y H Q) (fun x y => qNot (qIn x y)) := by
  intro O H x y dx dy d Q _ rx ry hg q
  have hg : qNot (qIn dx dy) = some d := hg
  unfold qNot qIn at hg
  split at hg
  case h_2 => cases hg
  rename_i b e
  cases hg
  split at e
  · split at e
    · cases e
      refine .inl ⟨_, _, rb_str rx, rb_str ry, ?_⟩
      rw [found_sub]
      exact q _ H (Xt.refl H) (.bl _)
    · cases e
  · split at e
    · rename_i c
      cases e
      rw [Bool.and_eq_true] at c
      obtain ⟨p, xs, rfl, hp, rp⟩ := rb_list ry
      have r0 := flatB_of rx c.1
      refine .inr ⟨p, xs, rfl, .inl (.of hp), flat_of r0 c.1, flatL_of rp c.2, ?_⟩
      rw [if_pos rfl, inV_of r0 c.1 rp c.2]
      exact q _ H (Xt.refl H) (.bl _)
    · cases e
  · split at e
    · rename_i c
      cases e
      rw [Bool.and_eq_true] at c
      obtain ⟨p, xs, rfl, hp, rp⟩ := rb_tup ry
      have r0 := flatB_of rx c.1
      refine .inr ⟨p, xs, rfl, .inr (.inl hp), flat_of r0 c.1, flatL_of rp c.2, ?_⟩
      rw [if_pos rfl, inV_of r0 c.1 rp c.2]
      exact q _ H (Xt.refl H) (.bl _)
    · cases e
  · cases e
theorem sc_in (ha : SB X a fa) (hb : SB X b fb) : SC X .In a b (e2 qIn fa fb) := sc_of (op_in_str.or op_in_seq) o2_in ha hb
theorem sc_notin (ha : SB X a fa) (hb : SB X b fb) : SC X .NotIn a b (e2 (fun x y => qNot (qIn x y)) fa fb) := sc_of (op_notin_str.or op_notIn_seq) o2_notin ha hb
end
end Dv

/-! Dv15: dicts by comprehension, sorted texts, reversed. -/
namespace Dv
open PySem PySem.Spec PyProof.Rows L2

def keyOf : D → Option Key
  | .int i => some (.inl i)
  | .str x => some (.inr x)
  | _ => none
theorem keyOf_keyD {d : D} {k : Key} (h : keyOf d = some k) : keyD k = d := by
  unfold keyOf at h
  split at h
  · cases h; rfl
  · cases h; rfl
  · cases h
theorem keyOf_rep {K : PySem.W.Frag} {O : OS} {H : Hp} {v : V} {d : D} {k : Key} (r : Rep K O H v d) (h : keyOf d = some k) : v = kV k := by
  cases r <;> first | (cases h; rfl) | cases h
/-- two keys are one -/
def kEq : D → D → Bool
  | .int i, .int j => i == j
  | .str x, .str y => cps x == cps y
  | _, _ => false
theorem kEq_key (k j : Key) : kEq (keyD k) (keyD j) = decide (k = j) := by
  cases k with
  | inl i =>
    cases j with
    | inl j => show (i == j) = _; rw [key_ll]
    | inr y => rfl
  | inr x =>
    cases j with
    | inl j => rfl
    | inr y => show (cps x == cps y) = _; rw [key_rr, ← Bool.beq_eq_decide_eq, str_beq]; rfl
def putD (es : List (D × D)) (k v : D) : List (D × D) := if es.any (fun e => kEq e.1 k) then es.map (fun e => if kEq e.1 k then (e.1, v) else e) else es ++ [(k, v)]
def getD' (es : List (D × D)) (k : D) : Option D := (es.find? fun e => kEq e.1 k).map (·.2)
section
variable {K : PySem.W.Frag} {O : OS} {H : Hp}
theorem RepK.any (k : Key) : ∀ {es : List (D × D)} {kvs : List (Key × V)}, RepK K O H kvs es → (kvs.any fun kv => decide (kv.1 = k)) = es.any (fun e => kEq e.1 (keyD k))
  | [], _, .nil => rfl
  | (_, _) :: _, _, .cons r q => by
    rw [List.any_cons, List.any_cons, RepK.any k q, kEq_key]
theorem RepK.app {k : Key} {v : V} {d : D} (r : Rep K O H v d) : ∀ {es : List (D × D)} {kvs : List (Key × V)}, RepK K O H kvs es → RepK K O H (kvs ++ [(k, v)]) (es ++ [(keyD k, d)])
  | [], _, .nil => .cons r .nil
  | (_, _) :: _, _, .cons q t => .cons q (RepK.app r t)
theorem RepK.map {k : Key} {v : V} {d : D} (r : Rep K O H v d) : ∀ {es : List (D × D)} {kvs : List (Key × V)}, RepK K O H kvs es → RepK K O H (kvs.map fun kv => if kv.1 = k then (kv.1, v) else kv) (es.map fun e => if kEq e.1 (keyD k) then (e.1, d) else e)
  | [], _, .nil => .nil
  | (_, _) :: _, _, .cons (k := k') q t => by
    rw [List.map_cons, List.map_cons]
    by_cases e : k' = k
    · rw [if_pos e, if_pos (by show kEq (keyD k') (keyD k) = true; rw [kEq_key, decide_eq_true e])]
      exact .cons r (RepK.map r t)
    · rw [if_neg e, if_neg (by show ¬ kEq (keyD k') (keyD k) = true; rw [kEq_key, decide_eq_false e]; decide)]
      exact .cons q (RepK.map r t)
theorem RepK.put {k : Key} {v : V} {d : D} (r : Rep K O H v d) {es : List (D × D)} {kvs : List (Key × V)} (q : RepK K O H kvs es) : RepK K O H (putK kvs k v) (putD es (keyD k) d) := by
  unfold putK putD
  rw [q.any k]
  split
  · exact q.map r
  · exact q.app r
theorem putD_len (es : List (D × D)) (k v : D) : (putD es k v).length ≤ es.length + 1 := by
  unfold putD
  split
  · rw [List.length_map]; omega
  · rw [List.length_append]; exact Nat.le_refl _
theorem RepK.find (k : Key) : ∀ {es : List (D × D)} {kvs : List (Key × V)}, RepK K O H kvs es → ∀ d, getD' es (keyD k) = some d → ∃ v, valV kvs k = some v ∧ Rep K O H v d
  | [], _, .nil, _, h => by cases h
  | (_, _) :: es, _, .cons (k := k') (kvs := kvs) r q, d, h => by
    unfold getD' at h
    rw [List.find?_cons] at h
    by_cases e : k' = k
    · have hk : kEq (keyD k') (keyD k) = true := by rw [kEq_key, decide_eq_true e]
      simp only [hk] at h
      cases h
      exact ⟨_, valV_pos e, r⟩
    · have hk : kEq (keyD k') (keyD k) = false := by rw [kEq_key, decide_eq_false e]
      simp only [hk] at h
      obtain ⟨v, h1, h2⟩ := RepK.find k q d h
      exact ⟨v, by rw [valV_neg (p := (k', _)) e]; exact h1, h2⟩
theorem RepK.none (k : Key) : ∀ {es : List (D × D)} {kvs : List (Key × V)}, RepK K O H kvs es → getD' es (keyD k) = none → valV kvs k = Option.none
  | [], _, .nil, _ => rfl
  | (_, _) :: es, _, .cons (k := k') (kvs := kvs) r q, h => by
    unfold getD' at h
    rw [List.find?_cons] at h
    by_cases e : k' = k
    · have hk : kEq (keyD k') (keyD k) = true := by rw [kEq_key, decide_eq_true e]
      simp only [hk] at h
      cases h
    · have hk : kEq (keyD k') (keyD k) = false := by rw [kEq_key, decide_eq_false e]
      simp only [hk] at h
      rw [valV_neg (p := (k', _)) e]
      exact RepK.none k q h
end

def dcL (g : FG) (ft : FT) (fk fv : FE) (ρ : Rho) : List D → List (D × D) → Tp → Option (List (D × D) × Tp)
  | [], es, T => some (es, T)
  | d :: ds, es, T => match g d ρ with
    | none => none
    | some ρ1 => match ft ρ1 T with
      | none => none
      | some (false, T1) => dcL g ft fk fv ρ ds es T1
      | some (true, T1) => match fk ρ1 T1 with
        | none => none
        | some (k, T2) => match fv ρ1 T2 with
          | none => none
          | some (v, T3) => match keyOf k with
            | none => none
            | some _ => dcL g ft fk fv ρ ds (putD es k v) T3
def eDc (fi : FI) (g : FG) (ft : FT) (fk fv : FE) (vs : List Nat) : FE := fun ρ T => match fi ρ T with
  | none => none
  | some (ds, T1) => match dcL g ft fk fv (wipeR ρ vs) ds [] T1 with
    | none => none
    | some (es, T2) => if ds.length.ble line24 then some (.dict es, T2) else none
theorem tDc_of {K : PySem.W.Frag} {fi : FI} {g : FG} {ft : FT} {fk fv : FE} {ws vs : List Nat} (hw : ∀ j ∈ ws, j ∈ vs) {σ : L2.St} {H : Hp} {Q : VK} (h : rdN K (eDc fi g ft fk fv vs) σ H Q) : tDc (rdI K fi) (rdG K ws g) (rdT K ft) (rdE K fk) (rdE K fv) vs σ H Q := by
  obtain ⟨G, B, O, τ, ρ, T, d, T', E, hf, q⟩ := h
  unfold eDc at hf
  split at hf
  · cases hf
  rename_i ds T1 h1
  split at hf
  · cases hf
  rename_i es T2 h2
  split at hf
  case isFalse => cases hf
  rename_i hsz
  cases hf
  have hsz := Nat.le_of_ble_eq_true hsz
  refine ⟨G, B, O, τ, ρ, T, ds, T1, E, h1, fun J H1 x1 t1 w1 p hp => ?_⟩
  have E1 := E.step x1 t1
  have np : ∀ a, O a → a ≠ p := fun a z e => E1.dom a z (by rw [e]; exact hp)
  have ns : ∀ (i : Nat) (d : D), (wipeR ρ vs)[i]? = some (.ow d) → (wipe σ vs)[i]? ≠ some (some (.ref p)) := fun i d e z => by
    obtain ⟨a, e2, oa, _⟩ := (E1.wipe vs).ow i d e
    rw [z] at e2; cases e2
    exact np p oa rfl
  have gp : G p = none := by
    cases e : G p with
    | none => rfl
    | some u =>
      have := E1.gk p u e (.inl fun z => np p (E1.tO p z) rfl)
      rw [hp] at this; cases this
  have nt : τ ≠ some p := fun z => np p (E1.tO p z) rfl
  refine ⟨fun i m H' => i + m = ds.length ∧ ∃ T3 kvs es1, Sta K G B (addO O p) τ (wipe σ vs) H' (wipeR ρ vs) T3 ∧ Xt (tS τ) H1 H' ∧ H' p = some (.dK kvs) ∧ RepK K (addO O p) H' kvs es1 ∧ kvs.length ≤ i ∧
      dcL g ft fk fv (wipeR ρ vs) (ds.drop i) es1 T3 = some (es, T'), ⟨ds.length, by omega, T1, [], [], (E1.wipe vs).fill hp, Xt.new hp, upd_same, .nil, Nat.le_refl _, by rw [List.drop_zero]; exact h2⟩, ?_⟩
  rintro i m H' ⟨im, T3, kvs, es1, E3, x3, hacc, racc, lacc, hl⟩
  have a3 : Aft O (addO O p) H1 H' := ⟨x3.mono E1.tO, addO_new hp⟩
  obtain ⟨wg, wst⟩ := w1 i (addO O p) H' a3 E3.dom
  by_cases hi : i < ds.length
  · have e : ds[i]? = some ds[i] := List.getElem?_eq_getElem hi
    obtain ⟨go, yl⟩ := wg _ e
    rw [List.drop_eq_getElem_cons hi] at hl
    generalize ds[i] = d at *
    have hl : (match g d (wipeR ρ vs) with
      | none => none
      | some ρ1 => match ft ρ1 T3 with
        | none => none
        | some (false, T1) => dcL g ft fk fv (wipeR ρ vs) (ds.drop (i + 1)) es1 T1
        | some (true, T1) => match fk ρ1 T1 with
          | none => none
          | some (k, T2) => match fv ρ1 T2 with
            | none => none
            | some (v, T3) => match keyOf k with
              | none => none
              | some _ => dcL g ft fk fv (wipeR ρ vs) (ds.drop (i + 1)) (putD es1 k v) T3) = some (es, T') := hl
    refine .inr ⟨go, fun H4 => ∃ T3 kvs es1', Sta K G B (addO O p) τ (wipe σ vs) H4 (wipeR ρ vs) T3 ∧ Xt (tS τ) H1 H4 ∧ H4 p = some (.dK kvs) ∧ RepK K (addO O p) H4 kvs es1' ∧ kvs.length ≤ i + 1 ∧
      dcL g ft fk fv (wipeR ρ vs) (ds.drop (i + 1)) es1' T3 = some (es, T'), fun H4 h4 => ⟨m - 1, by omega, by omega, h4⟩, fun x H2 hy => ?_⟩
    obtain ⟨gr, rx⟩ := yl x H2 hy
    have grt : Xt (tS τ) H' H2 := gr.mono fun _ z => z.elim
    have tOp : ∀ a, tS τ a → addO O p a := fun a z => .inl (E1.tO a z)
    have keep : ∀ {H5 H6 : Hp} {u}, Xt (tS τ) H5 H6 → H5 p = some u → H6 p = some u := fun x e => x p _ e (.inl nt)
    split at hl
    · cases hl
    rename_i ρ1 hg
    refine ⟨G, B, addO O p, τ, _, T3, d, ρ1, E3.grow gr, rx, hg, fun σ2 o2 E4 => ⟨wipe_off o2 hw, ?_⟩⟩
    split at hl
    · cases hl
    · rename_i T4 ht
      refine ⟨G, B, addO O p, τ, ρ1, T3, false, T4, E4, ht, fun H5 x5 t5 => ?_⟩
      have x35 := grt.tr x5
      exact ⟨T4, kvs, es1, E3.step x35 t5, x3.tr x35, keep x35 hacc, racc.go x35 (fun a z _ => tOp a z) (fun _ z => .inl z), by omega, hl⟩
    · rename_i T4 ht
      refine ⟨G, B, addO O p, τ, ρ1, T3, true, T4, E4, ht, fun H5 x5 t5 => ?_⟩
      have x35 := grt.tr x5
      split at hl
      · cases hl
      rename_i k T5 hk
      split at hl
      · cases hl
      rename_i v T6 hv
      split at hl
      · cases hl
      rename_i kk hkk
      have E5 := E4.step x5 t5
      refine ⟨G, B, addO O p, τ, ρ1, T4, k, T5, E5, hk, fun yk H6 x6 t6 rk => ⟨G, B, addO O p, τ, ρ1, T5, v, T6, E5.step x6 t6, hv, fun yv H7 x7 t7 rv => ?_⟩⟩
      have x37 := (x35.tr x6).tr x7
      have hacc7 := keep x37 hacc
      have E7 := E3.step x37 t7
      have ek := keyOf_keyD hkk
      subst ek
      refine ⟨kvs, kk, keyOf_rep rk hkk, hacc7, by rw [line24_eq]; omega, T6, _, putD es1 (keyD kk) v, E7.turnAt hacc7 id (.inr rfl) nt gp ns, (x3.tr x37).mut hp, upd_same, ?_, ?_, hl⟩
      · have xw : Xt (fun b => b = p) H7 (upd H7 p (.dK (putK kvs kk yv))) := Xt.wr rfl hacc7 id
        have hin : ∀ a, a = p → H7 a ≠ none → addO O p a := fun a z _ => .inr z
        exact RepK.put (rv.go xw hin fun _ z => .inl z) ((racc.go x37 (fun a z _ => tOp a z) (fun _ z => .inl z)).go xw hin fun _ z => .inl z)
      · have := length_putK kvs kk yv
        omega
  · have e : i = ds.length := by omega
    subst e
    rw [List.drop_length] at hl
    cases hl
    have hp0 : H p = none := by
      cases e : H p with
      | none => rfl
      | some u =>
        have := x1 p u e (.inl nt)
        rw [hp] at this; cases this
    exact .inl ⟨wst (Nat.le_refl _), q p H' hp0 (x1.tr x3) E3.tok (.dK hacc racc)⟩
section
variable {X : Cx}
theorem sn_dc {kx vx tg iter : Expr} {ifs : List Expr} {scope : Scope} {own : List (Str × Nat)} {pos : Pos} {fi : FI} {g : FG} {ft : FT} {fk fv : FE} {ws : List Nat} (hc : X.calm = true) (hN : X.N.Nodup) (hi : SI X tg iter fi) (ok : BlkOk X.N X.env.scope scope own)
    (hg : ∀ (s : Shared) (H : Hp) (C : Addr) (cl : List (Str × Addr)) (fp : List Addr), SG (X.blk s H scope (compEnvC scope cl C X.env) fp) tg ws g) (ht : ∀ (s : Shared) (H : Hp) (C : Addr) (cl : List (Str × Addr)) (fp : List Addr), STs (X.blk s H scope (compEnvC scope cl C X.env) fp) ifs ft)
    (hk : ∀ (s : Shared) (H : Hp) (C : Addr) (cl : List (Str × Addr)) (fp : List Addr), SE (X.blk s H scope (compEnvC scope cl C X.env) fp) kx fk) (he : ∀ (s : Shared) (H : Hp) (C : Addr) (cl : List (Str × Addr)) (fp : List Addr), SE (X.blk s H scope (compEnvC scope cl C X.env) fp) vx fv)
    (hw : ∀ j ∈ ws, j ∈ own.map (·.2) := by decide) (hs : ∀ x, foldedSetIterable iter X.env x = pure x := by intro _; rfl) : SN X (.DictComp kx vx [⟨tg, iter, ifs, 0⟩] scope pos) (eDc fi g ft fk fv (own.map (·.2))) :=
  ⟨PE.imp (pe_dc hc hN hi.pi ok (fun s H C cl fp => (hg s H C cl fp).pg) (fun s H C cl fp => (ht s H C cl fp).pt) (fun s H C cl fp => (hk s H C cl fp).pe) (fun s H C cl fp => (he s H C cl fp).pe) hs) fun σ H Q h => tDc_of hw h⟩
end
end Dv

/-! Dv16: parallel stores, longer chains, turned round, global constants. -/
namespace Dv
open PySem PySem.Spec PyProof.Rows L2
section
variable {X : Cx} {tg a b c e o : Expr} {es : List Expr} {fa fb fc fo : FE} {ga : FA} {p pos cpos apos : Pos}

/-! ### a, b = x, y -/
theorem ss_par {i j : Nat} {x y : Str} {px py pt : Pos} {kt k2 : Nat} {pt2 : Pos} (hc : X.calm = true) (hN : X.N.Nodup) (ha : SE X a fa) (hb : SE X b fb) (hi : X.N[i]? = some x := by rfl) (hj : X.N[j]? = some y := by rfl) (hij : i ≠ j := by decide)
    (hx : X.env.scope.names.lookup x = some .local := by rfl) (hy : X.env.scope.names.lookup y = some .local := by rfl)
    (hw : swappedStores [.Tuple [.Name x px, .Name y py] kt pt] (.Tuple [a, b] k2 pt2) X.env = pure (some [x, y]) := by rfl)
    (hs : swapsWithSole [.Tuple [.Name x px, .Name y py] kt pt] (.Tuple [a, b] k2 pt2) pos.line X.env = pure false := by rfl)
    (h1 : starEach [a, b] X.env = (false, eval a X.env) :: starEach [b] X.env := by rfl) (h2 : starEach [b] X.env = (false, eval b X.env) :: starEach [] X.env := by rfl) :
    SS X (.Assign [.Tuple [.Name x px, .Name y py] kt pt] (.Tuple [a, b] k2 pt2) pos) (sPar i j fa fb) := ⟨PS.imp (ps_par hc hN hi hj hij hx hy (sa_cons ha (sa_cons hb sa_nil h2) h1).pe hw hs) fun D σ H ⟨G, B, O, τ, ρ, T, fl, T', E, hf, q⟩ => by
  unfold sPar at hf
  split at hf
  · cases hf
  rename_i dx T1 e1
  split at hf
  · cases hf
  rename_i dy T2 e2
  cases hf
  refine ⟨G, B, O, τ, ρ, T, [dx, dy], T', E, by simp only [aCons, aNil, e1, e2], fun vs H1 x t r => ?_⟩
  cases r with
  | cons r rr =>
    cases rr with
    | cons r' rr =>
      cases rr
      exact ⟨_, _, rfl, q _ H1 O (E.aft x) (((E.step x t).set r).set r')⟩⟩

/-! ### chains of any length -/
def rdL (K : PySem.W.Frag) (L : D → FE) : V → TE := fun v σ H Q => ∃ G B O τ ρ T dx d T', Sta K G B O τ σ H ρ T ∧ RepBT K O τ H v dx ∧ L dx ρ T = some (d, T') ∧
  ∀ v H', Xt (tS τ) H H' → TpOk O τ H' T' → Rep K O H' v d → Q v H'
structure SL (X : Cx) (ops : List CmpOp) (rs : List Expr) (L : D → FE) : Prop where
  run : ∀ (pos : Pos) (pins : List (Addr × Obj)) (s : Shared) (σ : L2.St) (H : Hp) (x : V) (v : Value) (Q : VK), Inv X pins σ H s → RelV x v → rdL X.K L x σ H Q →
    wpAny (model X.prog X.w) X.A (compareChain pos v ops (evalEach rs X.env)) (EP X pins σ Q) X.xe s
  tst : ∀ (pos : Pos) (pins : List (Addr × Obj)) (s : Shared) (σ : L2.St) (H : Hp) (x : V) (v : Value) (Q : Bool → Hp → Prop), Inv X pins σ H s → RelV x v → rdL X.K L x σ H (fun z H' => ∃ k, z = .bl k ∧ Q k H') →
    wpAny (model X.prog X.w) X.A (testChain pos v ops (evalEach rs X.env)) (TP X pins σ Q) X.xe s
def lLast (g : D → D → Option D) (fb : FE) : D → FE := fun x ρ T => match fb ρ T with
  | none => none
  | some (y, T1) => match g x y with
    | some (.bool k) => some (.bool k, T1)
    | _ => none
def lCons (g : D → D → Option D) (fb : FE) (L : D → FE) : D → FE := fun x ρ T => match fb ρ T with
  | none => none
  | some (y, T1) => match g x y with
    | some (.bool true) => L y ρ T1
    | some (.bool false) => some (.bool false, T1)
    | _ => none
theorem lLast_run {op : CmpOp} {r : R2} {g : D → D → Option D} (ho : OpR X (compareOp op) r) (hg : Op2 X.K r g) (hb : SB X b fb) {pins : List (Addr × Obj)} {s : Shared} {σ : L2.St} {H : Hp} {x : V} {v : Value} {Q : VK} (I : Inv X pins σ H s) (rv : RelV x v) (h : rdL X.K (lLast g fb) x σ H Q) :
    wpAny (model X.prog X.w) X.A (eval b X.env) (fun u s1 => wpAny (model X.prog X.w) X.A (compareOp op v u) (fun w s2 => ∃ k H', w = .bool k ∧ Inv X pins σ H' s2 ∧ Q (.bl k) H') X.xe s1) X.xe s := by
  obtain ⟨G, B, O, τ, ρ, T, dx, d, T', E, rx, hf, q⟩ := h
  unfold lLast at hf
  split at hf
  · cases hf
  rename_i y T1 h1
  split at hf
  case h_2 => cases hf
  rename_i k h2
  cases hf
  refine thn (hb.pe.run pins s σ H (fun u H' => Xt (tS τ) H H' ∧ TpOk O τ H' T' ∧ RepBT X.K O τ H' u y) I ⟨G, B, O, τ, ρ, T, y, T', E, h1, fun u H' x t r => ⟨x, t, r⟩⟩) fun u s1 ⟨y', H1, I1, ru, x1, t1, r1⟩ => ?_
  refine thn (ho pins s1 σ H1 x y' v u (fun w H2 => ∃ k', w = .bl k' ∧ k' = k ∧ Q (.bl k) H2) I1 rv ru (hg O H1 x y' dx y (.bool k) _ (E.step x1 t1).dom (rx.step E x1).b r1.b h2 fun w H2 x2 r2 => ?_)) fun w s2 ⟨z, H2, I2, rz, k', e1, e2, q2⟩ => ?_
  · cases r2
    exact ⟨k, rfl, rfl, q _ H2 (x1.tr (x2.mono fun _ z => z.elim)) (t1.gr x2) (.bl k)⟩
  · subst e1 e2
    cases rz
    exact ⟨k', H2, rfl, I2, q2⟩
theorem sl_last {op : CmpOp} {r : R2} {g : D → D → Option D} (ho : OpR X (compareOp op) r) (hg : Op2 X.K r g) (hb : SB X b fb) : SL X [op] [b] (lLast g fb) where
  run := fun pos pins s σ H x v Q I rv h => chain_last (thn (lLast_run ho hg hb I rv h) fun u s1 h1 => thn h1 fun w s2 ⟨k, H', e, I', q⟩ => ⟨.bl k, H', I', e, q⟩)
  tst := fun pos pins s σ H x v Q I rv h => test_last (thn (lLast_run ho hg hb I rv h) fun u s1 h1 => thn h1 fun w s2 ⟨k, H', e, I', k', e', q⟩ => by
    subst e
    cases e'
    exact wpAny_truthy_bool ⟨H', I', q⟩)
theorem lCons_run {op : CmpOp} {r : R2} {g : D → D → Option D} {L : D → FE} (ho : OpR X (compareOp op) r) (hg : Op2 X.K r g) (hb : SB X b fb) {pins : List (Addr × Obj)} {s : Shared} {σ : L2.St} {H : Hp} {x : V} {v : Value} {Q : VK} (I : Inv X pins σ H s) (rv : RelV x v) (h : rdL X.K (lCons g fb L) x σ H Q) :
    wpAny (model X.prog X.w) X.A (eval b X.env) (fun u s1 => wpAny (model X.prog X.w) X.A (compareOp op v u) (fun w s2 => ∃ k H', w = .bool k ∧ Inv X pins σ H' s2 ∧ (k = false → Q (.bl false) H') ∧ (k = true → ∃ y, RelV y u ∧ rdL X.K L y σ H' Q)) X.xe s1) X.xe s := by
  obtain ⟨G, B, O, τ, ρ, T, dx, d, T', E, rx, hf, q⟩ := h
  unfold lCons at hf
  split at hf
  · cases hf
  rename_i y T1 h1
  refine thn (hb.pe.run pins s σ H (fun u H' => Xt (tS τ) H H' ∧ TpOk O τ H' T1 ∧ RepBT X.K O τ H' u y) I ⟨G, B, O, τ, ρ, T, y, T1, E, h1, fun u H' x t r => ⟨x, t, r⟩⟩) fun u s1 ⟨y', H1, I1, ru, x1, t1, r1⟩ => ?_
  have E1 := E.step x1 t1
  split at hf
  · rename_i h2
    refine thn (ho pins s1 σ H1 x y' v u (fun w H2 => w = .bl true ∧ Xt (tS τ) H1 H2 ∧ TpOk O τ H2 T1) I1 rv ru (hg O H1 x y' dx y (.bool true) _ E1.dom (rx.step E x1).b r1.b h2 fun w H2 x2 r2 => ?_)) fun w s2 ⟨z, H2, I2, rz, e1, x2, t2⟩ => ?_
    · cases r2
      exact ⟨rfl, x2.mono fun _ z => z.elim, t1.gr x2⟩
    · subst e1
      cases rz
      exact ⟨true, H2, rfl, I2, fun e => (nomatch e), fun _ => ⟨y', ru, G, B, O, τ, ρ, T1, y, d, T', E1.step x2 t2, r1.step E1 x2, hf, fun w H3 x3 t3 r3 => q w H3 ((x1.tr x2).tr x3) t3 r3⟩⟩
  · rename_i h2
    cases hf
    refine thn (ho pins s1 σ H1 x y' v u (fun w H2 => w = .bl false ∧ Q (.bl false) H2) I1 rv ru (hg O H1 x y' dx y (.bool false) _ E1.dom (rx.step E x1).b r1.b h2 fun w H2 x2 r2 => ?_)) fun w s2 ⟨z, H2, I2, rz, e1, q2⟩ => ?_
    · cases r2
      exact ⟨rfl, q _ H2 (x1.tr (x2.mono fun _ z => z.elim)) (t1.gr x2) (.bl false)⟩
    · subst e1
      cases rz
      exact ⟨false, H2, rfl, I2, fun _ => q2, fun e => (nomatch e)⟩
  · cases hf
theorem sl_cons {op op' : CmpOp} {ops : List CmpOp} {rs : List Expr} {r : R2} {g : D → D → Option D} {L : D → FE} (ho : OpR X (compareOp op) r) (hg : Op2 X.K r g) (hb : SB X b fb) (hr : SL X (op' :: ops) (c :: rs) L) : SL X (op :: op' :: ops) (b :: c :: rs) (lCons g fb L) where
  run := fun pos pins s σ H x v Q I rv h => chain_link (thn (lCons_run ho hg hb I rv h) fun u s1 h1 => thn h1 fun w s2 ⟨k, H', e, I', q1, q2⟩ => by
    subst e
    refine wpAny_truthy_bool ?_
    cases k with
    | false => exact ite_ff ⟨.bl false, H', I', rfl, q1 rfl⟩
    | true =>
      obtain ⟨y, ry, q⟩ := q2 rfl
      exact ite_tt (hr.run pos pins s2 σ H' y u Q I' ry q))
  tst := fun pos pins s σ H x v Q I rv h => test_link (thn (lCons_run ho hg hb I rv h) fun u s1 h1 => thn h1 fun w s2 ⟨k, H', e, I', q1, q2⟩ => by
    subst e
    refine wpAny_truthy_bool ?_
    cases k with
    | false =>
      obtain ⟨k', e', q⟩ := q1 rfl
      cases e'
      exact ite_ff ⟨H', I', q⟩
    | true =>
      obtain ⟨y, ry, q⟩ := q2 rfl
      exact ite_tt (hr.tst pos pins s2 σ H' y u Q I' ry q))
def eCh (fa : FE) (L : D → FE) : FE := fun ρ T => match fa ρ T with
  | none => none
  | some (x, T1) => L x ρ T1
theorem rdL_of {K : PySem.W.Frag} {L : D → FE} {σ : L2.St} {H : Hp} {Q : VK} (h : rdE K (eCh fa L) σ H Q) : rdB K fa σ H fun v H' => rdL K L v σ H' Q := by
  obtain ⟨G, B, O, τ, ρ, T, d, T', E, hf, q⟩ := h
  unfold eCh at hf
  split at hf
  · cases hf
  rename_i x T1 h1
  exact ⟨G, B, O, τ, ρ, T, x, T1, E, h1, fun v H1 x1 t1 r1 => ⟨G, B, O, τ, ρ, T1, x, d, T', E.step x1 t1, r1, hf, fun w H2 x2 t2 r2 => q w H2 (x1.tr x2) t2 r2⟩⟩
theorem se_ch {op op' : CmpOp} {ops : List CmpOp} {rs : List Expr} {L : D → FE} (ha : SB X a fa) (hr : SL X (op :: op' :: ops) (b :: c :: rs) L) (hm : lastMarks (op :: op' :: ops) (b :: c :: rs) = false := by with_unfolding_all rfl) :
    SE X (.Compare a (op :: op' :: ops) (b :: c :: rs) pos) (eCh fa L) := ⟨⟨fun pins s σ H Q I h => Compare_chain (thn (ha.pe.run pins s σ H _ I (rdL_of h)) fun v s1 ⟨x, H1, I1, r1, q1⟩ => hr.run pos pins s1 σ H1 x v Q I1 r1 q1) hm⟩⟩
theorem st_ch {op op' : CmpOp} {ops : List CmpOp} {rs : List Expr} {L : D → FE} (ha : SB X a fa) (hr : SL X (op :: op' :: ops) (b :: c :: rs) L) (hm : lastMarks (op :: op' :: ops) (b :: c :: rs) = false := by with_unfolding_all rfl) :
    ST X (.Compare a (op :: op' :: ops) (b :: c :: rs) pos) (tBool (eCh fa L)) := ⟨⟨fun pins s σ H Q I h => isTrue_chain (thn (ha.pe.run pins s σ H _ I (rdL_of (rdT_bool h))) fun v s1 ⟨x, H1, I1, r1, q1⟩ => hr.tst pos pins s1 σ H1 x v Q I1 r1 q1) hm⟩⟩

/-! ### global constants -/
theorem se_gl {x : Str} {v : V} {u : Value} {d : D} (hm : X.mg x = some u) (r : RelV v u) (rd : ∀ K O H, Rep K O H v d) (hg : Gl X x := by rfl) (hd : (x == ("__debug__" : Str)) = false := by decide) : SE X (.Name x pos) (eC d) := se_c' (pe_glob hg hm r hd) rd

/-! ### x[::-1] -/
def tRevA (K : PySem.W.Frag) (te : TE) : TE := fun σ H Q => te σ H fun x H1 => (∃ z, x = .str z ∧ z.length ≤ sizeLine ∧ Q (.str ⟨z.cps.toList.reverse.toArray⟩) H1) ∨ (∃ a xs c, x = .ref a ∧ SqT K H1 a xs ∧ ∀ p u, H1 p = none → TupC c xs.reverse u → Q (.ref p) (upd H1 p u))
end
end Dv

/-! Dv17: x[::-1], reversed, enumerate, sorted texts of a dict, max of a tuple. -/
namespace HT
open PySem PySem.Spec PyProof.Rows L2
section
variable {prog : Program} {w : World} {A : Around} {E : Value → Shared → Prop} {s : Shared}
theorem sliceApplied_rev {sl : Addr} {u : Tok} {n : Nat} {Q : Int × Int × Nat → Shared → Prop} (hs : s.heap.IsSliceOf sl .none .none (.int (-1) u))
    (h : Q ((n : Int) - 1, -1, n) s) : wpAny (model prog w) A (Builtin.Slice.sliceApplied (.ref sl) (pure (n : Int))) Q E s := by
  obtain ⟨os, hos, hcs, hds⟩ := id hs
  unfold Builtin.Slice.sliceApplied Builtin.Slice.sliceFields
  refine wpAny_bind (wpAny_bind (wpAny_field hos hds (x := .none) rfl (wpAny_bind (wpAny_field hos hds (x := .none) rfl (wpAny_bind (wpAny_field hos hds (x := .int (-1) u) rfl (wpAny_pure ?_)))))))
  refine wpAny_bind (slicePart_int ?_)
  show wpAny _ _ (if ((-1 : Int) == 0) = true then _ else _) _ _ s
  rw [if_neg (by decide)]
  refine wpAny_bind (slicePart_none (wpAny_bind (slicePart_none (wpAny_bind (wpAny_pure ?_)))))
  show wpAny _ _ (match Builtin.Slice.sliceAdjust none none (-1) (n : Int) with | (lo, hi) => pure (lo, (-1 : Int), Builtin.Slice.slicePlaces lo hi (-1))) _ _ s
  have e : Builtin.Slice.slicePlaces ((n : Int) - 1) (-1) (-1) = n := by
    unfold Builtin.Slice.slicePlaces
    have h1 : ¬ ((-1 : Int) > 0) := by decide
    simp only [h1, if_false]
    rw [show (- -1 : Int) = 1 by decide, Int.ediv_one]
    split <;> omega
  show wpAny _ _ (pure ((n : Int) - 1, (-1 : Int), Builtin.Slice.slicePlaces ((n : Int) - 1) (-1) (-1))) _ _ s
  rw [e]
  exact wpAny_pure h
theorem fm_congr {α β : Type} {f g : α → Option β} : ∀ {l : List α}, (∀ x, x ∈ l → f x = g x) → l.filterMap f = l.filterMap g
  | [], _ => rfl
  | x :: l, h => by
    rw [List.filterMap_cons, List.filterMap_cons, h x (List.mem_cons_self ..), fm_congr fun y hy => h y (List.mem_cons_of_mem _ hy)]
theorem pick_rev (xs : Array Value) : ((List.range xs.size).filterMap fun (k : Nat) => xs[(((xs.size : Int) - 1) + (k : Int) * (-1)).toNat]?).toArray = xs.toList.reverse.toArray := by
  congr 1
  have e : (List.range xs.size).filterMap (fun (k : Nat) => xs[(((xs.size : Int) - 1) + (k : Int) * (-1)).toNat]?) = ((List.range xs.size).map fun k => xs.size - 1 - k).filterMap (xs[·]?) := by
    rw [List.filterMap_map]
    refine fm_congr fun k hk => ?_
    have := List.mem_range.mp hk
    show xs[(((xs.size : Int) - 1) + (k : Int) * (-1)).toNat]? = xs[xs.size - 1 - k]?
    congr 1
    omega
  rw [e, PySem.W.krv_range, List.filterMap_reverse, PySem.W.krv_all]
theorem getItem_tuple_rev {t sl : Addr} {items : Array Value} {u : Tok} {Q : Value → Shared → Prop} (ht : IsTup s.heap t items) (hs : s.heap.IsSliceOf sl .none .none (.int (-1) u))
    (h : Q (.ref s.heap.objs.size) { s with heap := s.heap.push { cls := .type "tuple", data := .seq items.toList.reverse.toArray } })
    (hsz : items.size ≤ sizeLine) : wpAny (model prog w) A (getItem (.ref t) (.ref sl)) Q E s := by
  have htake : sizeOk (.seq items.toList.reverse.toArray) := by
    show items.toList.reverse.toArray.size ≤ sizeLine
    rw [List.size_toArray, List.length_reverse, Array.length_toList]
    exact hsz
  obtain ⟨os, hos, hcs, hds⟩ := id hs
  have hTs : s.TypeIs (.ref sl) "slice" := ⟨os, hos, hcs⟩
  unfold getItem
  try with_reducible refine wpAny_holding ?_
  first | refine wpAny_bind (wpAny_pure ?_) | skip
  refine wpAny_bind (wpAny_sequenceKey ht.typeIs (by decide) ?_)
  refine wpAny_bind (wpAny_callSpecial?_slot (name := Str.ofString "__getitem__") ht.typeIs PyProof.Rows.slot_tuple_getitem
    (wpAny_call_entry PyProof.Rows.slot_tuple_getitem ht.typeIs entry_tuple_getitem ?_ (args_tuple_getitem _ _)))
  show wpAny _ _ (Builtin.Tuple.tupleItemsOf (.ref t) >>= _) _ _ s
  refine wpAny_bind (tupleItemsOf_ ht ?_)
  refine wpAny_bind (wpAny_typeOf hTs ?_)
  rw [if_pos (by decide)]
  refine wpAny_bind (sliceApplied_rev hs ?_)
  have hno : ¬ ((((items.size : Int) - 1) == 0 && (-1 : Int) == 1 && items.size == items.size) = true) := by
    intro q
    rw [Bool.and_eq_true, Bool.and_eq_true] at q
    exact absurd (eq_of_beq q.1.2) (by decide)
  show wpAny _ _ (if (((items.size : Int) - 1) == 0 && (-1 : Int) == 1 && items.size == items.size) = true then _ else _) _ _ s
  rw [if_neg hno, pick_rev]
  first
    | exact wpAny_bind (m := Builtin.Tuple.tupleExact _) (wpAny_newObj_type (wpAny_pure ⟨_, rfl, wpAny_pure h⟩) htake)
    | exact wpAny_bind (m := Builtin.Tuple.tupleExact _) (wpAny_newObj_type (wpAny_bind (wpAny_pure (wpAny_pure ⟨_, rfl, wpAny_pure h⟩))) htake)
    | exact wpAny_bind (wpAny_bind (m := Builtin.Tuple.tupleExact _) (wpAny_newObj_type (wpAny_pure (wpAny_pure ⟨_, rfl, wpAny_pure h⟩)) htake))
    | exact wpAny_bind (wpAny_bind (m := Builtin.Tuple.tupleExact _) (wpAny_newObj_type (wpAny_pure ⟨_, rfl, wpAny_pure h⟩) htake))
end
end HT
namespace Dv
open PySem PySem.Spec PyProof.Rows L2
theorem krv_allN (xs : Array Nat) : (List.range xs.size).filterMap (xs[·]?) = xs.toList := by
  apply List.ext_getElem?
  intro i
  have h : ∀ (n : Nat), n ≤ xs.size → (List.range n).filterMap (xs[·]?) = xs.toList.take n := by
    intro n
    induction n with
    | zero => intro _; rfl
    | succ n ih =>
      intro hn
      rw [List.range_succ, List.filterMap_append, ih (by omega)]
      have e : xs[n]? = some xs[n] := Array.getElem?_eq_getElem (by omega)
      rw [List.filterMap_cons, e]
      show _ ++ [xs[n]] = _
      rw [List.take_succ_eq_append_getElem (by rw [Array.length_toList]; omega)]
      rfl
  rw [h xs.size (Nat.le_refl _), List.take_of_length_le (by rw [Array.length_toList]; exact Nat.le_refl _)]
theorem rev_picked (z : Str) (k : Tok) : ((slicePicked z none none (some (-1, k))).filterMap (z.cps[·]?)).toArray = z.cps.toList.reverse.toArray := by
  unfold slicePicked Builtin.Str.strSliceIndices
  show ((sliceRange ((z.length : Int) - 1) (-1) (-1)).filterMap (z.cps[·]?)).toArray = _
  have e : sliceRange ((z.length : Int) - 1) (-1) (-1) = (List.range z.length).map fun k => z.length - 1 - k := by
    first
    | exact PySem.W.krv_sliceRange z.length
    | skip
  rw [e, PySem.W.krv_range, List.filterMap_reverse]
  have := krv_allN z.cps
  have hl : z.length = z.cps.size := rfl
  rw [hl, this]
section
variable {X : Cx} {tg a b c e o : Expr} {es : List Expr} {fa fb fc fo : FE} {ga : FA} {p pos cpos apos : Pos}
theorem pe_revA {te : TE} {k : Nat} {p1 p2 p3 : Pos} (he : PE X e te) : PE X (.Subscript e (.Slice none none (some (.UnaryOp .USub (.Constant (.int 1) k p1) p2)) p3) pos) (tRevA X.K te) := by
  refine ⟨fun pins s σ H Q I h => ?_⟩
  refine Subscript_ (thn (he.run pins s σ H _ I h) fun v s1 ⟨x, H1, I1, r1, q1⟩ => ?_)
  have hst : PO X (some (.UnaryOp .USub (.Constant (.int 1) k p1) p2)) (tPart (tUn (rU fun i => .int (-i)) (tC (.int 1)))) := po_some (pe_un un_neg pe_int)
  refine wpAny_Slice (thn (po_none.run pins s1 σ H1 (fun o H2 => o = none ∧ H2 = H1) I1 ⟨rfl, rfl⟩) fun vl s2 ⟨l, H2, I2, pl, el, e2⟩ => ?_)
  subst el e2
  refine thn (po_none.run pins s2 σ H2 (fun o H3 => o = none ∧ H3 = H2) I2 ⟨rfl, rfl⟩) fun vu s3 ⟨u, H3, I3, pu, eu, e3⟩ => ?_
  subst eu e3
  refine thn (hst.run pins s3 σ H3 (fun o H4 => o = some (-1) ∧ H4 = H3) I3 ⟨1, rfl, -1, rfl, rfl, rfl⟩) fun vs s4 ⟨o, H4, I4, ps, eo, e4⟩ => ?_
  subst eo e4
  have I5 : Inv X pins σ H4 { s4 with heap := s4.heap.push { cls := .type "slice", data := .fields #[vl, vu, vs] } } := I4.kept (t' := s4.toks) fun b ob q => Heap.get?_push_of_some _ q
  cases pl
  cases pu
  cases ps with
  | int i uk =>
  rcases q1 with ⟨z, ex, hz, q⟩ | ⟨a, xs, c, ex, hx, q⟩
  · subst ex
    obtain ⟨t, rfl⟩ := r1
    refine tail_any (ops := [.ref s4.heap.objs.size, .str z t]) (typeIs_str _ _ _) (PySem.F.slot_str_getitem.lookup) ?_ (by with_unfolding_all rfl)
    refine wpAny_getItem_str_slice (l := none) (u := none) (st := some (-1, uk)) ⟨_, Heap.get?_push_size _ rfl, rfl, rfl⟩ (by simp) ?_
    show Made.post (if ((-1 : Int) == 1 && (slicePicked z none none (some (-1, uk))).length == z.length) = true then Made.val (.str z t)
      else Made.str ⟨((slicePicked z none none (some (-1, uk))).filterMap (z.cps[·]?)).toArray⟩) (EP X pins σ Q) _
    rw [if_neg (by rw [Bool.and_eq_true]; exact fun h => absurd h.1 (by decide)), rev_picked]
    refine ⟨?_, .str _, H4, I5.tok _, ⟨_, rfl⟩, q⟩
    show z.cps.toList.reverse.toArray.size ≤ sizeLine
    rw [List.size_toArray, List.length_reverse, Array.length_toList]
    exact hz
  · subst ex
    cases r1
    obtain ⟨its, r, ht, hz⟩ := I5.tuple hx
    have hlen := r.length
    refine tail_any (ops := [.ref a, .ref s4.heap.objs.size]) ht.typeIs (PyProof.Rows.slot_tuple_getitem.lookup) ?_ (by with_unfolding_all rfl)
    refine HT.getItem_tuple_rev ht (Heap.IsSliceOf.new _ .none .none (.int (-1) uk)) ?_ (by rw [List.size_toArray]; omega)
    obtain ⟨u, tc, I6⟩ := laidT c I5 (t' := s4.toks) (a := _) (its := its.reverse) (h' := Heap.push _ { cls := .type "tuple", data := .seq its.reverse.toArray }) (fun b ob q => Heap.get?_push_of_some _ q) (Nat.le_refl _) (by rw [List.length_reverse]; exact hz) r.reverse (Heap.get?_push_size _ rfl)
    exact ⟨.ref _, _, I6, rfl, q _ u (I5.hok.fresh (Nat.le_refl _)) tc⟩
def qRev : D → Option D
  | .tuple ds => some (.tuple ds.reverse)
  | .str z => if z.length.ble line24 then some (.str (S (cps z).reverse)) else none
  | _ => none
def eF (g : D → Option D) (fa : FE) : FE := fun ρ T => match fa ρ T with
  | none => none
  | some (x, T1) => match g x with
    | none => none
    | some d => some (d, T1)
theorem se_rev {k : Nat} {p1 p2 p3 : Pos} (ha : SB X a fa) : SE X (.Subscript a (.Slice none none (some (.UnaryOp .USub (.Constant (.int 1) k p1) p2)) p3) pos) (eF qRev fa) := ⟨PE.imp (pe_revA ha.pe) fun σ H Q ⟨G, B, O, τ, ρ, T, d, T', E, hf, q⟩ => by
  unfold eF at hf
  split at hf
  · cases hf
  rename_i x T1 h1
  split at hf
  · cases hf
  rename_i d' h2
  cases hf
  refine ⟨G, B, O, τ, ρ, T, x, T', E, h1, fun v H1 x1 t1 r1 => ?_⟩
  unfold qRev at h2
  split at h2
  · rename_i as
    cases h2
    obtain ⟨p, xs, rfl, hp, rp⟩ := rb_tup r1.b
    refine .inr ⟨p, xs, pinned as.reverse, rfl, .inl hp, fun u w hu tc => ?_⟩
    exact q _ _ (x1.tr ((Gr.new hu).mono fun _ z => z.elim)) (t1.gr (Gr.new hu)) (.tup upd_same tc ((rl_rev rp).go (Gr.new hu) (fun _ z _ => z.elim) fun _ z => .inl z))
  · split at h2
    · rename_i z hz
      cases h2
      exact .inl ⟨z, rb_str r1.b, by rw [line24_eq]; exact Nat.le_of_ble_eq_true hz, q _ H1 x1 t1 (.str _)⟩
    · cases h2
  · cases h2⟩
end
end Dv

/-! Dv18: sorted, max and min of tuples. -/
namespace Dv
open PySem PySem.Spec PyProof.Rows L2

/-! ### sorting by insertion -/
section
variable {α : Type} {lt : α → α → Bool}
def insB (lt : α → α → Bool) (x : α) : List α → List α
  | [] => [x]
  | y :: r => if lt y x then y :: insB lt x r else x :: y :: r
def sortB (lt : α → α → Bool) : List α → List α
  | [] => []
  | x :: r => insB lt x (sortB lt r)
theorem insB_perm (x : α) : ∀ l, (insB lt x l).Perm (x :: l)
  | [] => .refl _
  | y :: r => by
    unfold insB
    split
    · exact ((insB_perm x r).cons y).trans (.swap x y r)
    · exact .refl _
theorem sortB_perm : ∀ l, (sortB lt l).Perm l
  | [] => .refl _
  | x :: r => (insB_perm x _).trans ((sortB_perm r).cons x)
/-- a ≤ b: not b < a -/
def leB (lt : α → α → Bool) (a b : α) : Prop := lt b a = false
theorem insB_pw (tr : ∀ a b c, leB lt a b → leB lt b c → leB lt a c) (as : ∀ a b, lt a b = true → lt b a = false) (x : α) : ∀ l, l.Pairwise (leB lt) → (insB lt x l).Pairwise (leB lt)
  | [], _ => by unfold insB; exact List.pairwise_singleton _ _
  | y :: r, h => by
    obtain ⟨h1, h2⟩ := List.pairwise_cons.mp h
    unfold insB
    split
    · rename_i c
      refine List.pairwise_cons.mpr ⟨fun z hz => ?_, insB_pw tr as x r h2⟩
      rcases List.mem_cons.mp ((insB_perm x r).mem_iff.mp hz) with rfl | hz
      · exact as _ _ c
      · exact h1 z hz
    · rename_i c
      have c : lt y x = false := by cases e : lt y x <;> first | rfl | exact absurd e c
      refine List.pairwise_cons.mpr ⟨fun z hz => ?_, h⟩
      rcases List.mem_cons.mp hz with rfl | hz
      · exact c
      · exact tr x y z c (h1 z hz)
theorem sortB_pw (tr : ∀ a b c, leB lt a b → leB lt b c → leB lt a c) (as : ∀ a b, lt a b = true → lt b a = false) : ∀ l, (sortB lt l).Pairwise (leB lt)
  | [] => .nil
  | x :: r => insB_pw tr as x _ (sortB_pw tr as r)
theorem sortB_eq (tr : ∀ a b c, leB lt a b → leB lt b c → leB lt a c) (as : ∀ a b, lt a b = true → lt b a = false) (an : ∀ a b, leB lt a b → leB lt b a → a = b) {l m : List α} (p : m.Perm l) (h : m.Pairwise (leB lt)) : m = sortB lt l :=
  List.Perm.eq_of_pairwise (fun a b _ _ => an a b) h (sortB_pw tr as l) (p.trans (sortB_perm l).symm)
end
def ltI (a b : Int) : Bool := decide (a < b)
def sortI (l : List Int) : List Int := sortB ltI l
theorem leI {a b : Int} : leB ltI a b ↔ a ≤ b := by
  unfold leB ltI
  rw [decide_eq_false_iff_not]
  omega
theorem sortI_eq {l m : List Int} (p : m.Perm l) (h : m.Pairwise (· ≤ ·)) : m = sortI l :=
  sortB_eq (lt := ltI) (fun a b c x y => by rw [leI] at *; omega) (fun a b h => by unfold ltI at *; rw [decide_eq_true_eq] at h; rw [decide_eq_false_iff_not]; omega) (fun a b x y => by rw [leI] at *; omega) p (h.imp fun h => leI.mpr h)
def ltS (a b : Str) : Bool := ltCps (cps a) (cps b)
def sortS (l : List Str) : List Str := sortB ltS l
theorem leS {a b : Str} : leB ltS a b ↔ cps a ≤ cps b := by
  unfold leB ltS
  rw [ltCps_eq, decide_eq_false_iff_not]
  exact List.not_lt
theorem cps_inj {a b : Str} (h : cps a = cps b) : a = b := by
  cases a; cases b
  unfold cps at h
  congr 1
  exact Array.toList_inj.mp h
theorem sS_tr (a b c : Str) (x : leB ltS a b) (y : leB ltS b c) : leB ltS a c := by
  rw [leS] at *
  exact List.le_trans x y
theorem sS_an (a b : Str) (x : leB ltS a b) (y : leB ltS b a) : a = b := by
  rw [leS] at *
  exact cps_inj (List.le_antisymm x y)
theorem sS_as (a b : Str) (h : ltS a b = true) : ltS b a = false := by
  unfold ltS at *
  rw [ltCps_eq, decide_eq_true_eq] at h
  rw [ltCps_eq, decide_eq_false_iff_not]
  exact fun g => List.lt_irrefl (cps a) (List.lt_trans h g)
theorem rising_pw : ∀ (l : List Str) (p : Str), risingS p l = true → (p :: l).Pairwise (leB ltS)
  | [], p, _ => List.pairwise_singleton _ _
  | x :: r, p, h => by
    rw [risingS, Bool.and_eq_true, Bool.not_eq_true'] at h
    have ih := rising_pw r x h.2
    refine List.pairwise_cons.mpr ⟨fun z hz => ?_, ih⟩
    have h1 : leB ltS p x := h.1
    rcases List.mem_cons.mp hz with rfl | hz
    · exact h1
    · exact sS_tr p x z h1 ((List.pairwise_cons.mp ih).1 z hz)
theorem sorted_pw : ∀ (l : List Str), sortedS l = true → l.Pairwise (leB ltS)
  | [], _ => .nil
  | x :: r, h => rising_pw r x h
theorem sortS_eq {l m : List Str} (p : m.Perm l) (h : sortedS m = true) : m = sortS l := sortB_eq sS_tr sS_as sS_an p (sorted_pw m h)

/-! ### sorted(..) of fewer than 64 -/
def keysD : List (D × D) → List D := List.map (·.1)
def qSorted1 : D → Option D
  | .list ds => if ds.length.blt 64 then match intsD ds with
    | some ns => some (.list ((sortI ns).map .int))
    | none => match strsD ds with
      | some ss => some (.list ((sortS ss).map .str))
      | none => none
    else none
  | .dict es => if es.length.blt 64 then match strsD (es.map (·.1)) with
    | some ss => some (.list ((sortS ss).map .str))
    | none => match intsD (es.map (·.1)) with
      | some ns => some (.list ((sortI ns).map .int))
      | none => none
    else none
  | _ => none
def qSorted : List D → Option D := q1 qSorted1
theorem intsD_len : ∀ {ds : List D} {ns : List Int}, intsD ds = some ns → ds = ns.map .int
  | [], _, h => by cases h; rfl
  | d :: ds, ns, h => by
    cases d <;> try (cases h)
    rename_i i
    cases e2 : intsD ds with
    | none => rw [intsD, e2] at h; cases h
    | some s =>
      rw [intsD, e2] at h; cases h
      rw [intsD_len e2]; rfl
theorem strsD_len : ∀ {ds : List D} {ns : List Str}, strsD ds = some ns → ds = ns.map .str
  | [], _, h => by cases h; rfl
  | d :: ds, ns, h => by
    cases d <;> try (cases h)
    rename_i i
    cases e2 : strsD ds with
    | none => rw [strsD, e2] at h; cases h
    | some s =>
      rw [strsD, e2] at h; cases h
      rw [strsD_len e2]; rfl
section
variable {K : PySem.W.Frag} {O : OS} {H : Hp}
theorem rk_strs : ∀ {es : List (D × D)} {kvs : List (Key × V)} {ss : List Str}, RepK K O H kvs es → es.map (·.1) = ss.map .str → kvs.map (·.1) = ss.map Sum.inr
  | [], _, [], .nil, _ => rfl
  | (_, _) :: _, _, [], .cons _ _, h => by cases h
  | [], _, _ :: _, .nil, h => by cases h
  | (_, _) :: es, _, x :: ss, .cons (k := k) r q, h => by
    rw [List.map_cons, List.map_cons] at h
    have h1 := (List.cons.inj h).1
    have h2 := (List.cons.inj h).2
    rw [List.map_cons, List.map_cons, rk_strs q h2]
    congr 1
    cases k with
    | inl i => cases h1
    | inr y => cases h1; rfl
theorem rk_ints : ∀ {es : List (D × D)} {kvs : List (Key × V)} {ss : List Int}, RepK K O H kvs es → es.map (·.1) = ss.map .int → kvs.map (·.1) = ss.map Sum.inl
  | [], _, [], .nil, _ => rfl
  | (_, _) :: _, _, [], .cons _ _, h => by cases h
  | [], _, _ :: _, .nil, h => by cases h
  | (_, _) :: es, _, x :: ss, .cons (k := k) r q, h => by
    rw [List.map_cons, List.map_cons] at h
    have h1 := (List.cons.inj h).1
    have h2 := (List.cons.inj h).2
    rw [List.map_cons, List.map_cons, rk_ints q h2]
    congr 1
    cases k with
    | inl i => cases h1; rfl
    | inr y => cases h1
theorem rt_not : ∀ {es : List (D × D)} {kvs : List (List Key × V)}, RepT K O H kvs es → ∀ {ss : List Str}, es.map (·.1) = ss.map .str → es = []
  | [], _, .nil, _, _ => rfl
  | (_, _) :: es, _, .cons _ r q, [], h => by cases h
  | (_, _) :: es, _, .cons _ r q, _ :: _, h => by
    rw [List.map_cons, List.map_cons] at h
    exact absurd (List.cons.inj h).1 (by unfold keyTD; intro z; cases z)
theorem rt_notI : ∀ {es : List (D × D)} {kvs : List (List Key × V)}, RepT K O H kvs es → ∀ {ss : List Int}, es.map (·.1) = ss.map .int → es = []
  | [], _, .nil, _, _ => rfl
  | (_, _) :: es, _, .cons _ r q, [], h => by cases h
  | (_, _) :: es, _, .cons _ r q, _ :: _, h => by
    rw [List.map_cons, List.map_cons] at h
    exact absurd (List.cons.inj h).1 (by unfold keyTD; intro z; cases z)
end
section
variable {X : Cx} {e : Expr} {es : List Expr} {ga : FA} {p pos : Pos}
theorem isK_strs {es : List (D × D)} {ss : List Str} (h : strsD (es.map (·.1)) = some ss) : isK es = false := by
  cases es with
  | nil => rfl
  | cons e r =>
    obtain ⟨k, v⟩ := e
    cases k <;> first | rfl | cases h
theorem isK_ints {es : List (D × D)} {ss : List Int} (h : intsD (es.map (·.1)) = some ss) : isK es = false := by
  cases es with
  | nil => rfl
  | cons e r =>
    obtain ⟨k, v⟩ := e
    cases k <;> first | rfl | cases h
theorem on_sorted : OpNN X.K (fun xs H Q => ((∃ (a : Addr) (kvs : List (Key × V)) (ks : List Str), xs = [.ref a] ∧ Rd H a (.dK kvs) ∧ kvs.map (·.1) = ks.map Sum.inr ∧ ks.length < 64 ∧ ∀ ys p, ys.Perm ks → sortedS ys = true → H p = none → Q (.ref p) (upd H p (.lst (ys.map V.str)))) ∨
    (∃ (a : Addr) (kvs : List (Key × V)) (ks : List Int), xs = [.ref a] ∧ Rd H a (.dK kvs) ∧ kvs.map (·.1) = ks.map Sum.inl ∧ ks.length < 64 ∧ ∀ (ys : List Int) (p : Addr), ys.Perm ks → ys.Pairwise (· ≤ ·) → H p = none → Q (.ref p) (upd H p (.lst (ys.map V.int)))))
    ∨ (rSorted X.K xs H Q ∨ rSortedS X.K xs H Q)) (q1 fun d => match d with
      | .dict es => if es.isEmpty then none else qSorted1 (.dict es)
      | d => qSorted1 d) := onn1 fun O H v x d Q hd rv hx q => by
  have fI : ∀ {p : Addr} {ns : List Int}, H p = none → Top X.K (addO O p) (upd H p (.lst ((sortI ns).map V.int))) p (.list ((sortI ns).map .int)) := fun hp => .lst upd_same (rl_ofInts _)
  have fS : ∀ {p : Addr} {ns : List Str}, H p = none → Top X.K (addO O p) (upd H p (.lst ((sortS ns).map V.str))) p (.list ((sortS ns).map .str)) := fun hp => .lst upd_same (rl_ofStrs _)
  split at hx
  · rename_i es
    split at hx
    · cases hx
    rename_i hne
    have hx : (if es.length.blt 64 then match strsD (es.map (·.1)) with
      | some ss => some (.list ((sortS ss).map .str))
      | none => match intsD (es.map (·.1)) with
        | some ns => some (.list ((sortI ns).map .int))
        | none => none
      else none) = some d := hx
    split at hx
    case isFalse => cases hx
    rename_i hl
    have hl := Nat.blt_eq.mp hl
    split at hx
    · rename_i ss h2
      cases hx
      have h3 := strsD_len h2
      have h4 : ss.length = es.length := by have := congrArg List.length h3; rw [List.length_map, List.length_map] at this; exact this.symm
      obtain ⟨p, rfl, ⟨kvs, hp, rp⟩ | ⟨kvs, hp, rp⟩⟩ := rb_dict (isK_strs h2) rv
      · exact .inl (.inl ⟨p, kvs, ss, rfl, hp, rk_strs rp h3, by omega, fun ys p' hy hs hp' => by rw [sortS_eq hy hs]; exact q p' _ hp' (fS hp')⟩)
      · exact absurd (rt_not rp h3) (by rintro rfl; exact hne rfl)
    · split at hx
      · rename_i ns h2
        cases hx
        have h3 := intsD_len h2
        have h4 : ns.length = es.length := by have := congrArg List.length h3; rw [List.length_map, List.length_map] at this; exact this.symm
        obtain ⟨p, rfl, ⟨kvs, hp, rp⟩ | ⟨kvs, hp, rp⟩⟩ := rb_dict (isK_ints h2) rv
        · exact .inl (.inr ⟨p, kvs, ns, rfl, hp, rk_ints rp h3, by omega, fun ys p' hy hs hp' => by rw [sortI_eq hy hs]; exact q p' _ hp' (fI hp')⟩)
        · exact absurd (rt_notI rp h3) (by rintro rfl; exact hne rfl)
      · cases hx
  · rename_i x hn
    unfold qSorted1 at hx
    split at hx
    · rename_i ds
      split at hx
      case isFalse => cases hx
      rename_i hl
      have hl := Nat.blt_eq.mp hl
      obtain ⟨p, xs, rfl, hp, rp⟩ := rb_list rv
      have hlen := rp.length
      split at hx
      · rename_i ns h2
        cases hx
        have h3 := intsD_len h2
        have h4 : ns.length = ds.length := by have := congrArg List.length h3; rw [List.length_map] at this; exact this.symm
        rw [rl_ints rp h2] at hp
        exact .inr (.inl ⟨p, ns, rfl, .of hp, by omega, fun ys p' hy hs hp' => by rw [sortI_eq hy hs]; exact q p' _ hp' (fI hp')⟩)
      · split at hx
        · rename_i ss h2
          cases hx
          have h3 := strsD_len h2
          have h4 : ss.length = ds.length := by have := congrArg List.length h3; rw [List.length_map] at this; exact this.symm
          rw [rl_strs rp h2] at hp
          exact .inr (.inr ⟨p, ss, rfl, .of hp, by omega, fun ys p' hy hs hp' => by rw [sortS_eq hy hs]; exact q p' _ hp' (fS hp')⟩)
        · cases hx
    · exact absurd rfl (hn _)
    · cases hx
def qSortedF : List D → Option D := q1 fun d => match d with
  | .dict es => if es.isEmpty then none else qSorted1 (.dict es)
  | d => qSorted1 d
theorem sn_sorted (hc : X.calm = true) (hm : X.mg "sorted" = none) (ha : SAB X (e :: es) ga) (hg : Gl X "sorted" := by rfl) (he : starEach (e :: es) X.env = (false, eval e X.env) :: starEach es X.env := by rfl) (hpl : (backTo pos (starEach es X.env)).any (·.1) = false := by rfl) : SN X (.Call (.Name "sorted" p) (e :: es) [] pos) (eCall qSortedF ga) :=
  sn_callB (((call_sortedD hc).or (call_sortedDI hc)).or (cr_sorted.or cr_sortedS)) on_sorted hm ha (by decide +kernel) hg (by decide) (by decide) he hpl
end
end Dv

/-! Dv19: enumerate over a list, a tuple, a text; reversed; max, min of a tuple. -/
namespace PySem
open Sem (wp)
set_option maxHeartbeats 1000000 in
theorem meets_enumerate_new1B {v : Value} {o : Obj} {H : Heap → Prop} (B : Begins v o H) :
    Meets (Builtin.«enumerate.__new__» ⟨[.type "enumerate", v], []⟩) (fun _ R s => H s.heap ∧
      R (.ok (.ret (.ref (s.heap.push o).objs.size))) { s with heap := (s.heap.push o).push { cls := .type "enumerate", data := .fields #[.none, .bool false, .ref s.heap.objs.size, rawInt 0, .none, .none] } }) :=
  .of_wp fun prog w A R s h => by
    obtain ⟨hp, g, d, tk, os⟩ := s; obtain ⟨h1, h⟩ := h
    have hsub := sub_enumerate
    have q1 : ∀ {A' : Around} {E : Value → Shared → Prop} {Q : Value → Shared → Prop}, Q (.ref hp.objs.size) ⟨hp.push o, g, d, tk, os⟩ → wpAny (model prog w) A' (pyIter v) Q E ⟨hp, g, d, tk, os⟩ :=
      fun q => B.iter prog w _ _ ⟨hp, g, d, tk, os⟩ _ h1 q
    wp_walk using q1
    refine wpAny_stack_any fun st => wpAny_pure ?_
    split
    · rename_i c _ _ _ _ _
      cases (c == Value.type "enumerate")
      · wp_walk using q1
        exact ⟨_, rfl, h⟩
      · wp_walk using q1
        exact ⟨_, rfl, h⟩
    · wp_walk using q1
      exact ⟨_, rfl, h⟩
section
variable {prog : Program} {w : World} {A : Around} {E : Value → Shared → Prop} {s : Shared}
theorem enum_begins1 {v : Value} {o : Obj} {H : Heap → Prop} {Q : Value → Shared → Prop} (B : Begins v o H) (h1 : H s.heap)
    (h : ∀ h', IsEnum h' (s.heap.objs.size + 1) s.heap.objs.size 0 .none → h'.get? s.heap.objs.size = some o → h'.objs.size = s.heap.objs.size + 2 →
      (∀ b o, s.heap.get? b = some o → h'.get? b = some o) → Q (.ref (s.heap.objs.size + 1)) { s with heap := h' }) :
    wpAny (model prog w) A (call (.type "enumerate") [v]) Q E s := by
  refine callType_new F.called_enumerate (by decide) (F.typeCall_enumerate_1 _) (F.newCall_enumerate_1 _) (fun obj => F.args_object_init_2 obj _) F.entry_enumerate_new
    (meets_enumerate_new1B B) ⟨h1, ?_⟩
  have hz : (s.heap.push o).objs.size = s.heap.objs.size + 1 := Heap.size_push ..
  show _ ∧ _
  rw [hz]
  have he : IsEnum ((s.heap.push o).push { cls := .type "enumerate", data := .fields #[.none, .bool false, .ref s.heap.objs.size, rawInt 0, .none, .none] }) (s.heap.objs.size + 1) s.heap.objs.size 0 .none := by
    have := Heap.get?_push_size (s.heap.push o) (o := { cls := .type "enumerate", data := .fields #[.none, .bool false, .ref s.heap.objs.size, rawInt 0, .none, .none] }) rfl
    rw [hz] at this; exact this
  refine ⟨⟨_, he, rfl⟩, h _ he (Heap.get?_push_of_some _ (Heap.get?_push_size _ B.free)) (by rw [Heap.size_push, hz]) fun b o x => Heap.get?_push_of_some _ (Heap.get?_push_of_some _ x)⟩
end
end PySem
namespace Dv
open PySem PySem.Spec PyProof.Rows L2

/-- enumerate over what is known to be xs while G stands -/
def IteG (G : Hp → Prop) (xs : List V) : It :=
  ⟨fun i H => i < xs.length ∧ G H, fun i H v H' => ∃ T x, v = .ref T ∧ H T = none ∧ H' = upd H T (.tup [.int (i : Nat), x]) ∧ xs[i]? = some x, fun i H => xs.length ≤ i ∧ G H⟩
/-- one turn, by what the iterator draws -/
theorem enum_turn {X : Cx} {elts : List Expr} {kk : Nat} {tpos : Pos} {e it : Addr} {fp : List Addr} {n i : Nat} {P : Nat → Value → Prop} {St : Nat → Heap → Prop} {St0 : Nat → Heap → Prop} {pins : List (Addr × Obj)} {s : Shared} {σ : L2.St} {H : Hp} {E : Value → Shared → Prop} {x : V} {old : Value}
    (I : Inv X pins σ H s) (hf : ∀ b ∈ [e, it], FpOk X pins H b) (D : Draws X.prog X.w X.A.in1 it fp n P St) (he : IsEnum s.heap e it ((i : Nat) : Int) old) (hst : St i s.heap) (hlt : i < n) (hne : e ≠ it) (hef : e ∉ fp) (hP : ∀ v, P i v → RelV x v)
    (h0 : ∀ j h, St j h → St0 j h) (hk0 : ∀ j h h', St0 j h → (∀ o, h.get? it = some o → h'.get? it = some o) → St0 j h') {R : Nat → Heap → Prop} (hR : ∀ h, (∃ old, IsEnum h e it ((i + 1 : Nat) : Int) old) → St0 (i + 1) h → R (i + 1) h) :
    wpAny (model X.prog X.w) X.A (pyNext (.ref e)) (fun r s1 => ∃ u, r = some u ∧
      wpAny (model X.prog X.w) X.A (letOwnedTupleGo (.Tuple elts kk tpos) (.ref e) u) (fun _ s2 => ∃ v H', Inv X pins σ H' s2 ∧ RelV v u ∧ (∃ T, v = .ref T ∧ H T = none ∧ H' = upd H T (.tup [.int (i : Nat), x])) ∧ R (i + 1) s2.heap ∧ ∀ b ∈ [e, it], H' b = none) E s1) E s := by
  have hel : e < s.heap.objs.size := Heap.lt_size he
  have hil : it < s.heap.objs.size := by obtain ⟨o, q⟩ := D.live _ _ hst; exact Heap.lt_size q
  refine wpAny_pyNext_enum_itemC D he hst hlt hne hef fun u h' tk hu ho hst' hT hsz hk => ?_
  refine ⟨_, rfl, wpAny_letOwnedTupleGo_enum (s := { s with heap := h', toks := tk + 1 }) ho fun h'' he' sb => ?_⟩
  have hT2 : h''.get? s.heap.objs.size = some { cls := .type "tuple", data := .seq #[.int i tk, u] } := (sb.2 _ (Nat.ne_of_gt hel)).trans hT
  have new : ObjOk X.prog X.w (upd H s.heap.objs.size (.tup [.int (i : Nat), x])) h'' s.heap.objs.size (.tup [.int (i : Nat), x]) :=
    ⟨by show 2 ≤ sizeLine; decide, [.int i tk, u], .cons ⟨_, rfl⟩ (.cons (hP u hu) .nil), ⟨_, hT2, rfl, _, rfl⟩⟩
  have I1 : Inv X pins σ (upd H s.heap.objs.size (.tup [.int (i : Nat), x])) { s with heap := h'', toks := tk + 1 } :=
    I.turnedNew (ch := [e, it]) (fun b o hb q => (sb.2 b (fun z => hb (by simp [z]))).trans (hk b o (fun z => hb (by simp [z])) (fun z => hb (by simp [z])) q)) hf (Nat.le_refl _) new
  refine ⟨.ref s.heap.objs.size, _, I1, rfl, ⟨_, rfl, I.hok.fresh (Nat.le_refl _), rfl⟩, hR _ ⟨u, ?_⟩ (hk0 _ _ _ (h0 _ _ hst') fun o q => (sb.2 it (Ne.symm hne)).trans q), fun b hb => ?_⟩
  · have e1 : ((i + 1 : Nat) : Int) = (i : Int) + 1 := by omega
    rw [e1]; exact he'
  · have hb' : b < s.heap.objs.size := by
      have e' : b = e ∨ b = it := by simpa using hb
      rcases e' with z | z
      · rw [z]; exact hel
      · rw [z]; exact hil
    rw [upd_ne (Nat.ne_of_lt hb')]
    exact (hf b hb).1
theorem turn_enumT {P : Program} {w : World} {K : PySem.W.Frag} {elts : List Expr} {kk : Nat} {tpos : Pos} (a e it : Addr) (xs : List V) :
    Turn P w K (.Tuple elts kk tpos) (IteG (fun H => SqT K H a xs) xs) [e, it] e (fun i h => (∃ old, IsEnum h e it ((i : Nat) : Int) old) ∧ (h.IsTupleIter it a i ∧ i ≤ xs.length) ∧ e ≠ it) where
  mem := by simp
  obj := fun i h st b hb => by
    obtain ⟨⟨old, he⟩, ⟨⟨o, ho, hc, hd⟩, _⟩, _⟩ := st
    have e' : b = e ∨ b = it := by simpa using hb
    rcases e' with z | z
    · rw [z]; exact ⟨_, he, fun v q => nomatch q⟩
    · rw [z]; exact ⟨o, ho, fun v q => by rw [hd] at q; cases q⟩
  keep := fun i h h' st k => let ⟨⟨old, he⟩, ⟨hi, hl⟩, hne⟩ := st; ⟨⟨old, k e (by simp) _ he⟩, ⟨hi.at fun o q => k it (by simp) o q, hl⟩, hne⟩
  item := by
    intro X hP hw hK hc i pins s σ H E I hf st hg
    subst hP hw hK
    obtain ⟨⟨old, he⟩, ⟨hit, hl⟩, hne⟩ := st
    obtain ⟨hlt, hq⟩ := hg
    obtain ⟨its, rv, p, hz⟩ := I.tuple hq
    have hlen := rv.length
    have hx : xs[i]? = some xs[i] := List.getElem?_eq_getElem hlt
    obtain ⟨u, hu, ru⟩ := rv.get hx
    obtain ⟨ol, hol, hcl, _⟩ := id p
    have ha : a ≠ it := fun z => by
      obtain ⟨oi, hoi, hci, _⟩ := id hit
      rw [z, hoi] at hol
      cases hol
      rw [hci] at hcl
      exact absurd hcl (by decide)
    have hae : a ≠ e := fun z => by
      have he' : s.heap.get? e = _ := he
      rw [z, he'] at hol
      cases hol
      have q : Value.type "enumerate" = Value.type "tuple" := hcl
      exact absurd q (by decide)
    refine thn (enum_turn (elts := elts) (kk := kk) (tpos := tpos) (x := xs[i]) (St0 := fun i h => h.IsTupleIter it a i) (R := fun i h => (∃ old, IsEnum h e it ((i : Nat) : Int) old) ∧ (h.IsTupleIter it a i ∧ i ≤ xs.length) ∧ e ≠ it) I hf (Draws.tuple (A := X.A.in1) (I.ok.hd hc) it a ha its.toArray) he ⟨hit, p⟩ (by simp; omega) hne (by simp; exact ⟨hne, fun z => hae z.symm⟩)
      (fun v hv => by
        have hv : its.toArray[i]? = some v := hv
        rw [List.getElem?_toArray, hu] at hv
        cases hv; exact ru) (fun j h st => st.1) (fun j h h' st k => st.at k) (fun h h1 h2 => ⟨h1, ⟨h2, hlt⟩, hne⟩)) fun r s1 ⟨u', er, h1⟩ => ⟨u', er, thn h1 fun _ s2 ⟨v, H', I', rv', ⟨T, ev, hT, eH⟩, h3, h4⟩ => ⟨v, H', I', rv', ⟨T, _, ev, hT, eH, hx⟩, h3, h4⟩⟩
  done := by
    intro X hP hw hK hc i pins s σ H E I hf st hg
    subst hP hw hK
    obtain ⟨⟨old, he⟩, ⟨hit, hl⟩, hne⟩ := st
    obtain ⟨hge, hq⟩ := hg
    obtain ⟨its, rv, p, hz⟩ := I.tuple hq
    have hlen := rv.length
    have ei : i = xs.length := Nat.le_antisymm hl hge
    obtain ⟨ol, hol, hcl, _⟩ := id p
    have ha : a ≠ it := fun z => by
      obtain ⟨oi, hoi, hci, _⟩ := id hit
      rw [z, hoi] at hol
      cases hol
      rw [hci] at hcl
      exact absurd hcl (by decide)
    obtain ⟨f0, f1, f2, f3, f4, f5⟩ := hf it (by simp)
    have en : i = its.toArray.size := by rw [ei, List.size_toArray]; exact hlen
    refine wpAny_pyNext_enum_endD (Draws.tuple (A := X.A.in1) (I.ok.hd hc) it a ha its.toArray) he ⟨by rw [← en]; exact hit, p⟩ fun h' eb => ⟨rfl, I.turned (t' := s.toks) (fun b o hb q => eb b o hb q) f0 f1 f3 f4 f5⟩
  self := fun A i s Q E st h => let ⟨⟨_, he⟩, _⟩ := st; wpAny_pyIter_enum he h
def chV (z : Str) : List V := z.cps.toList.map fun c => .str ⟨#[c]⟩
theorem turn_enumS {P : Program} {w : World} {K : PySem.W.Frag} {elts : List Expr} {kk : Nat} {tpos : Pos} (z : Str) (t : Tok) (e it : Addr) :
    Turn P w K (.Tuple elts kk tpos) (IteG (fun _ => True) (chV z)) [e, it] e (fun i h => (∃ old, IsEnum h e it ((i : Nat) : Int) old) ∧ (h.IsStrIter it (strIterType z) z t i ∧ i ≤ z.cps.size) ∧ e ≠ it) where
  mem := by simp
  obj := fun i h st b hb => by
    obtain ⟨⟨old, he⟩, ⟨⟨o, ho, hc, hd⟩, _⟩, _⟩ := st
    have e' : b = e ∨ b = it := by simpa using hb
    rcases e' with z | z
    · rw [z]; exact ⟨_, he, fun v q => nomatch q⟩
    · rw [z]; exact ⟨o, ho, fun v q => by rw [hd] at q; cases q⟩
  keep := fun i h h' st k => let ⟨⟨old, he⟩, ⟨⟨o, ho, r⟩, hl⟩, hne⟩ := st; ⟨⟨old, k e (by simp) _ he⟩, ⟨⟨o, k it (by simp) o ho, r⟩, hl⟩, hne⟩
  item := by
    intro X hP hw hK hc i pins s σ H E I hf st hg
    subst hP hw hK
    obtain ⟨⟨old, he⟩, ⟨hit, hl⟩, hne⟩ := st
    obtain ⟨hlt, _⟩ := hg
    have hlt : i < z.cps.size := by unfold chV at hlt; rw [List.length_map, Array.length_toList] at hlt; exact hlt
    have hcx : z.cps[i]? = some z.cps[i] := Array.getElem?_eq_getElem hlt
    refine thn (enum_turn (elts := elts) (kk := kk) (tpos := tpos) (x := .str ⟨#[z.cps[i]]⟩) (St0 := fun i h => h.IsStrIter it (strIterType z) z t i) (R := fun i h => (∃ old, IsEnum h e it ((i : Nat) : Int) old) ∧ (h.IsStrIter it (strIterType z) z t i ∧ i ≤ z.cps.size) ∧ e ≠ it) I hf (Draws.text (A := X.A.in1) (I.ok.hd hc) it z t) he hit hlt hne (by simp; exact hne)
      (fun v hv => by
        obtain ⟨c, u, hc', ev⟩ := hv
        rw [hcx] at hc'
        cases hc'
        exact ⟨u, ev⟩) (fun j h st => st) (fun j h h' st k => let ⟨o, ho, r⟩ := st; ⟨o, k o ho, r⟩) (fun h h1 h2 => ⟨h1, ⟨h2, hlt⟩, hne⟩)) fun r s1 ⟨u', er, h1⟩ => ⟨u', er, thn h1 fun _ s2 ⟨v, H', I', rv', ⟨T, ev, hT, eH⟩, h3, h4⟩ => ⟨v, H', I', rv', ⟨T, _, ev, hT, eH, ?_⟩, h3, h4⟩⟩
    unfold chV
    rw [List.getElem?_map, Array.getElem?_toList, hcx]
    rfl
  done := by
    intro X hP hw hK hc i pins s σ H E I hf st hg
    subst hP hw hK
    obtain ⟨⟨old, he⟩, ⟨hit, hl⟩, hne⟩ := st
    obtain ⟨hge, _⟩ := hg
    have hge : z.cps.size ≤ i := by unfold chV at hge; rw [List.length_map, Array.length_toList] at hge; exact hge
    have ei : i = z.cps.size := Nat.le_antisymm hl hge
    obtain ⟨f0, f1, f2, f3, f4, f5⟩ := hf it (by simp)
    refine wpAny_pyNext_enum_endD (Draws.text (A := X.A.in1) (I.ok.hd hc) it z t) he (by rw [← ei]; exact hit) fun h' eb => ⟨rfl, I.turned (t' := s.toks) (fun b o hb q => eb b o hb q) f0 f1 f3 f4 f5⟩
  self := fun A i s Q E st h => let ⟨⟨_, he⟩, _⟩ := st; wpAny_pyIter_enum he h
def iEnumA (K : PySem.W.Frag) (te : TE) : TI := fun σ H R => te σ H fun x H1 => (∃ a xs, x = .ref a ∧ SqL K H1 a xs ∧ R (Ite K a) H1) ∨ (∃ a xs, x = .ref a ∧ SqT K H1 a xs ∧ R (IteG (fun H => SqT K H a xs) xs) H1) ∨ ∃ z, x = .str z ∧ R (IteG (fun _ => True) (chV z)) H1
section
variable {X : Cx} {e : Expr} {te : TE} {fe : FE} {p pos tpos : Pos} {elts : List Expr} {kk : Nat}
theorem pie2 {pins : List (Addr × Obj)} {s1 : Shared} {σ : L2.St} {H1 : Hp} {h' : Heap} (I1 : Inv X pins σ H1 s1) (b : Addr) (hb : b ∈ [s1.heap.objs.size + 1, s1.heap.objs.size]) : FpOk X pins H1 b := by
  have e' : b = s1.heap.objs.size + 1 ∨ b = s1.heap.objs.size := by simpa using hb
  have hle : s1.heap.objs.size ≤ b := by
    rcases e' with z | z
    · rw [z]; exact Nat.le_add_right _ _
    · rw [z]; exact Nat.le_refl _
  exact I1.fpOk hle (I1.hok.fresh hle)
theorem pi_enumA (hg : Gl X "enumerate") (hm : X.mg "enumerate" = none) (he : PE X e te) (hs : starEach [e] X.env = (false, eval e X.env) :: starEach [] X.env := by rfl) (hs1 : starEach [e] X.env = [(false, eval e X.env)] := by rfl) :
    PI X (.Tuple elts kk tpos) (.Call (.Name "enumerate" p) [e] [] pos) (iEnumA X.K te) := by
  refine ⟨fun pins s σ H R I h => ?_⟩
  refine Call_ (ld_blt I hg hm boot_enumerate (PyProof.Rows.callWith_type1 (args_cons (thn (he.run pins s σ H _ I h) fun u s1 ⟨v, H1, I1, r1, q1⟩ => args_nil ?_) hs) hs1 rfl))
  rcases q1 with ⟨a, xs, rfl, hq, q⟩ | ⟨a, xs, rfl, hq, q⟩ | ⟨z, rfl, q⟩
  · obtain rfl : u = Value.ref a := r1
    obtain ⟨its, rv, p', hz⟩ := I1.list hq
    refine call_enumerate_list p'.isList fun h' he hit hsz hk => wpAny_pyIter_enum he ?_
    exact ⟨s1.heap.objs.size + 1, [s1.heap.objs.size + 1, s1.heap.objs.size], _, _, H1, rfl, I1.kept (t' := s1.toks) hk, turn_enum a (s1.heap.objs.size + 1) s1.heap.objs.size, ⟨⟨.none, he⟩, hit, Nat.succ_ne_self _⟩, fun b hb => pie2 (h' := h') I1 b hb, q⟩
  · obtain rfl : u = Value.ref a := r1
    obtain ⟨its, rv, p', hz⟩ := I1.tuple hq
    refine PySem.enum_begins1 (begins_tuple a its.toArray) p' fun h' he hit hsz hk => wpAny_pyIter_enum he ?_
    exact ⟨s1.heap.objs.size + 1, [s1.heap.objs.size + 1, s1.heap.objs.size], _, _, H1, rfl, I1.kept (t' := s1.toks) hk, turn_enumT a (s1.heap.objs.size + 1) s1.heap.objs.size xs, ⟨⟨.none, he⟩, ⟨⟨_, hit, rfl, rfl⟩, Nat.zero_le _⟩, Nat.succ_ne_self _⟩, fun b hb => pie2 (h' := h') I1 b hb, q⟩
  · obtain ⟨t, rfl⟩ := r1
    refine PySem.enum_begins1 (begins_text z t) trivial fun h' he hit hsz hk => wpAny_pyIter_enum he ?_
    exact ⟨s1.heap.objs.size + 1, [s1.heap.objs.size + 1, s1.heap.objs.size], _, _, H1, rfl, I1.kept (t' := s1.toks) hk, turn_enumS z t (s1.heap.objs.size + 1) s1.heap.objs.size, ⟨⟨.none, he⟩, ⟨⟨_, hit, rfl, rfl⟩, Nat.zero_le _⟩, Nat.succ_ne_self _⟩, fun b hb => pie2 (h' := h') I1 b hb, q⟩
def enumD : Nat → List D → List D
  | _, [] => []
  | i, d :: r => kT [.int i, d] :: enumD (i + 1) r
theorem enumD_len : ∀ (ds : List D) (i : Nat), (enumD i ds).length = ds.length
  | [], _ => rfl
  | _ :: r, i => by rw [enumD, List.length_cons, List.length_cons, enumD_len r]
theorem enumD_get : ∀ (ds : List D) (i j : Nat) (d : D), (enumD i ds)[j]? = some d → ∃ x, ds[j]? = some x ∧ d = kT [.int ((i + j : Nat) : Int), x]
  | [], _, _, _, h => by cases h
  | x :: r, i, 0, d, h => by cases h; exact ⟨x, rfl, rfl⟩
  | x :: r, i, j + 1, d, h => by
    obtain ⟨y, h1, h2⟩ := enumD_get r (i + 1) j d h
    exact ⟨y, h1, by rw [h2, show i + 1 + j = i + (j + 1) by omega]⟩
theorem pair_new {K : PySem.W.Frag} {O : OS} {H : Hp} {T : Addr} {i : Nat} {x : V} {d : D} (hT : H T = none) (r : Rep K O H x d) : Rep K O (upd H T (.tup [.int (i : Nat), x])) (.ref T) (kT [.int (i : Nat), d]) :=
  .ktp (.of upd_same) (.cons (.int _) (.cons (r.go (Gr.new hT) (fun _ z _ => z.elim) fun _ z => .inl z) .nil))
theorem walk_enumL {K : PySem.W.Frag} {O : OS} {H : Hp} {a : Addr} {xs : List V} {ds : List D} (no : ¬ O a) (e : H a = some (.lst xs)) (r : RepL K O H xs ds) : Walk K O H (Ite K a) (enumD 0 ds) := fun i O' H' af _ => by
  have e' : H' a = some (.lst xs) := af.xt _ _ e (.inl no)
  have r' := af.repL r
  refine ⟨fun d h => ?_, fun h => ⟨xs, .of e', by rw [r'.length, ← enumD_len ds 0]; exact h⟩⟩
  obtain ⟨x, hx, ed⟩ := enumD_get ds 0 i d h
  obtain ⟨v, hv, rv⟩ := r'.get hx
  refine ⟨⟨xs, v, .of e', hv⟩, fun w H'' ⟨T, y, ew, hT, eH, hy⟩ => ?_⟩
  have := hy xs (.of e')
  rw [hv] at this
  cases this
  subst ew eH ed
  rw [Nat.zero_add]
  exact ⟨Gr.new hT, pair_new hT rv⟩
theorem walk_enumG {K : PySem.W.Frag} {O : OS} {H : Hp} {G : Hp → Prop} {xs : List V} {ds : List D} (g : ∀ O' H', Aft O O' H H' → G H') (r : RepL K O H xs ds) : Walk K O H (IteG G xs) (enumD 0 ds) := fun i O' H' af _ => by
  have r' := af.repL r
  have hl := r'.length
  refine ⟨fun d h => ?_, fun h => ⟨by rw [hl, ← enumD_len ds 0]; exact h, g O' H' af⟩⟩
  obtain ⟨x, hx, ed⟩ := enumD_get ds 0 i d h
  obtain ⟨v, hv, rv⟩ := r'.get hx
  refine ⟨⟨(List.getElem?_eq_some_iff.mp hv).1, g O' H' af⟩, fun w H'' ⟨T, y, ew, hT, eH, hy⟩ => ?_⟩
  rw [hv] at hy
  cases hy
  subst ew eH ed
  rw [Nat.zero_add]
  exact ⟨Gr.new hT, pair_new hT rv⟩
theorem rl_chars {K : PySem.W.Frag} {O : OS} {H : Hp} : ∀ cs : List Nat, RepL K O H (cs.map fun c => V.str ⟨#[c]⟩) (cs.map fun c => .str (S [c]))
  | [] => .nil
  | c :: cs => .cons (.str _) (rl_chars cs)
def iEnumF (fa : FE) : FI := fun ρ T => match fa ρ T with
  | none => none
  | some (d, T1) => match seqD d with
    | none => none
    | some ds => some (enumD 0 ds, T1)
theorem si_enum (hm : X.mg "enumerate" = none) (h : SE X e fe) (hg : Gl X "enumerate" := by rfl) (hs : starEach [e] X.env = (false, eval e X.env) :: starEach [] X.env := by rfl) (hs1 : starEach [e] X.env = [(false, eval e X.env)] := by rfl) : SI X (.Tuple elts kk tpos) (.Call (.Name "enumerate" p) [e] [] pos) (iEnumF fe) := ⟨PI.imp (pi_enumA hg hm h.pe hs hs1) fun σ H R ⟨G, B, O, τ, ρ, T, ds, T', E, hf, q⟩ => by
  unfold iEnumF at hf
  split at hf
  · cases hf
  rename_i d T1 h1
  split at hf
  · cases hf
  rename_i ds' h2
  cases hf
  refine ⟨G, B, O, τ, ρ, T, d, T', E, h1, fun v H1 x t r => ?_⟩
  unfold seqD at h2
  split at h2
  · cases h2
    cases r with
    | lst no e r => exact .inl ⟨_, _, rfl, .of e, q _ H1 x t (walk_enumL no e r)⟩
  · cases h2
    cases r with
    | tup e c r => exact .inr (.inl ⟨_, _, rfl, .inl (c.rd e), q _ H1 x t (walk_enumG (fun O' H' af => af.xt.sqT (.inl (c.rd e))) r)⟩)
  · cases h2
    cases r
    exact .inr (.inr ⟨_, rfl, q _ H1 x t (walk_enumG (fun _ _ _ => trivial) (rl_chars _))⟩)
  · cases h2⟩

/-! ### reversed -/
def iRevF (fa : FE) : FI := fun ρ T => match fa ρ T with
  | some (.list ds, T1) => some (ds.reverse, T1)
  | some (.tuple ds, T1) => some (ds.reverse, T1)
  | _ => none
theorem rev_get {α : Type} {xs : List α} {i : Nat} (h : i < xs.length) : xs[xs.length - 1 - i]? = xs.reverse[i]? := by
  rw [List.getElem?_reverse h]
theorem walk_revL {K : PySem.W.Frag} {O : OS} {H : Hp} {a : Addr} {xs : List V} {ds : List D} (no : ¬ O a) (e : H a = some (.lst xs)) (r : RepL K O H xs ds) : Walk K O H (Itv K a xs.length) ds.reverse := fun i O' H' af _ => by
  have e' : H' a = some (.lst xs) := af.xt _ _ e (.inl no)
  have r' := rl_rev (af.repL r)
  have hl := r'.length
  rw [List.length_reverse] at hl
  refine ⟨fun d h => ?_, fun h => by show xs.length ≤ i; omega⟩
  obtain ⟨v, hv, rv⟩ := r'.get h
  have hi : i < xs.length := by have := (List.getElem?_eq_some_iff.mp hv).1; rw [List.length_reverse] at this; exact this
  refine ⟨⟨hi, xs, v, .of e', by rw [rev_get hi]; exact hv⟩, fun x H'' ⟨e1, e2⟩ => ?_⟩
  subst e1
  have := e2 xs (.of e')
  rw [rev_get hi, hv] at this
  cases this
  exact ⟨Xt.refl _, rv⟩
theorem walk_revT {K : PySem.W.Frag} {O : OS} {H : Hp} {a : Addr} {xs : List V} {ds : List D} (e : SqT K H a xs) (r : RepL K O H xs ds) : Walk K O H (RT.ItvT K a xs.length) ds.reverse := fun i O' H' af _ => by
  have e' : SqT K H' a xs := af.xt.sqT e
  have r' := rl_rev (af.repL r)
  have hl := r'.length
  rw [List.length_reverse] at hl
  refine ⟨fun d h => ?_, fun h => by show xs.length ≤ i; omega⟩
  obtain ⟨v, hv, rv⟩ := r'.get h
  have hi : i < xs.length := by have := (List.getElem?_eq_some_iff.mp hv).1; rw [List.length_reverse] at this; exact this
  refine ⟨⟨hi, xs, v, e', by rw [rev_get hi]; exact hv⟩, fun x H'' ⟨e1, e2⟩ => ?_⟩
  subst e1
  have := e2 xs e'
  rw [rev_get hi, hv] at this
  cases this
  exact ⟨Xt.refl _, rv⟩
theorem si_rev {tg : Expr} (hm : X.mg "reversed" = none) (h : SE X e fe) (hg : Gl X "reversed" := by rfl) (hs : starEach [e] X.env = (false, eval e X.env) :: starEach [] X.env := by rfl) : SI X tg (.Call (.Name "reversed" p) [e] [] pos) (iRevF fe) := ⟨PI.imp (RT.pi_revA hg hm h.pe hs) fun σ H R ⟨G, B, O, τ, ρ, T, ds, T', E, hf, q⟩ => by
  unfold iRevF at hf
  split at hf
  · rename_i ds' T1 h1
    cases hf
    refine ⟨G, B, O, τ, ρ, T, _, T', E, h1, fun v H1 x t r => ?_⟩
    cases r with
    | lst no e r => exact ⟨_, _, rfl, .inl ⟨.of e, q _ H1 x t (walk_revL no e r)⟩⟩
  · rename_i ds' T1 h1
    cases hf
    refine ⟨G, B, O, τ, ρ, T, _, T', E, h1, fun v H1 x t r => ?_⟩
    cases r with
    | tup e c r => exact ⟨_, _, rfl, .inr ⟨.inl (c.rd e), q _ H1 x t (walk_revT (.inl (c.rd e)) r)⟩⟩
  · cases hf⟩
end
end Dv

/-! Dv20: max, min, sum of tuples; a text's replace, with a token out. -/
namespace Dv
open PySem PySem.Spec PyProof.Rows L2
section
variable {prog : Program} {w : World} {A : Around} {E : Value → Shared → Prop} {s : Shared} {l : Addr} {its : List Value} {ns : List Int} {Q : Value → Shared → Prop}
theorem iter_tup {items : Array Value} {Q : Value → Shared → Prop} (hl : s.heap.IsTuple l items)
    (h : ∀ s₂ : Shared, s₂ = { s with heap := s.heap.push { cls := .type "tuple_iterator", data := .fields #[.ref l, .int 0 0] } } →
      (s₂.heap.IsTupleIter s.heap.objs.size l 0 ∧ s₂.heap.IsTuple l items) → (∀ b ∈ [s.heap.objs.size, l], b < s₂.heap.objs.size) → l ≠ s.heap.objs.size → Q (.ref s.heap.objs.size) s₂) :
    wpAny (model prog w) A (pyIter (.ref l)) Q E s := by
  have hlt : l < s.heap.objs.size := by obtain ⟨_, e, _⟩ := hl; exact Heap.lt_size e
  refine wpAny_pyIter_tuple hl (h _ rfl ⟨⟨_, Heap.get?_push_size _ rfl, rfl, rfl⟩, hl.push _⟩ (fun b hb => ?_) (Nat.ne_of_lt hlt))
  show b < (s.heap.push _).objs.size
  rw [Heap.size_push]
  rcases List.mem_cons.mp hb with rfl | hb
  · exact Nat.lt_succ_self _
  · rcases List.mem_cons.mp hb with rfl | hb
    · exact Nat.lt_succ_of_lt hlt
    · cases hb
theorem old_keptT {h' : Heap} (hk : ∀ b o, b ∉ [s.heap.objs.size] → (s.heap.push { cls := .type "tuple_iterator", data := .fields #[.ref l, .int 0 0] }).get? b = some o → h'.get? b = some o) :
    ∀ b o, s.heap.get? b = some o → h'.get? b = some o := fun b o e => by
  refine hk b o (fun hm => ?_) (Heap.get?_push_of_some _ e)
  rcases List.mem_cons.mp hm with e1 | hm
  · exact absurd (e1 ▸ Heap.lt_size e) (Nat.lt_irrefl _)
  · cases hm
theorem maxT_raw (hh : A.handled = none) (hl : s.heap.IsTuple l its.toArray) (hi : IntsAre its ns) (hne : 0 < ns.length)
    (h : ∀ h' tk M t', (∀ b o, s.heap.get? b = some o → h'.get? b = some o) → M ∈ ns → (∀ a, a ∈ ns → a ≤ M) → Q (.int M t') { s with heap := h', toks := tk }) : wpAny (model prog w) A (call (.builtin "max") [.ref l]) Q E s := by
  obtain ⟨xs, e⟩ := hi.allInts.items
  have hn : numsOf (intItems xs).toList = ns := by rw [← e]; exact hi.numsOf
  rw [nums_intItems] at hn
  subst hn
  rw [e] at hl
  have hsz : 0 < xs.size := by simpa using hne
  refine call_max_walk (iter_tup hl fun s₂ e st hfp hlI => ?_)
  subst e
  refine ⟨_, _, _, _, _, _, _, rfl, Walks.tuple (A := A.in1) hh _ l hlI (intItems xs), st, hfp, by simpa [intItems] using hsz, CmpOf.ints_gt (numAt xs) (fun _ _ => intItems_at), fun v h' tk hP hk => ?_⟩
  have hv : (intItems xs)[argBest (fun i j => decide (numAt xs i > numAt xs j)) (xs.size - 1)]? = some v := by simpa [intItems] using hP
  obtain ⟨t, rfl⟩ := intItems_at hv
  obtain ⟨h1, h2⟩ := argBest_gt (numAt xs) (xs.size - 1)
  refine h h' tk _ t (old_keptT hk) ?_ fun a ha => ?_
  · rw [numAt_eq]; exact PySem.getD_mem (by rw [List.length_map, Array.length_toList]; omega)
  · obtain ⟨j, hj, rfl⟩ := mem_getD ha
    rw [List.length_map, Array.length_toList] at hj
    rw [← numAt_eq]; exact h2 j (by omega)
theorem minT_raw (hh : A.handled = none) (hl : s.heap.IsTuple l its.toArray) (hi : IntsAre its ns) (hne : 0 < ns.length)
    (h : ∀ h' tk M t', (∀ b o, s.heap.get? b = some o → h'.get? b = some o) → M ∈ ns → (∀ a, a ∈ ns → M ≤ a) → Q (.int M t') { s with heap := h', toks := tk }) : wpAny (model prog w) A (call (.builtin "min") [.ref l]) Q E s := by
  obtain ⟨xs, e⟩ := hi.allInts.items
  have hn : numsOf (intItems xs).toList = ns := by rw [← e]; exact hi.numsOf
  rw [nums_intItems] at hn
  subst hn
  rw [e] at hl
  have hsz : 0 < xs.size := by simpa using hne
  refine call_min_walk (iter_tup hl fun s₂ e st hfp hlI => ?_)
  subst e
  refine ⟨_, _, _, _, _, _, _, rfl, Walks.tuple (A := A.in1) hh _ l hlI (intItems xs), st, hfp, by simpa [intItems] using hsz, CmpOf.ints_lt (numAt xs) (fun _ _ => intItems_at), fun v h' tk hP hk => ?_⟩
  have hv : (intItems xs)[argBest (fun i j => decide (numAt xs i < numAt xs j)) (xs.size - 1)]? = some v := by simpa [intItems] using hP
  obtain ⟨t, rfl⟩ := intItems_at hv
  obtain ⟨h1, h2⟩ := argBest_lt (numAt xs) (xs.size - 1)
  refine h h' tk _ t (old_keptT hk) ?_ fun a ha => ?_
  · rw [numAt_eq]; exact PySem.getD_mem (by rw [List.length_map, Array.length_toList]; omega)
  · obtain ⟨j, hj, rfl⟩ := mem_getD ha
    rw [List.length_map, Array.length_toList] at hj
    rw [← numAt_eq]; exact h2 j (by omega)
theorem sumT_raw (hh : A.handled = none) (hl : s.heap.IsTuple l its.toArray) (hi : IntsAre its ns)
    (h : ∀ h' tk t', (∀ b o, s.heap.get? b = some o → h'.get? b = some o) → Q (.int ns.sum t') { s with heap := h', toks := tk }) : wpAny (model prog w) A (call (.builtin "sum") [.ref l]) Q E s := by
  obtain ⟨xs, e⟩ := hi.allInts.items
  have hn : numsOf (intItems xs).toList = ns := by rw [← e]; exact hi.numsOf
  rw [nums_intItems] at hn
  rw [e] at hl
  refine call_sum_walkG (iter_tup hl fun s₂ e st hfp hlI => ?_)
  subst e
  refine ⟨_, _, _, _, _, _, numAt xs, rfl, Walks.tuple (A := A.in1) hh _ l hlI (intItems xs), st, hfp, (fun _ _ => intItems_at), fun h' tk t' hk => ?_⟩
  have h3 := h h' tk t' (old_keptT hk)
  have e2 : preSum (numAt xs) (intItems xs).size = ns.sum := by
    have e3 : (intItems xs).size = xs.size := by simp [intItems]
    rw [e3, preSum_eq, List.take_of_length_le (by simp), hn]
  rw [e2]
  exact h3
end
section
variable {X : Cx} {a b e : Expr} {es : List Expr} {ga : FA} {p pos : Pos}
def rMaxT (K : PySem.W.Frag) : List V → Hp → VK → Prop := fun vs H Q => ∃ (a : Addr) (ns : List Int), vs = [V.ref a] ∧ SqT K H a (ns.map V.int) ∧ 0 < ns.length ∧ ∀ m, m ∈ ns → (∀ y, y ∈ ns → y ≤ m) → Q (.int m) H
def rMinT (K : PySem.W.Frag) : List V → Hp → VK → Prop := fun vs H Q => ∃ (a : Addr) (ns : List Int), vs = [V.ref a] ∧ SqT K H a (ns.map V.int) ∧ 0 < ns.length ∧ ∀ m, m ∈ ns → (∀ y, y ∈ ns → m ≤ y) → Q (.int m) H
def rSumT (K : PySem.W.Frag) : List V → Hp → VK → Prop := fun vs H Q => ∃ (a : Addr) (ns : List Int), vs = [V.ref a] ∧ SqT K H a (ns.map V.int) ∧ Q (.int ns.sum) H
theorem cr_maxT (hc : X.calm = true) : CallR X (.builtin "max") (rMaxT X.K) := by
  intro pins s σ H vs us Q I r h
  obtain ⟨a, ns, rfl, hs, hne, q⟩ := h
  obtain ⟨its, rv, hl, _⟩ := I.tuple hs
  rw [Vals.ref1 r]
  exact maxT_raw (I.ok.hd hc) hl rv.ints hne fun h' tk m t' hk h1 h2 => ⟨.int _, H, I.kept hk, ⟨_, rfl⟩, q m h1 h2⟩
theorem cr_minT (hc : X.calm = true) : CallR X (.builtin "min") (rMinT X.K) := by
  intro pins s σ H vs us Q I r h
  obtain ⟨a, ns, rfl, hs, hne, q⟩ := h
  obtain ⟨its, rv, hl, _⟩ := I.tuple hs
  rw [Vals.ref1 r]
  exact minT_raw (I.ok.hd hc) hl rv.ints hne fun h' tk m t' hk h1 h2 => ⟨.int _, H, I.kept hk, ⟨_, rfl⟩, q m h1 h2⟩
theorem cr_sumT (hc : X.calm = true) : CallR X (.builtin "sum") (rSumT X.K) := by
  intro pins s σ H vs us Q I r h
  obtain ⟨a, ns, rfl, hs, q⟩ := h
  obtain ⟨its, rv, hl, _⟩ := I.tuple hs
  rw [Vals.ref1 r]
  exact sumT_raw (I.ok.hd hc) hl rv.ints fun h' tk t' hk => ⟨.int _, H, I.kept hk, ⟨_, rfl⟩, q⟩
def qMaxT : List D → Option D
  | [.tuple ds] => match intsD ds with
    | some (m :: r) => some (.int (mxL m r))
    | _ => none
  | _ => none
def qMinT : List D → Option D
  | [.tuple ds] => match intsD ds with
    | some (m :: r) => some (.int (mnL m r))
    | _ => none
  | _ => none
def qSumT : List D → Option D
  | [.tuple ds] => match intsD ds with
    | some ns => some (.int ns.sum)
    | none => none
  | _ => none
theorem on_maxT : OpN X.K (rMaxT X.K) qMaxT := fun O H xs ds d Q hd r hg q => by
  unfold qMaxT at hg
  split at hg
  · split at hg
    · rename_i m s h2
      cases hg
      obtain ⟨v, rfl, rv⟩ := rbl1 r
      obtain ⟨p, xs, rfl, hp, rp⟩ := rb_tup rv
      rw [rl_ints rp h2] at hp
      refine ⟨p, m :: s, rfl, .inl hp, Nat.succ_pos _, fun k hk hy => ?_⟩
      have sp := mxL_spec s m
      have h1 : k ≤ mxL m s := by
        rcases List.mem_cons.mp hk with z | z
        · rw [z]; exact sp.2.1
        · exact sp.2.2 k z
      have h2 : mxL m s ≤ k := by
        rcases sp.1 with z | z
        · rw [z]; exact hy m List.mem_cons_self
        · exact hy _ (List.mem_cons_of_mem _ z)
      rw [Int.le_antisymm h1 h2]
      exact q _ H (Xt.refl H) (.int _)
    · cases hg
  · cases hg
theorem on_minT : OpN X.K (rMinT X.K) qMinT := fun O H xs ds d Q hd r hg q => by
  unfold qMinT at hg
  split at hg
  · split at hg
    · rename_i m s h2
      cases hg
      obtain ⟨v, rfl, rv⟩ := rbl1 r
      obtain ⟨p, xs, rfl, hp, rp⟩ := rb_tup rv
      rw [rl_ints rp h2] at hp
      refine ⟨p, m :: s, rfl, .inl hp, Nat.succ_pos _, fun k hk hy => ?_⟩
      have sp := mnL_spec s m
      have h1 : mnL m s ≤ k := by
        rcases List.mem_cons.mp hk with z | z
        · rw [z]; exact sp.2.1
        · exact sp.2.2 k z
      have h2 : k ≤ mnL m s := by
        rcases sp.1 with z | z
        · rw [z]; exact hy m List.mem_cons_self
        · exact hy _ (List.mem_cons_of_mem _ z)
      rw [Int.le_antisymm h2 h1]
      exact q _ H (Xt.refl H) (.int _)
    · cases hg
  · cases hg
theorem on_sumT : OpN X.K (rSumT X.K) qSumT := fun O H xs ds d Q hd r hg q => by
  unfold qSumT at hg
  split at hg
  · split at hg
    · rename_i ns h2
      cases hg
      obtain ⟨v, rfl, rv⟩ := rbl1 r
      obtain ⟨p, xs, rfl, hp, rp⟩ := rb_tup rv
      rw [rl_ints rp h2] at hp
      exact ⟨p, ns, rfl, .inl hp, q _ H (Xt.refl H) (.int _)⟩
    · cases hg
  · cases hg
theorem OpN.or {K : PySem.W.Frag} {r r' : List V → Hp → VK → Prop} {g g' : List D → Option D} (h : OpN K r g) (h' : OpN K r' g') : OpN K (fun xs H Q => r xs H Q ∨ r' xs H Q) (fun ds => (g ds).or (g' ds)) := fun O H xs ds d Q hd rr hg q => by
  have hg : (g ds).or (g' ds) = some d := hg
  cases e : g ds with
  | some z =>
    rw [e] at hg
    have hg : some z = some d := hg
    cases hg
    exact .inl (h O H xs ds d Q hd rr e q)
  | none =>
    rw [e] at hg
    exact .inr (h' O H xs ds d Q hd rr hg q)
def qMaxA (ds : List D) : Option D := (qMax ds).or (qMaxT ds)
def qMinA (ds : List D) : Option D := (qMin ds).or (qMinT ds)
theorem se_maxA (hc : X.calm = true) (hm : X.mg "max" = none) (ha : SAB X (e :: es) ga) (hg : Gl X "max" := by rfl) (he : starEach (e :: es) X.env = (false, eval e X.env) :: starEach es X.env := by rfl) (hpl : (backTo pos (starEach es X.env)).any (·.1) = false := by rfl) : SE X (.Call (.Name "max" p) (e :: es) [] pos) (eCall qMaxA ga) :=
  se_callB (((call_max2 hc).or (cr_max hc)).or (cr_maxT hc)) (on_max.or on_maxT) hm ha (by decide +kernel) hg (by decide) (by decide) he hpl
theorem se_minA (hc : X.calm = true) (hm : X.mg "min" = none) (ha : SAB X (e :: es) ga) (hg : Gl X "min" := by rfl) (he : starEach (e :: es) X.env = (false, eval e X.env) :: starEach es X.env := by rfl) (hpl : (backTo pos (starEach es X.env)).any (·.1) = false := by rfl) : SE X (.Call (.Name "min" p) (e :: es) [] pos) (eCall qMinA ga) :=
  se_callB (((call_min2 hc).or (cr_min hc)).or (cr_minT hc)) (on_min.or on_minT) hm ha (by decide +kernel) hg (by decide) (by decide) he hpl
end

/-! ### a token is out -/
theorem tokAny {α : Type} {M : Model} {A : Around} {E : Value → Shared → Prop} {s : Shared} {t : Sem α} {Q : α → Shared → Prop} {n : Nat} (hn : n ≤ s.toks) (h : wpAny M A t Q E s) : wpAny M A t (fun a s' => n ≤ s'.toks ∧ Q a s') E s :=
  wpAny_mono (wpAny_toks_of hn h) (fun _ _ x => x) fun _ _ x => x.2
section
variable {X : Cx} {a b c e o : Expr} {es : List Expr} {fa fb : FE} {f g : FT} {ga : FA} {x : Str} {p pos cpos apos : Pos}
structure SEt (X : Cx) (e : Expr) (f : FE) : Prop where
  pe : PET X e (rdE X.K f)
structure SSt (X : Cx) (st : Stmt) (f : FS) : Prop where
  ps : PST X st (rdS X.K f)
structure SSsT (X : Cx) (sts : List Stmt) (f : FS) : Prop where
  ps : PSsT X sts (rdS X.K f)
/-- a test that puts a token out -/
structure STk (X : Cx) (e : Expr) (f : FT) : Prop where
  run : ∀ (pins : List (Addr × Obj)) (s : Shared) (σ : L2.St) (H : Hp) (Q : Bool → Hp → Prop), Inv X pins σ H s → rdT X.K f σ H Q → wpAny (model X.prog X.w) X.A (isTrue e X.env (eval e X.env)) (fun b s' => 1 ≤ s'.toks ∧ TP X pins σ Q b s') X.xe s
/-- .. that wants one -/
structure STt (X : Cx) (e : Expr) (f : FT) : Prop where
  run : ∀ (pins : List (Addr × Obj)) (s : Shared) (σ : L2.St) (H : Hp) (Q : Bool → Hp → Prop), 1 ≤ s.toks → Inv X pins σ H s → rdT X.K f σ H Q → wpAny (model X.prog X.w) X.A (isTrue e X.env (eval e X.env)) (TP X pins σ Q) X.xe s
theorem tk_cmp {op : CmpOp} {r : R2} {g : D → D → Option D} {i : Int} {j : Nat} {cp : Pos} (ho : OpR X (compareOp op) r) (hg : Op2 X.K r g) (ha : SB X a fa) (hm : behindInMarks op (.Constant (.int i) j cp) = false := by first | exact nobehind _ (by decide) (by decide) | rfl) :
    STk X (.Compare a [op] [.Constant (.int i) j cp] pos) (tBool (e2 g fa (eC (.int i)))) := ⟨fun pins s σ H Q I h => by
  have h' := tOp_of (fb := eC (.int i)) hg σ H _ (rdT_bool h)
  obtain ⟨G, B, O, τ, ρ, T, d, T', E, hf, q⟩ := rdT_bool h
  obtain ⟨dx, T1, dy, h1, h2, h3⟩ := e2_some hf
  cases h2
  refine wpAny_isTrue_Compare1 (thn (ha.pe.run pins s σ H (fun x H1 => Xt (tS τ) H H1 ∧ TpOk O τ H1 T' ∧ RepBT X.K O τ H1 x dx) I ⟨G, B, O, τ, ρ, T, dx, T', E, h1, fun v H' x t r => ⟨x, t, r⟩⟩) fun v s1 ⟨x, H1, I1, rx, x1, t1, r1⟩ => ?_) hm
  refine wpAny_Constant_int ?_
  refine thn (tokAny (n := 1) (by show 1 ≤ s1.toks + 1; omega) (ho pins { s1 with toks := s1.toks + 1 } σ H1 x (.int i) v _ _ (I1.tok _) rx ⟨_, rfl⟩ (hg O H1 x (.int i) dx _ d _ (E.step x1 t1).dom r1.b (.inl (.int i)) h3 fun w H2 x2 r2 => q w H2 (x1.tr (x2.mono fun _ z => z.elim)) (t1.gr x2) r2))) fun w s2 ⟨hk, z, H2, I2, rz, k, ez, qz⟩ => ?_
  subst ez
  cases rz
  exact wpAny_truthy_bool ⟨hk, H2, I2, qz⟩⟩
theorem st_andK (ha : STk X a f) (hb : STt X b g) : ST X (.BoolOp .And [a, b] pos) (tAndF f g) := ⟨⟨fun pins s σ H Q I h => by
  have h' := rd_and h
  refine isTrue_and (thn (ha.run pins s σ H _ I h') fun c s1 ⟨hk, H1, I1, q1⟩ => ?_)
  cases c with
  | true =>
    refine isTrue_and (thn (hb.run pins s1 σ H1 _ hk I1 q1) fun c s2 e => ?_)
    cases c with
    | true => exact isTrue_and_nil e
    | false => exact e
  | false => exact ⟨H1, I1, q1⟩⟩⟩
theorem stt_cmp {op : CmpOp} {r : R2} {g : D → D → Option D} (ho : OpR X (compareOp op) r) (hg : Op2 X.K r g) (ha : SEt X a fa) (hb : SB X b fb) (hm : behindInMarks op b = false := by first | exact nobehind _ (by decide) (by decide) | rfl) :
    STt X (.Compare a [op] [b] pos) (tBool (e2 g fa fb)) := ⟨fun pins s σ H Q h0 I h => by
  obtain ⟨G, B, O, τ, ρ, T, d, T', E, hf, q⟩ := rdT_bool h
  obtain ⟨dx, T1, dy, h1, h2, h3⟩ := e2_some hf
  refine wpAny_isTrue_Compare1 (thn (ha.pe pins s σ H (fun x H1 => Xt (tS τ) H H1 ∧ TpOk O τ H1 T1 ∧ Rep X.K O H1 x dx) h0 I ⟨G, B, O, τ, ρ, T, dx, T1, E, h1, fun v H' x t r => ⟨x, t, r⟩⟩) fun v s1 ⟨x, H1, I1, rx, x1, t1, r1⟩ => ?_) hm
  have E1 := E.step x1 t1
  refine thn (hb.pe.run pins s1 σ H1 (fun y H2 => Xt (tS τ) H1 H2 ∧ TpOk O τ H2 T' ∧ RepBT X.K O τ H2 y dy) I1 ⟨G, B, O, τ, ρ, T1, dy, T', E1, h2, fun v H' x t r => ⟨x, t, r⟩⟩) fun u s2 ⟨y, H2, I2, ry, x2, t2, r2⟩ => ?_
  refine thn (ho pins s2 σ H2 x y v u _ I2 rx ry (hg O H2 x y dx dy d _ (E1.step x2 t2).dom (.inl (r1.step E1 x2)) r2.b h3 fun w H3 x3 r3 => q w H3 ((x1.tr x2).tr (x3.mono fun _ z => z.elim)) (t2.gr x3) r3)) fun w s3 ⟨z, H3, I3, rz, k, ez, qz⟩ => ?_
  subst ez
  cases rz
  exact wpAny_truthy_bool ⟨H3, I3, qz⟩⟩
/-- a def that wants a token -/
structure FnOkT (P : Program) (w : World) (K : PySem.W.Frag) (mg : Str → Option Value) (base : Heap) (CX : CXT) (k : Nat) (f : Addr) (fd : FuncData) (ps : List Str) (sp : Sp) : Prop where
  len : ∀ vs H Q E, sp vs H Q E → vs.length = ps.length
  run : ∀ (A : Around) (outer : List Env) (s : Shared) (H : Hp) (args : Args) (us : List Value) (vs : List V) (Q : VK) (E : XK), 1 ≤ s.toks → Room k A → Env0 P w K mg base A outer s H → BindsTo s fd args (ps.zip us) → Vals vs us → sp vs H Q E →
    codeAny (model P w) A (.call (.ref f) args) (CR CX outer P w H s Q E) s
theorem fnT_of {CX : CXT} {P : Program} {w : World} {K : PySem.W.Frag} {mg : Str → Option Value} {base : Heap} {k : Nat} {f : Addr} {name qual : Str} {params : Arguments} {body : List Stmt} {scope : Scope} {dV kV doc pm cdv ct oc : Value} {an od : Option Addr}
    {osl : Array (Option Value)} {N ps : List Str} {sp : Sp} (lk : K.lookup f = some ⟨oc, od, .func (PySem.W.fnOf name qual params body scope dV kV doc pm an cdv ct), osl⟩) (hcd : PySem.W.codeIn K cdv qual = true) (S : FnScope N ps scope)
    (len : ∀ vs H Q E, sp vs H Q E → vs.length = ps.length)
    (hbody : ∀ (A : Around) (outer : List Env) (s : Shared) (H : Hp) (vs : List V) (Q : VK) (E : XK), Room k (A.deeper (envOfC qual scope s.heap.objs.size f cdv)) → sp vs H Q E →
      ∃ t, PSsT (cxOf CX P w K mg base N qual scope f cdv A outer s H E) body t ∧ t { nx := fun _ H' => Q .non H', rt := Q } (start N vs) H) :
    FnOkT P w K mg base CX (k + 1) f (PySem.W.fnOf name qual params body scope dV kV doc pm an cdv ct) ps sp := by
  refine ⟨len, fun A outer s H args us vs Q E h0 hr e0 hb r hsp => ?_⟩
  have hl := len _ _ _ _ hsp
  have KX : K.In s.heap := e0.mod.kin.keeps fun b o e => (e0.bs b o e).1
  have lim : s.heap.NoLimit := e0.mod.nolimit.keeps fun b o e => (e0.bs b o e).1
  have hkind : ∀ y ∈ ps.zip us, scope.names.lookup y.1 = some .local ∨ (scope.names.lookup y.1 = some .cell ∧ ((cellsFrom (s.heap.objs.size + 1) scope.names []).lookup y.1).isSome = true) := fun ⟨n, v⟩ hy => by
    rcases S.par n (List.of_mem_zip hy).1 with q | q
    · exact .inl q
    · exact .inr ⟨q, PySem.W.cellsFrom_some _ _ _ (.inl q)⟩
  refine codeAny_call_function hr.depth (KX _ _ lk) rfl S.co S.gen rfl (PySem.W.codeRec_of KX hcd) (hb _ _ _ _ ?_)
  refine wpAny_with_toks h0 (wpAny_newFunctionEnv_cells S.kind hkind fun env he s1 x h1 => ?_)
  subst he
  refine ⟨lim.keeps x.toInCall.keep, codeAny_func ?_⟩
  obtain ⟨t, ht, hq⟩ := hbody A outer s H vs Q E (hr.deeper _) hsp
  have I : Inv (cxOf CX P w K mg base N qual scope f cdv A outer s H E) [] (start N vs) H s1 := inv_start S hr.hd e0 hl r x
  refine wpAny_mono (ht [] s1 (start N vs) H _ h1 I hq) (fun fl s' hs => ?_) fun e s' hs => hs
  have fin : ∀ {σ' : L2.St} {H' : Hp} {v : V} {u : Value}, Inv (cxOf CX P w K mg base N qual scope f cdv A outer s H E) [] σ' H' s' → RelV v u → Q v H' → CE outer P w H s Q u s' :=
    fun {σ' H' v u} J rv q => ⟨v, H', J.os, J.bare, J.base, J.hok, rv, q⟩
  cases fl with
  | ret u =>
    obtain ⟨v, σ', H', J, rv, q⟩ := hs
    exact fin J rv q
  | next =>
    obtain ⟨σ', H', J, q⟩ := hs
    exact fin (v := V.non) (u := Value.none) J rfl q
  | brk =>
    obtain ⟨_, _, _, q⟩ := hs
    exact False.elim q
  | cont =>
    obtain ⟨_, _, _, q⟩ := hs
    exact False.elim q
theorem sst_of {st : Stmt} {f : FS} (h : SS X st f) : SSt X st f := ⟨PST.of h.ps⟩
theorem ssst_of {sts : List Stmt} {f : FS} (h : SSs X sts f) : SSsT X sts f := ⟨PSsT.of h.ps⟩
theorem PSsT.imp {sts : List Stmt} {t u : TS} (h : PSsT X sts t) (w : ∀ D σ H, u D σ H → t D σ H) : PSsT X sts u := fun pins s σ H D h0 I q => h pins s σ H D h0 I (w D σ H q)
theorem ssst_cons {st : Stmt} {rest : List Stmt} {f g : FS} (h1 : SSt X st f) (h2 : SSsT X rest g) : SSsT X (st :: rest) (sSeq f g) := ⟨PSsT.imp (psst_cons h1.ps h2.ps) fun D σ H ⟨G, B, O, τ, ρ, T, fl, T', E, hf, q⟩ => by
  unfold sSeq at hf
  split at hf
  · cases hf
  · rename_i ρ1 T1 h
    exact ⟨G, B, O, τ, ρ, T, _, T1, E, h, fun σ' H' O' a E' => ⟨G, B, O', τ, ρ1, T1, fl, T', E', hf, q.go a⟩⟩
  · rename_i fl1 T1 hn h
    cases hf
    refine ⟨G, B, O, τ, ρ, T, _, _, E, h, ?_⟩
    cases fl with
    | nx r => exact absurd rfl (hn r)
    | _ => exact q⟩
theorem sst_set {i : Nat} {pos' : Pos} (hN : X.N.Nodup) (he : SEt X e fa) (hi : X.N[i]? = some x := by rfl) (hx : Loc X.env.scope x := by first | exact Or.inl rfl | exact Or.inr rfl) (hs : swapsWith e (some (.Name x pos')) pos.line X.env = pure false := by rfl) (hf : X.fn x = true ∨ X.env.scope.names.lookup x = some .local := by first | exact .inl rfl | exact .inr rfl | assumption) :
    SSt X (.Assign [.Name x pos'] e pos) (sSet i fa) := ⟨fun pins s σ H D h0 I h => by
  refine wpAny_Assign_Name (thn (he.pe pins s σ H _ h0 I (tAsg_set h)) fun v s1 ⟨y, H1, I1, r1, q1⟩ => ?_) hs
  exact store_ok I1 hN hi hx r1 (fun s2 I2 => ⟨_, H1, I2, q1⟩) hf⟩
def eRpl (y z : Str) (fa : FE) : FE := fun ρ T => match fa ρ T with
  | some (.str x, T1) => if (x.length + (x.length + 1) * z.length).ble 16777216 then some (.str (S (PySem.StrLaws.replL (cps y) (cps z) (cps x))), T1) else none
  | _ => none
theorem set_repl {y z : Str} {j k : Nat} {c0 c1 : Pos} (ha : SE X a fa) (hy : 1 ≤ y.length := by decide) (hyz : (y == z) = false := by decide)
    (hst : starEach [.Constant (.str y) j c0, .Constant (.str z) k c1] X.env = [(false, eval (.Constant (.str y) j c0) X.env), (false, eval (.Constant (.str z) k c1) X.env)] := by rfl)
    (hbase : attributeBase a "replace" X.env (eval a X.env) = eval a X.env := by rfl) (hline : (apos.endLine == pos.line) = true := by rfl) :
    SEt X (.Call (.Attribute a "replace" apos) [.Constant (.str y) j c0, .Constant (.str z) k c1] [] pos) (eRpl y z fa) := ⟨fun pins s σ H Q h0 I ⟨G, B, O, τ, ρ, T, d, T', E, hf, q⟩ => by
  unfold eRpl at hf
  split at hf
  case h_2 => cases hf
  rename_i x T1 h1
  split at hf
  case isFalse => cases hf
  rename_i hb
  cases hf
  refine CwR.pet_replC ha.pe hyz hst hbase hline pins s σ H Q h0 I ⟨G, B, O, τ, ρ, T, _, T', E, h1, fun v H1 x1 t1 r1 => ?_⟩
  cases r1
  refine ⟨x, rfl, Nat.le_of_ble_eq_true hb, ?_⟩
  have e : Txt.replace x y z = S (PySem.StrLaws.replL (cps y) (cps z) (cps x)) := by
    rw [← S_cps (Txt.replace x y z)]
    exact congrArg S (PySem.StrLaws.replace_list hy)
  rw [e]
  exact q _ H1 x1 t1 (.str _)⟩
end
section
variable {P : Program} {w : World} {K : PySem.W.Frag} {mg : Str → Option Value} {base : Heap}
theorem fnT_p {x qual : Str} {st : Stmt} {f : Addr} {fd : FuncData} {N ps : List Str} {k : Nat} {b : FS} (F : Fun K x qual st f fd) (S : FnScope N ps (defScope st)) (hl : ps.length ≤ N.length)
    (hb : ∀ (cdv : Value) (A : Around) (outer : List Env) (s : Shared) (H : Hp) (E : XK), Room k (A.deeper (envOfC qual (defScope st) s.heap.objs.size f cdv)) →
      SSsT (cxOf CX0 P w K mg base N qual (defScope st) f cdv A outer s H E) (defBody st) b) : FnOkT P w K mg base CX0 (k + 1) f fd ps (spP K ps.length (bodyP N.length b)) := by
  obtain ⟨oc, od, kV, doc, pm, an, cdv, ct, osl, rfl, lk, hcd⟩ := F.ex
  refine fnT_of lk hcd S (fun vs H Q E h => ?_) (fun A outer s H vs Q E hr h => ?_)
  · obtain ⟨O, ds, d, _, r, e, _⟩ := h
    rw [r.length, e]
  · obtain ⟨O, ds, d, hO, r, e, hf, q⟩ := h
    refine ⟨_, (hb cdv A outer s H E hr).ps, ?_⟩
    unfold bodyP at hf
    have E0 : Sta K H O O none (L2.start N vs) H (frame N.length (ds.map .fr)) T0 := sta_startP hO r (by omega)
    split at hf
    · rename_i d1 T1 h1
      cases hf
      exact ⟨H, O, O, none, _, T0, .rt d, T1, E0, h1, fun v H' _ x rv => q v H' (x.mono fun _ z => by cases z) rv⟩
    · rename_i ρ1 T1 h1
      cases hf
      exact ⟨H, O, O, none, _, T0, .nx ρ1, T1, E0, h1, fun σ' H' O' _ E' => q .non H' (E'.gk.mono fun _ z => by cases z) .non⟩
    · cases hf
end
section
variable {X : Cx} {k n : Nat} {f : Addr} {fd : FuncData} {ps : List Str} {x : Str} {p pos : Pos} {e : Expr} {es : List Expr} {fa : FA}
theorem set_call {g : List D → Option D} (F : FnOkT X.prog X.w X.K X.mg X.base CX0 k f fd ps (spP X.K n g)) (hr : Room k X.A) (hm : X.mg x = some (.ref f)) (hk : PySem.W.keepIn X.K (.ref f) = true) (hb : Binds X.K fd ps [])
    (ha : SA X (e :: es) fa) (hg : Gl X x := by rfl) (hdb : (x == ("__debug__" : Str)) = false := by decide) (he : starEach (e :: es) X.env = (false, eval e X.env) :: starEach es X.env := by rfl) (hpl : (backTo pos (starEach es X.env)).any (·.1) = false := by rfl) :
    SEt X (.Call (.Name x p) (e :: es) [] pos) (eCall (argc n g) fa) := ⟨fun pins s σ H Q h0 I h => by
  refine wpAny_Call_Name_kw (ld_glob I hg hm ?_ hdb)
  refine PySem.W.callWith_K (h₀ := X.base) I.ok.mod.kin hk (thn (tokAny h0 (ha.pe.run pos pins s σ H _ I (tCall_of (E := E0) argc_len h))) fun us s1 ⟨h1, vs, H1, I1, r, q⟩ => ⟨I1.kIn, ?_⟩) he hpl
  obtain ⟨O, ds, d, a1, a2, a3, a4, a5⟩ := q
  have hl : us.length = ps.length := by
    rw [← r.length]
    exact F.len vs H1 Q E0 (by rw [List.append_nil] at a2; exact ⟨O, ds, d, a1, a2, a3, argc_f a4, a5⟩)
  rw [List.append_nil] at a2
  refine wpAny_call (codeAny_mono (F.run X.A X.stack s1 H1 ⟨us, []⟩ us vs Q E0 h1 hr I1.env0 (by have := hb s1 us I1.kIn (by rw [List.append_nil]; exact hl); rw [List.append_nil] at this; exact this) r ⟨O, ds, d, a1, a2, a3, argc_f a4, a5⟩) fun r s' hq => ?_)
  cases r with
  | error e => exact pass0 pins σ H1 s1 e s' I1 hq
  | ok fl =>
    cases fl with
    | ret u => exact I1.after hq
    | next => exact False.elim hq
    | brk => exact False.elim hq
    | cont => exact False.elim hq⟩
end
end Dv

/-! Dv21: the tape. -/
namespace Dv
open PySem PySem.Spec PyProof.Rows L2

def tapeKV (c : Addr) (T : Tp) : List (Key × V) := [(.inr "cells", .ref c), (.inr "at", .int T.idx), (.inr "left", .int T.left), (.inr "seed", .int T.seed), (.inr "salt", .int T.salt)]
theorem tapeHO_eq (c : Addr) (T : Tp) : tapeHO c T = .dK (tapeKV c T) := rfl
/-- a key and what is read there -/
structure TKey (key : Str) (rd : Tp → D) : Prop where
  at' : ∀ (K : PySem.W.Frag) (O : OS) (H : Hp) (c : Addr) (T : Tp), ¬ O c → H c = some (.lst (T.cells.map V.int)) → ∃ v, valV (tapeKV c T) (.inr key) = some v ∧ Rep K O H v (rd T)
theorem key_ne {a b : Str} (h : cps a ≠ cps b) : ¬ (Sum.inr a : Key) = Sum.inr b := fun e => h (by cases e; rfl)
theorem tk_cells : TKey "cells" (fun T => .list (T.cells.map .int)) := ⟨fun K O H c T n e => ⟨_, valV_pos rfl, .lst n e (rl_ofInts _)⟩⟩
theorem tk_at : TKey "at" (fun T => .int T.idx) := ⟨fun K O H c T n e => ⟨_, (valV_neg (key_ne (by decide))).trans (valV_pos rfl), .int _⟩⟩
theorem tk_left : TKey "left" (fun T => .int T.left) := ⟨fun K O H c T n e => ⟨_, (valV_neg (key_ne (by decide))).trans ((valV_neg (key_ne (by decide))).trans (valV_pos rfl)), .int _⟩⟩
theorem tk_seed : TKey "seed" (fun T => .int T.seed) := ⟨fun K O H c T n e => ⟨_, (valV_neg (key_ne (by decide))).trans ((valV_neg (key_ne (by decide))).trans ((valV_neg (key_ne (by decide))).trans (valV_pos rfl))), .int _⟩⟩
theorem tk_salt : TKey "salt" (fun T => .int T.salt) := ⟨fun K O H c T n e => ⟨_, (valV_neg (key_ne (by decide))).trans ((valV_neg (key_ne (by decide))).trans ((valV_neg (key_ne (by decide))).trans ((valV_neg (key_ne (by decide))).trans (valV_pos rfl)))), .int _⟩⟩
def eTget (i : Nat) (rd : Tp → D) : FE := fun ρ T => match ρ[i]? with
  | some .tp => some (rd T, T)
  | _ => none
structure TUp (key : Str) (up : Int → Tp → Tp) : Prop where
  put : ∀ (c : Addr) (T : Tp) (x : Int), putK (tapeKV c T) (.inr key) (.int x) = tapeKV c (up x T)
  cells : ∀ (T : Tp) (x : Int), (up x T).cells = T.cells
theorem putK_map {kvs : List (Key × V)} {k : Key} {v : V} (h : (kvs.any fun kv => decide (kv.1 = k)) = true) : putK kvs k v = kvs.map fun kv => if kv.1 = k then (kv.1, v) else kv := by
  unfold putK
  rw [if_pos h]
theorem tu_left : TUp "left" (fun x T => { T with left := x }) := ⟨fun c T x => by
  rw [putK_map (by simp [tapeKV])]
  simp only [tapeKV, List.map_cons, List.map_nil, if_neg (key_ne (show cps "cells" ≠ cps "left" by decide)), if_neg (key_ne (show cps "at" ≠ cps "left" by decide)), if_neg (key_ne (show cps "seed" ≠ cps "left" by decide)), if_neg (key_ne (show cps "salt" ≠ cps "left" by decide)), if_true], fun _ _ => rfl⟩
theorem tu_at : TUp "at" (fun x T => { T with idx := x }) := ⟨fun c T x => by
  rw [putK_map (by simp [tapeKV])]
  simp only [tapeKV, List.map_cons, List.map_nil, if_neg (key_ne (show cps "cells" ≠ cps "at" by decide)), if_neg (key_ne (show cps "left" ≠ cps "at" by decide)), if_neg (key_ne (show cps "seed" ≠ cps "at" by decide)), if_neg (key_ne (show cps "salt" ≠ cps "at" by decide)), if_true], fun _ _ => rfl⟩
theorem tu_salt : TUp "salt" (fun x T => { T with salt := x }) := ⟨fun c T x => by
  rw [putK_map (by simp [tapeKV])]
  simp only [tapeKV, List.map_cons, List.map_nil, if_neg (key_ne (show cps "cells" ≠ cps "salt" by decide)), if_neg (key_ne (show cps "left" ≠ cps "salt" by decide)), if_neg (key_ne (show cps "seed" ≠ cps "salt" by decide)), if_neg (key_ne (show cps "at" ≠ cps "salt" by decide)), if_true], fun _ _ => rfl⟩
def sTset (i : Nat) (up : Int → Tp → Tp) (f : FE) : FS := fun ρ T => match f ρ T with
  | some (.int x, T1) => match ρ[i]? with
    | some .tp => some (.nx ρ, up x T1)
    | _ => none
  | _ => none
section
variable {X : Cx} {e : Expr} {fe : FE} {pos pos' px cp : Pos} {x key : Str} {j : Nat} {rd : Tp → D} {up : Int → Tp → Tp} {k : Nat}
theorem se_tget (i : Nat) (hr : Room k X.A) (h : TKey key rd) (hN : X.N[i]? = some x := by rfl) (hv : Vis X.env.scope x := by first | exact Or.inl rfl | exact Or.inr (Or.inl rfl) | exact Or.inr (Or.inr rfl)) (hd : (x == ("__debug__" : Str)) = false := by decide) (hcd : (x == ("__classdict__" : Str)) = false := by decide)
    (hs : NoSl (.Constant (.str key) j cp) := by intro _ _; rfl) : SE X (.Subscript (.Name x px) (.Constant (.str key) j cp) pos) (eTget i rd) := ⟨PE.imp (pe_dget (hu_of hr) (pe_var hN hv hd hcd) pe_str hs) fun σ H Q ⟨G, B, O, τ, ρ, T, d, T', E, hf, q⟩ => by
  unfold eTget at hf
  split at hf
  case h_2 => cases hf
  rename_i e1
  obtain ⟨rfl, rfl⟩ : rd T = d ∧ T = T' := by cases hf; exact ⟨rfl, rfl⟩
  obtain ⟨p, ep, eσ⟩ := E.tp i e1
  obtain ⟨op, c, hp, nc, hc⟩ := E.tok p ep
  obtain ⟨v, hv, rv⟩ := h.at' X.K O H c T nc hc
  exact ⟨_, eσ, p, v, rfl, .inl ⟨_, .inr key, .inl hp, rfl, hv.symm⟩, q v H (Xt.refl H) E.tok rv⟩⟩
theorem ss_tset (i : Nat) (hr : Room k X.A) (h : TUp key up) (he : SE X e fe) (hN : X.N[i]? = some x := by rfl) (hv : Vis X.env.scope x := by first | exact Or.inl rfl | exact Or.inr (Or.inl rfl) | exact Or.inr (Or.inr rfl)) (hd : (x == ("__debug__" : Str)) = false := by decide) (hcd : (x == ("__classdict__" : Str)) = false := by decide)
    (hs : swapsWith e (some (.Subscript (.Name x px) (.Constant (.str key) j cp) pos')) pos.line X.env = pure false := by rfl) : SS X (.Assign [.Subscript (.Name x px) (.Constant (.str key) j cp) pos'] e pos) (sTset i up fe) := ⟨PS.imp (ps_dput (hu_of hr) (pe_var hN hv hd hcd) pe_str he.pe hs) fun D σ H ⟨G, B, O, τ, ρ, T, fl, T', E, hf, q⟩ => by
  unfold sTset at hf
  split at hf
  case h_2 => cases hf
  rename_i y T1 h1
  split at hf
  case h_2 => cases hf
  rename_i e1
  cases hf
  obtain ⟨p, ep, eσ⟩ := E.tp i e1
  refine ⟨G, B, O, τ, ρ, T, _, T1, E, h1, fun v H1 x1 t1 r1 => ?_⟩
  cases r1
  have E1 := E.step x1 t1
  obtain ⟨op, c, hp, nc, hc⟩ := t1 p ep
  have hz : (tapeKV c T1).length < sizeLine := by rw [sizeLine_eq]; show 5 < _; decide
  have hHO : (HO.dK (putK (tapeKV c T1) (.inr key) (.int y))) = tapeHO c (up y T1) := by rw [h.put]; rfl
  refine ⟨_, eσ, p, _, rfl, .inl ⟨_, .inr key, hp, rfl, hz, rfl⟩, ?_⟩
  show D.nx σ (upd H1 p (.dK (putK (tapeKV c T1) (.inr key) (.int y))))
  rw [hHO]
  have xw : Xt (tS τ) H1 (upd H1 p (tapeHO c (up y T1))) := Xt.wr ep hp id
  have ne : c ≠ p := fun z => nc (z ▸ op)
  have tw : TpOk O τ (upd H1 p (tapeHO c (up y T1))) (up y T1) := fun p' e' => by
    rw [ep] at e'
    cases e'
    exact ⟨op, c, upd_same, nc, by rw [upd_ne ne, h.cells]; exact hc⟩
  exact q σ _ O (E.aft (x1.tr xw)) (E.step (x1.tr xw) tw)⟩
end

/-! ### the tape is made -/
def SqF (K : PySem.W.Frag) (H : Hp) (a : Addr) (xs : List V) : Prop := (∃ o, H a = some (.frz o (.lst xs))) ∨ ∃ (o : Obj) (its : Array Value) (n : Nat), K.lookup a = some o ∧ o.cls = .type "list" ∧ o.dict = none ∧ o.data = .seq its n ∧ its.size ≤ sizeLine ∧ Vals xs its.toList
theorem SqF.sq {K : PySem.W.Frag} {H : Hp} {a : Addr} {xs : List V} (h : SqF K H a xs) : SqL K H a xs := h.imp (fun h => .inr h) id
theorem SqF.go {K : PySem.W.Frag} {S : OS} {H H' : Hp} {a : Addr} {xs : List V} (x : Xt S H H') (h : SqF K H a xs) : SqF K H' a xs := h.imp (fun ⟨o, h⟩ => ⟨o, x _ _ h (.inr trivial)⟩) id
theorem SqF.of {K : PySem.W.Frag} {H : Hp} {a : Addr} {xs : List V} (o : Only H) (h : SqL K H a xs) : SqF K H a xs := by
  rcases h with (h | h) | h
  · rcases o a with z | ⟨ob, ys, z⟩
    · rw [z] at h; cases h
    · rw [z] at h; cases h
  · exact .inl h
  · exact .inr h
theorem walk_scr {K : PySem.W.Frag} {O : OS} {H : Hp} {a : Addr} {ns : List Int} (h : SqF K H a (ns.map V.int)) : Walk K O H (Itl K a) (ns.map .int) := fun i O' H' af _ => by
  have h' : SqF K H' a (ns.map V.int) := h.go af.xt
  refine ⟨fun d hd => ?_, fun hl => ⟨_, h'.sq, by rw [List.length_map] at hl ⊢; exact hl⟩⟩
  rw [List.getElem?_map] at hd
  cases e : ns[i]? with
  | none => rw [e] at hd; cases hd
  | some z =>
    rw [e] at hd
    cases hd
    have hv : (ns.map V.int)[i]? = some (.int z) := by rw [List.getElem?_map, e]; rfl
    refine ⟨⟨_, _, h'.sq, hv⟩, fun x H'' ⟨e1, e2⟩ => ?_⟩
    subst e1
    have := e2 _ h'.sq
    rw [hv] at this
    cases this
    exact ⟨Xt.refl _, .int _⟩
/-- a comprehension whose walk is known otherwise -/
theorem tLc_ofW {K : PySem.W.Frag} {wi : TI} {g : FG} {ft : FT} {fe : FE} {ws vs : List Nat} (hw : ∀ j ∈ ws, j ∈ vs) {G : Hp} {B O : OS} {τ : Option Addr} {σ : L2.St} {H : Hp} {ρ : Rho} {T T' : Tp} {ds ys : List D} {Q : VK} (E : Sta K G B O τ σ H ρ T)
    (hi : ∀ R : It → Hp → Prop, (∀ J, Walk K O H J ds → R J H) → wi σ H R) (h2 : lcL g ft fe (wipeR ρ vs) ds T = some (ys, T')) (hsz : ds.length ≤ sizeLine)
    (q : ∀ p H', H p = none → Xt (tS τ) H H' → TpOk (addO O p) τ H' T' → Top K (addO O p) H' p (.list ys) → Q (.ref p) H') : tLc wi (rdG K ws g) (rdT K ft) (rdE K fe) vs σ H Q := by
  refine hi _ fun J w1 p hp => ?_
  have np : ∀ a, O a → a ≠ p := fun a z e => E.dom a z (by rw [e]; exact hp)
  have ns : ∀ (i : Nat) (d : D), (wipeR ρ vs)[i]? = some (.ow d) → (wipe σ vs)[i]? ≠ some (some (.ref p)) := fun i d e z => by
    obtain ⟨a, e2, oa, _⟩ := (E.wipe vs).ow i d e
    rw [z] at e2; cases e2
    exact np p oa rfl
  have gp : G p = none := by
    cases e : G p with
    | none => rfl
    | some u =>
      have := E.gk p u e (.inl fun z => np p (E.tO p z) rfl)
      rw [hp] at this; cases this
  have nt : τ ≠ some p := fun z => np p (E.tO p z) rfl
  refine ⟨fun i m H' => i + m = ds.length ∧ ∃ T3 acc ys1 ys2, Sta K G B (addO O p) τ (wipe σ vs) H' (wipeR ρ vs) T3 ∧ Xt (tS τ) H H' ∧ H' p = some (.lst acc) ∧ RepL K (addO O p) H' acc ys1 ∧ acc.length ≤ i ∧
      lcL g ft fe (wipeR ρ vs) (ds.drop i) T3 = some (ys2, T') ∧ ys = ys1 ++ ys2, ⟨ds.length, by omega, T, [], [], ys, (E.wipe vs).fill hp, Xt.new hp, upd_same, .nil, Nat.le_refl _, by rw [List.drop_zero]; exact h2, rfl⟩, ?_⟩
  rintro i m H' ⟨im, T3, acc, ys1, ys2, E3, x3, hacc, racc, lacc, hl, rfl⟩
  have a3 : Aft O (addO O p) H H' := ⟨x3.mono E.tO, addO_new hp⟩
  obtain ⟨wg, wst⟩ := w1 i (addO O p) H' a3 E3.dom
  by_cases hi : i < ds.length
  · have e : ds[i]? = some ds[i] := List.getElem?_eq_getElem hi
    obtain ⟨go, yl⟩ := wg _ e
    rw [List.drop_eq_getElem_cons hi] at hl
    generalize ds[i] = d at *
    have hl : (match g d (wipeR ρ vs) with
      | none => none
      | some ρ1 => match ft ρ1 T3 with
        | none => none
        | some (false, T1) => lcL g ft fe (wipeR ρ vs) (ds.drop (i + 1)) T1
        | some (true, T1) => match fe ρ1 T1 with
          | none => none
          | some (y, T2) => match lcL g ft fe (wipeR ρ vs) (ds.drop (i + 1)) T2 with
            | none => none
            | some (ys, T3) => some (y :: ys, T3)) = some (ys2, T') := hl
    refine .inr ⟨go, fun H4 => ∃ T3 acc ys1' ys2', Sta K G B (addO O p) τ (wipe σ vs) H4 (wipeR ρ vs) T3 ∧ Xt (tS τ) H H4 ∧ H4 p = some (.lst acc) ∧ RepL K (addO O p) H4 acc ys1' ∧ acc.length ≤ i + 1 ∧
      lcL g ft fe (wipeR ρ vs) (ds.drop (i + 1)) T3 = some (ys2', T') ∧ ys1 ++ ys2 = ys1' ++ ys2', fun H4 h4 => ⟨m - 1, by omega, by omega, h4⟩, fun x H2 hy => ?_⟩
    obtain ⟨gr, rx⟩ := yl x H2 hy
    have grt : Xt (tS τ) H' H2 := gr.mono fun _ z => z.elim
    have tOp : ∀ a, tS τ a → addO O p a := fun a z => .inl (E.tO a z)
    have keep : ∀ {H5 H6 : Hp} {u}, Xt (tS τ) H5 H6 → H5 p = some u → H6 p = some u := fun x e => x p _ e (.inl nt)
    split at hl
    · cases hl
    rename_i ρ1 hg
    refine ⟨G, B, addO O p, τ, _, T3, d, ρ1, E3.grow gr, rx, hg, fun σ2 o2 E4 => ⟨wipe_off o2 hw, ?_⟩⟩
    split at hl
    · cases hl
    · rename_i T4 ht
      refine ⟨G, B, addO O p, τ, ρ1, T3, false, T4, E4, ht, fun H5 x5 t5 => ?_⟩
      have x35 := grt.tr x5
      exact ⟨T4, acc, ys1, ys2, E3.step x35 t5, x3.tr x35, keep x35 hacc, racc.go x35 (fun a z _ => tOp a z) (fun _ z => .inl z), by omega, hl, rfl⟩
    · rename_i T4 ht
      refine ⟨G, B, addO O p, τ, ρ1, T3, true, T4, E4, ht, fun H5 x5 t5 => ?_⟩
      have x35 := grt.tr x5
      split at hl
      · cases hl
      rename_i y T5 he
      split at hl
      · cases hl
      rename_i ys3 T6 hr
      cases hl
      refine ⟨G, B, addO O p, τ, ρ1, T4, y, T5, E4.step x5 t5, he, fun yv H6 x6 t6 ry => ?_⟩
      have x36 := x35.tr x6
      have hacc6 := keep x36 hacc
      have E6 := E3.step x36 t6
      refine ⟨acc, hacc6, by omega, T5, acc ++ [yv], ys1 ++ [y], ys3, E6.turnAt hacc6 id (.inr rfl) nt gp ns, (x3.tr x36).mut hp, upd_same, ?_, by rw [List.length_append]; exact Nat.add_le_add_right lacc 1, hr, by rw [List.append_assoc]; rfl⟩
      have xw : Xt (fun b => b = p) H6 (upd H6 p (.lst (acc ++ [yv]))) := Xt.wr rfl hacc6 id
      have hin : ∀ a, a = p → H6 a ≠ none → addO O p a := fun a z _ => .inr z
      exact RepL.app (ry.go xw hin fun _ z => .inl z) ((racc.go x36 (fun a z _ => tOp a z) (fun _ z => .inl z)).go xw hin fun _ z => .inl z)
  · have e : i = ds.length := by omega
    subst e
    rw [List.drop_length] at hl
    cases hl
    rw [List.append_nil] at q
    exact .inl ⟨wst (Nat.le_refl _), q p H' hp x3 E3.tok (.lst hacc racc)⟩

/-! ### _law_tape -/
/-- the seed of the cells -/
def seedF : Int → List Int → Int
  | s, [] => s
  | s, c :: r => seedF ((s * 31 + c) % 2147483647) r
def absI (z : Int) : Int := if z < 0 then -z else z
def mkTape (ns : List Int) : Tp := ⟨ns.map absI, 0, 0, seedF 7 (ns.map absI), 0⟩
/-- what _law_tape promises -/
def spMk (K : PySem.W.Frag) : Sp := fun vs H Q _ => ∃ a ns, vs = [.ref a] ∧ SqF K H a (ns.map V.int) ∧ ns.length ≤ 63 ∧ ∀ p c H', H p = none → p ≠ c → H' p = some (tapeHO c (mkTape ns)) → H' c = some (.lst ((mkTape ns).cells.map V.int)) → Q (.ref p) H'
def fCell : FE := eCall qAbs (aCons (eCall qInt (aCons (eOwn 3) aNil)) aNil)
def fSeed2 : FS := sSet 2 (eC (.int 7))
def fSeed3 : FS := sFz 1 (sFor (iSeq (eVar 1)) (gSet 3) (sSet 2 (e2 qMod (eCall qInt (aCons (e2 qAdd (e2 qMul (eOwn 2) (eC (.int 31))) (eOwn 3)) aNil)) (eC (.int 2147483647)))))
def fSeed : FS := sSeq fSeed2 fSeed3
theorem seq_of {K : PySem.W.Frag} {f g : FS} {D : Ends} {σ : L2.St} {H : Hp} (h : rdS K (sSeq f g) D σ H) : tSeq (rdS K f) (rdS K g) D σ H := by
  obtain ⟨G, B, O, τ, ρ, T, fl, T', E, hf, q⟩ := h
  unfold sSeq at hf
  split at hf
  · cases hf
  · rename_i ρ1 T1 h
    exact ⟨G, B, O, τ, ρ, T, _, T1, E, h, fun σ' H' O' a E' => ⟨G, B, O', τ, ρ1, T1, fl, T', E', hf, q.go a⟩⟩
  · rename_i fl1 T1 hn h
    cases hf
    refine ⟨G, B, O, τ, ρ, T, _, _, E, h, ?_⟩
    cases fl with
    | nx r => exact absurd rfl (hn r)
    | _ => exact q
theorem lc_cells (T : Tp) : ∀ ns : List Int, lcL (gSet 3) tTrue fCell [.un, .un, .un, .un] (ns.map .int) T = some ((ns.map absI).map .int, T)
  | [] => rfl
  | n :: ns => by
    rw [List.map_cons, lcL]
    show (match fCell [.un, .un, .un, .fr (.int n)] T with
      | none => none
      | some (y, T2) => match lcL (gSet 3) tTrue fCell [.un, .un, .un, .un] (ns.map .int) T2 with
        | none => none
        | some (ys, T3) => some (y :: ys, T3)) = _
    have e : fCell [.un, .un, .un, .fr (.int n)] T = some (.int (absI n), T) := rfl
    rw [e]
    show (match lcL (gSet 3) tTrue fCell [.un, .un, .un, .un] (ns.map .int) T with
        | none => none
        | some (ys, T3) => some (PyData.int (absI n) :: ys, T3)) = _
    rw [lc_cells T ns]
    rfl
def fSeed1 : FS := sSet 2 (e2 qMod (eCall qInt (aCons (e2 qAdd (e2 qMul (eOwn 2) (eC (.int 31))) (eOwn 3)) aNil)) (eC (.int 2147483647)))
theorem fSeed1_run (l : D) (s c : Int) (T : Tp) : fSeed1 [.un, .fr l, .fr (.int s), .fr (.int c)] T = some (.nx [.un, .fr l, .fr (.int ((s * 31 + c) % 2147483647)), .fr (.int c)], T) := by
  have e : qMulI s 31 = some (.int (s * 31)) := by
    unfold qMulI
    rw [if_pos (by rw [Bool.or_eq_true]; exact .inr (by decide))]
  have e2 : qMul (.int s) (.int 31) = some (.int (s * 31)) := e
  unfold fSeed1 sSet
  simp only [Dv.e2, eCall, aCons, aNil, eOwn, eC, e2, qAdd, List.getElem?_cons_succ, List.getElem?_cons_zero, qInt, q1, qMod, i2, qModI]
  rfl
theorem seed_loop (l : D) (T : Tp) : ∀ (cs : List Int) (s : Int) (x : Cell), ∃ y, forL (gSet 3) fSeed1 (cs.map .int) [.un, .fr l, .fr (.int s), x] T = some (.nx [.un, .fr l, .fr (.int (seedF s cs)), y], T)
  | [], s, x => ⟨x, rfl⟩
  | c :: cs, s, x => by
    obtain ⟨y, h⟩ := seed_loop l T cs ((s * 31 + c) % 2147483647) (.fr (.int c))
    refine ⟨y, ?_⟩
    rw [List.map_cons, forL]
    show (match fSeed1 [.un, .fr l, .fr (.int s), .fr (.int c)] T with
      | none => none
      | some (.nx ρ2, T2) => forL (gSet 3) fSeed1 (cs.map .int) ρ2 T2
      | some (.ct ρ2, T2) => forL (gSet 3) fSeed1 (cs.map .int) ρ2 T2
      | some (.bk ρ2, T2) => some (.nx ρ2, T2)
      | some (.rt d, T2) => some (.rt d, T2)) = _
    rw [fSeed1_run]
    exact h
theorem fSeed_run (cs : List Int) (T : Tp) : ∃ y, fSeed [.un, .ow (.list (cs.map .int)), .un, .un] T = some (.nx [.un, .fr (.list (cs.map .int)), .fr (.int (seedF 7 cs)), y], T) := by
  obtain ⟨y, h⟩ := seed_loop (.list (cs.map PyData.int)) T cs 7 .un
  exact ⟨y, h⟩
theorem rep_un {n i : Nat} {c : Cell} (h : (List.replicate n Cell.un)[i]? = some c) : c = .un := by
  rw [List.getElem?_replicate] at h
  split at h <;> cases h
  rfl
theorem sta_zero {K : PySem.W.Frag} {σ : L2.St} {H : Hp} {n : Nat} (hl : σ.length = n) : Sta K H (fun _ => False) (fun _ => False) none σ H (List.replicate n .un) T0 where
  len := by rw [hl, List.length_replicate]
  fr := fun i d h => by have := rep_un h; cases this
  ow := fun i d h => by have := rep_un h; cases this
  sep := fun i j d d' a h _ _ _ => by have := rep_un h; cases this
  tp := fun i h => by have := rep_un h; cases this
  tok := fun p e => by cases e
  tb := fun p e => by cases e
  dom := fun a z => z.elim
  gb := fun a z => z.elim
  gd := fun a z => z.elim
  gk := Xt.refl H
theorem putK_new {kvs : List (Key × V)} {k : Key} {v : V} (h : ∀ p ∈ kvs, p.1 ≠ k) : putK kvs k v = kvs ++ [(k, v)] := by
  unfold putK
  rw [if_neg fun z => by
    obtain ⟨p, hp, e⟩ := List.any_eq_true.mp z
    exact h p hp (of_decide_eq_true e)]
theorem merge_tape (c : Addr) (T : Tp) : mergeK [] (tapeKV c T) = tapeKV c T := by
  have n1 := key_ne (show cps "cells" ≠ cps "at" by decide)
  have n2 := key_ne (show cps "cells" ≠ cps "left" by decide)
  have n3 := key_ne (show cps "cells" ≠ cps "seed" by decide)
  have n4 := key_ne (show cps "cells" ≠ cps "salt" by decide)
  have n5 := key_ne (show cps "at" ≠ cps "left" by decide)
  have n6 := key_ne (show cps "at" ≠ cps "seed" by decide)
  have n7 := key_ne (show cps "at" ≠ cps "salt" by decide)
  have n8 := key_ne (show cps "left" ≠ cps "seed" by decide)
  have n9 := key_ne (show cps "left" ≠ cps "salt" by decide)
  have n10 := key_ne (show cps "seed" ≠ cps "salt" by decide)
  unfold mergeK tapeKV
  simp only [List.foldl_cons, List.foldl_nil]
  rw [putK_new (kvs := []) (by intro p hp; cases hp)]
  rw [putK_new (k := .inr "at") (by intro p hp; simp at hp; subst hp; exact n1)]
  rw [putK_new (k := .inr "left") (by intro p hp; simp at hp; rcases hp with rfl | rfl <;> first | exact n2 | exact n5)]
  rw [putK_new (k := .inr "seed") (by intro p hp; simp at hp; rcases hp with rfl | rfl | rfl <;> first | exact n3 | exact n6 | exact n8)]
  rw [putK_new (k := .inr "salt") (by intro p hp; simp at hp; rcases hp with rfl | rfl | rfl | rfl <;> first | exact n4 | exact n7 | exact n9 | exact n10)]
  rfl
/-- _law_tape by its four statements -/
theorem fn_tape {P : Program} {w : World} {K : PySem.W.Frag} {mg : Str → Option Value} {base : Heap} {x qual : Str} {st : Stmt} {f : Addr} {fd : FuncData} {N ps : List Str} {k : Nat} (F : Fun K x qual st f fd) (S : FnScope N ps (defScope st)) (hN : N.length = 4) (hp : ps.length = 1)
    (hb : ∀ (cdv : Value) (A : Around) (outer : List Env) (s : Shared) (H : Hp) (E : XK), Room k (A.deeper (envOfC qual (defScope st) s.heap.objs.size f cdv)) →
      PSs (cxOf CX0 P w K mg base N qual (defScope st) f cdv A outer s H E).nox (defBody st) (tSeq (tAsg (tLc (iSeqT K (tVar 0)) (rdG K [3] (gSet 3)) (rdT K tTrue) (rdE K fCell) [3]) (gName 1)) (tSeq (rdS K fSeed2) (tSeq (rdS K fSeed3) (tRet (tDisp [(tC (.str "cells"), tVar 1), (tC (.str "at"), tC (.int 0)), (tC (.str "left"), tC (.int 0)), (tC (.str "seed"), tVar 2), (tC (.str "salt"), tC (.int 0))])))))) :
    FnOk P w K mg base CX0 (k + 1) f fd ps (spMk K) := by
  refine F.ok S (fun vs H Q E h => ?_) (fun cdv A outer s H vs Q E hr h => ⟨_, hb cdv A outer s H E hr, ?_⟩)
  · obtain ⟨a, ns, rfl, _⟩ := h
    rw [hp]; rfl
  obtain ⟨a, ns, rfl, hq, hl, q⟩ := h
  have hlen : (L2.start N [V.ref a]).length = 4 := by rw [start_len (by rw [hN]; exact (by decide : 1 ≤ 4)), hN]
  have E0 := sta_zero (K := K) (H := H) hlen
  have s0 : (L2.start N [V.ref a])[0]? = some (some (.ref a)) := start_get rfl
  unfold tSeq tAsg
  refine tLc_ofW (wi := iSeqT K (tVar 0)) (ws := [3]) (vs := [3]) (G := H) (B := fun _ => False) (O := fun _ => False) (τ := none) (ρ := [.un, .un, .un, .un]) (T := T0) (T' := T0) (ds := ns.map .int) (ys := (ns.map absI).map .int) (by decide) E0 (fun R hR => ?_) (lc_cells T0 ns) (by rw [List.length_map, sizeLine_eq]; omega) fun p H1 hp x1 t1 r1 => ?_
  · exact ⟨.ref a, s0, .inl ⟨a, rfl, ⟨_, hq.sq⟩, hR _ (walk_scr hq)⟩⟩
  · have E1 := E0.own (i := 1) hp x1 t1 r1
    obtain ⟨y, hy⟩ := fSeed_run (ns.map absI) T0
    refine seq_of ⟨H, fun _ => False, _, none, _, T0, _, T0, E1, hy, fun σ2 H2 O2 a2 E2 => ?_⟩
    obtain ⟨v1, e1, r1⟩ := E2.fr 1 _ rfl
    obtain ⟨v2, e2, r2⟩ := E2.fr 2 _ rfl
    cases r2
    cases r1 with
    | @lst c xs _ nc hc rc =>
    intro p2 hp2
    have hxs : xs = (ns.map absI).map V.int := rl_ints rc (by
      have : ∀ l : List Int, intsD (l.map .int) = some l := fun l => by
        induction l with
        | nil => rfl
        | cons a l ih => rw [List.map_cons, intsD, ih]
      exact this _)
    have ne : c ≠ p2 := fun z => by rw [z, hp2] at hc; cases hc
    refine ⟨_, e1, _, e2, upd_same, tapeKV c (mkTape ns), rfl, by show 5 ≤ 15; decide, ?_⟩
    rw [merge_tape]
    have hp0 : H p2 = none := by
      cases e : H p2 with
      | none => rfl
      | some u =>
        have := E2.gk p2 u e (.inl fun z => by cases z)
        rw [hp2] at this; cases this
    exact q p2 c _ hp0 (Ne.symm ne) upd_same (by rw [upd_ne ne, upd_ne ne, hc, hxs]; rfl)
/-! ### the law itself -/
def spLaw (K : PySem.W.Frag) : Sp := fun vs H Q _ => ∃ (a : Addr) (ns : List Int), vs = [.ref a] ∧ SqF K H a (ns.map V.int) ∧ ns.length ≤ 63 ∧ ∀ H', Q (.bl true) H'
theorem fn_law {P : Program} {w : World} {K : PySem.W.Frag} {mg : Str → Option Value} {base : Heap} {x qual : Str} {st : Stmt} {f : Addr} {fd : FuncData} {N ps : List Str} {k : Nat} {b : FS} (F : Fun K x qual st f fd) (S : FnScope N ps (defScope st)) (hN : 2 ≤ N.length) (hp : ps.length = 1)
    (hm : ∀ ns : List Int, ns.length ≤ 63 → ∃ T', b ((List.replicate N.length .un).set 1 .tp) (mkTape ns) = some (.rt (.bool true), T'))
    (hb : ∀ (cdv : Value) (A : Around) (outer : List Env) (s : Shared) (H : Hp) (E : XK), Room k (A.deeper (envOfC qual (defScope st) s.heap.objs.size f cdv)) →
      PSs (cxOf CX0 P w K mg base N qual (defScope st) f cdv A outer s H E).nox (defBody st) (tSeq (tAsg (tCall (spMk K) [] E0 (tCons (tVar 0) tNil)) (gName 1)) (rdS K b))) :
    FnOk P w K mg base CX0 (k + 1) f fd ps (spLaw K) := by
  refine F.ok S (fun vs H Q E h => ?_) (fun cdv A outer s H vs Q E hr h => ⟨_, hb cdv A outer s H E hr, ?_⟩)
  · obtain ⟨a, ns, rfl, _⟩ := h
    rw [hp]; rfl
  obtain ⟨a, ns, rfl, hq, hl, q⟩ := h
  have hlen : (L2.start N [V.ref a]).length = N.length := start_len (by show 1 ≤ N.length; omega)
  have s0 : (L2.start N [V.ref a])[0]? = some (some (.ref a)) := start_get rfl
  refine ⟨.ref a, s0, a, ns, rfl, hq, hl, fun p c H1 hp0 ne e1 e2 => ?_⟩
  obtain ⟨T', hT⟩ := hm ns hl
  have hset : ∀ (i : Nat) (cc : Cell), ((List.replicate N.length Cell.un).set 1 .tp)[i]? = some cc → (i = 1 ∧ cc = .tp) ∨ cc = .un := fun i cc h => by
    rw [List.getElem?_set] at h
    by_cases hi : 1 = i
    · rw [if_pos hi] at h
      split at h
      · cases h; exact .inl ⟨hi.symm, rfl⟩
      · cases h
    · rw [if_neg hi] at h
      exact .inr (rep_un h)
  refine ⟨H1, fun z => z = p, fun z => z = p, some p, _, mkTape ns, .rt (.bool true), T', ?_, hT, fun v H2 t2 x2 r2 => ?_⟩
  · exact {
      len := by rw [List.length_set, List.length_set, List.length_replicate, hlen]
      fr := fun i d h => by rcases hset i _ h with ⟨_, z⟩ | z <;> cases z
      ow := fun i d h => by rcases hset i _ h with ⟨_, z⟩ | z <;> cases z
      sep := fun i j d d' _ h _ _ _ => by rcases hset i _ h with ⟨_, z⟩ | z <;> cases z
      tp := fun i h => by
        rcases hset i _ h with ⟨z, _⟩ | z
        · subst z
          exact ⟨p, rfl, by rw [List.getElem?_set_self (by rw [hlen]; omega)]⟩
        · cases z
      tok := fun p' e => by
        cases e
        exact ⟨rfl, c, e1, fun z => ne z.symm, e2⟩
      tb := fun p' e => by cases e; rfl
      dom := fun z e => by rw [e, e1]; simp
      gb := fun z e => e
      gd := fun z e => by rw [e, e1]; simp
      gk := Xt.refl H1 }
  · cases r2
    exact q H2
end Dv

/-! Dv22: short names for the printed derivations. -/
namespace Dv
open PySem PySem.Spec PyProof.Rows L2
section
variable {X : Cx} {a b c e : Expr} {es rs : List Expr} {fa fb : FE} {ga : FA} {pos : Pos} {k : Nat}
theorem sc_lt (ha : SB X a fa) (hb : SB X b fb) : SC X .Lt a b (e2 qLt fa fb) := sc_of op_lt (o2_i0 fun _ _ _ _ => .bl _) ha hb
theorem sc_le (ha : SB X a fa) (hb : SB X b fb) : SC X .LtE a b (e2 qLe fa fb) := sc_of op_le (o2_i0 fun _ _ _ _ => .bl _) ha hb
theorem sc_gt (ha : SB X a fa) (hb : SB X b fb) : SC X .Gt a b (e2 qGt fa fb) := sc_of op_gt (o2_i0 fun _ _ _ _ => .bl _) ha hb
theorem sc_ge (ha : SB X a fa) (hb : SB X b fb) : SC X .GtE a b (e2 qGe fa fb) := sc_of op_ge (o2_i0 fun _ _ _ _ => .bl _) ha hb
theorem sc_eq (hr : Room k X.A) (ha : SB X a fa) (hb : SB X b fb) : SC X .Eq a b (e2 qEq fa fb) := sc_of (op_eq.or (op_eqD (by have := hr.units; omega))) o2_eq ha hb
theorem sc_ne (hr : Room k X.A) (ha : SB X a fa) (hb : SB X b fb) : SC X .NotEq a b (e2 qNe fa fb) := sc_of (op_ne.or (op_neD (by have := hr.units; omega))) o2_ne ha hb
def qIsnt (x y : D) : Option D := qNot (qIs x y)
def qNotin (x y : D) : Option D := qNot (qIn x y)
theorem sc_is (ha : SB X a fa) (hb : SB X b fb) : SC X .Is a b (e2 qIs fa fb) := sc_of (op_isN.or op_isBl) o2_is ha hb
theorem sc_isnt (ha : SB X a fa) (hb : SB X b fb) : SC X .IsNot a b (e2 qIsnt fa fb) := sc_of (op_notN.or op_notBl) o2_isnt ha hb
theorem sc_notin' (ha : SB X a fa) (hb : SB X b fb) : SC X .NotIn a b (e2 qNotin fa fb) := sc_notin ha hb
variable {L : D → FE} {op : CmpOp} {ops : List CmpOp}
theorem sll_lt (hb : SB X b fb) : SL X [.Lt] [b] (lLast qLt fb) := sl_last op_lt (o2_i0 fun _ _ _ _ => .bl _) hb
theorem sll_le (hb : SB X b fb) : SL X [.LtE] [b] (lLast qLe fb) := sl_last op_le (o2_i0 fun _ _ _ _ => .bl _) hb
theorem slc_lt (hb : SB X b fb) (hr : SL X (op :: ops) (c :: rs) L) : SL X (.Lt :: op :: ops) (b :: c :: rs) (lCons qLt fb L) := sl_cons op_lt (o2_i0 fun _ _ _ _ => .bl _) hb hr
theorem slc_le (hb : SB X b fb) (hr : SL X (op :: ops) (c :: rs) L) : SL X (.LtE :: op :: ops) (b :: c :: rs) (lCons qLe fb L) := sl_cons op_le (o2_i0 fun _ _ _ _ => .bl _) hb hr
theorem sll_eq (hk : Room k X.A) (hb : SB X b fb) : SL X [.Eq] [b] (lLast qEq fb) := sl_last (op_eq.or (op_eqD (by have := hk.units; omega))) o2_eq hb
theorem slc_eq (hk : Room k X.A) (hb : SB X b fb) (hr : SL X (op :: ops) (c :: rs) L) : SL X (.Eq :: op :: ops) (b :: c :: rs) (lCons qEq fb L) := sl_cons (op_eq.or (op_eqD (by have := hk.units; omega))) o2_eq hb hr
end
section
variable {X : Cx} {a b : Expr} {fa fb : FE} {pos cp : Pos} {k j : Nat} {i : Int}
theorem tk_lt (ha : SB X a fa) : STk X (.Compare a [.Lt] [.Constant (.int i) j cp] pos) (tBool (e2 qLt fa (eC (.int i)))) := tk_cmp op_lt (o2_i0 fun _ _ _ _ => .bl _) ha
theorem stt_ne (hr : Room k X.A) (ha : SEt X a fa) (hb : SB X b fb) : STt X (.Compare a [.NotEq] [b] pos) (tBool (e2 qNe fa fb)) := stt_cmp (op_ne.or (op_neD (by have := hr.units; omega))) o2_ne ha hb
end
/-- a def of the text, as it stands behind the top -/
def FunAt (K : PySem.W.Frag) (mg : Str → Option Value) (x : Str) (st : Stmt) : Prop := ∃ f fd, mg x = some (.ref f) ∧ Fun K x x st f fd
/-- .. and what it keeps -/
def Has (P : Program) (w : World) (K : PySem.W.Frag) (mg : Str → Option Value) (base : Heap) (x : Str) (ps : List Str) (k : Nat) (sp : Sp) : Prop := ∃ f fd, mg x = some (.ref f) ∧ PySem.W.keepIn K (.ref f) = true ∧ Binds K fd ps [] ∧ FnOk P w K mg base CX0 k f fd ps sp
def HasT (P : Program) (w : World) (K : PySem.W.Frag) (mg : Str → Option Value) (base : Heap) (x : Str) (ps : List Str) (k : Nat) (sp : Sp) : Prop := ∃ f fd, mg x = some (.ref f) ∧ PySem.W.keepIn K (.ref f) = true ∧ Binds K fd ps [] ∧ FnOkT P w K mg base CX0 k f fd ps sp
theorem FnOkT.mono {P : Program} {w : World} {K : PySem.W.Frag} {mg : Str → Option Value} {base : Heap} {CX : CXT} {j k : Nat} {f : Addr} {fd : FuncData} {ps : List Str} {sp : Sp} (F : FnOkT P w K mg base CX j f fd ps sp) (h : j ≤ k) :
    FnOkT P w K mg base CX k f fd ps sp := ⟨F.len, fun A outer s H args us vs Q E h0 hr => F.run A outer s H args us vs Q E h0 (hr.mono h)⟩
section
variable {X : Cx} {j k n : Nat} {ps : List Str} {x : Str} {p pos : Pos} {e : Expr} {es : List Expr} {fa : FA}
theorem se_callH {g : List D → Option D} (F : Has X.prog X.w X.K X.mg X.base x ps j (spP X.K n g)) (hr : Room k X.A) (hj : j ≤ k)
    (ha : SA X (e :: es) fa) (hg : Gl X x := by rfl) (hdb : (x == ("__debug__" : Str)) = false := by decide) (he : starEach (e :: es) X.env = (false, eval e X.env) :: starEach es X.env := by rfl) (hpl : (backTo pos (starEach es X.env)).any (·.1) = false := by rfl) :
    SE X (.Call (.Name x p) (e :: es) [] pos) (eCall (argc n g) fa) := by
  obtain ⟨f, fd, hm, hk, hb, F⟩ := F
  exact se_call (F.mono hj) hr hm hk hb ha hg hdb he hpl
theorem se_callTH {g : List D → Tp → Option (D × Tp)} {y : Str} {py : Pos} (i : Nat) (F : Has X.prog X.w X.K X.mg X.base x ps j (spT X.K n g)) (hr : Room k X.A) (hj : j ≤ k)
    (ha : SA X es fa) (hN : X.N[i]? = some y := by rfl) (hv : Vis X.env.scope y := by first | exact Or.inl rfl | exact Or.inr (Or.inl rfl) | exact Or.inr (Or.inr rfl)) (hg : Gl X x := by rfl) (hdb : (x == ("__debug__" : Str)) = false := by decide) (hd : (y == ("__debug__" : Str)) = false := by decide)
    (hcd : (y == ("__classdict__" : Str)) = false := by decide) (he : starEach (.Name y py :: es) X.env = (false, eval (.Name y py) X.env) :: starEach es X.env := by rfl) (hpl : (backTo pos (starEach es X.env)).any (·.1) = false := by rfl) :
    SE X (.Call (.Name x p) (.Name y py :: es) [] pos) (eCallT i n g fa) := by
  obtain ⟨f, fd, hm, hk, hb, F⟩ := F
  exact se_callT i (F.mono hj) hr hm hk hb ha hN hv hg hdb hd hcd he hpl
theorem set_callH {g : List D → Option D} (F : HasT X.prog X.w X.K X.mg X.base x ps j (spP X.K n g)) (hr : Room k X.A) (hj : j ≤ k)
    (ha : SA X (e :: es) fa) (hg : Gl X x := by rfl) (hdb : (x == ("__debug__" : Str)) = false := by decide) (he : starEach (e :: es) X.env = (false, eval e X.env) :: starEach es X.env := by rfl) (hpl : (backTo pos (starEach es X.env)).any (·.1) = false := by rfl) :
    SEt X (.Call (.Name x p) (e :: es) [] pos) (eCall (argc n g) fa) := by
  obtain ⟨f, fd, hm, hk, hb, F⟩ := F
  exact set_call (F.mono hj) hr hm hk hb ha hg hdb he hpl
theorem pe_callMk {N : Nat} {ta : TA} {e : Expr} (F : Has X.prog X.w X.K X.mg X.base x ps j (spMk X.K)) (hr : Room k X.A) (hj : j ≤ k)
    (ha : PA X [e] ta) (hg : Gl X x := by rfl) (hdb : (x == ("__debug__" : Str)) = false := by decide) (he : starEach [e] X.env = (false, eval e X.env) :: starEach [] X.env := by rfl) (hpl : (backTo pos (starEach [] X.env)).any (·.1) = false := by rfl) :
    PE X (.Call (.Name x p) [e] [] pos) (tCall (spMk X.K) [] E0 ta) := by
  obtain ⟨f, fd, hm, hk, hb, F⟩ := F
  exact pe_call (F.mono hj) hr hg hm hk hb .nil pass0 ha hdb he hpl
end
theorem funAt_mk {K : PySem.W.Frag} {h : Heap} {mg : Str → Option Value} {x : Str} {st : Stmt} {f : Addr} {oc kV dc pm cd ct : Value} {od an : Option Addr} {sl : Array (Option Value)} (X : K.In h) (G : h.Ns mainGlobals mg)
    (a : PySem.W.nsIn K mainGlobals x = some (some (.ref f))) (l : K.lookup f = some ⟨oc, od, .func (PySem.W.fnOf x x (defArgs st) (defBody st) (defScope st) .none kV dc pm an cd ct), sl⟩) (c : PySem.W.codeIn K cd x = true) (k : PySem.W.keepIn K (.ref f) = true) : FunAt K mg x st :=
  ⟨f, _, PySem.W.mg_of X G a, fun_mk l c k⟩
end Dv

/-! Dv23: how the pure readings are evaluated, step by step. -/
namespace Dv
open PySem
section
variable {f g : FS} {c c' : FT} {fa fb fc : FE} {ga gb : FA} {fi : FI} {gg : FG} {gs : FGs} {ρ ρ1 ρ2 : Rho} {T T1 T2 T3 : Tp} {d d1 d2 x y : D} {ds : List D} {r : Option (Fl × Tp)} {b : Bool} {i j n : Nat}
theorem bodyP_rt {N : Nat} {q : FS} (h : q (frame N (ds.map .fr)) T0 = some (.rt d, T1)) : bodyP N q ds = some d := by unfold bodyP; rw [h]
theorem bodyP_nx {N : Nat} {q : FS} (h : q (frame N (ds.map .fr)) T0 = some (.nx ρ1, T1)) : bodyP N q ds = some .none := by unfold bodyP; rw [h]
theorem bodyT_rt {N : Nat} {q : FS} (h : q (frame N (.tp :: ds.map .fr)) T = some (.rt d, T1)) : bodyT N q ds T = some (d, T1) := by unfold bodyT; rw [h]
theorem bodyT_nx {N : Nat} {q : FS} (h : q (frame N (.tp :: ds.map .fr)) T = some (.nx ρ1, T1)) : bodyT N q ds T = some (.none, T1) := by unfold bodyT; rw [h]
theorem seq_nx (h : f ρ T = some (.nx ρ1, T1)) (h2 : g ρ1 T1 = r) : sSeq f g ρ T = r := by unfold sSeq; rw [h]; exact h2
theorem seq_rt (h : f ρ T = some (.rt d, T1)) : sSeq f g ρ T = some (.rt d, T1) := by unfold sSeq; rw [h]
theorem seq_bk (h : f ρ T = some (.bk ρ1, T1)) : sSeq f g ρ T = some (.bk ρ1, T1) := by unfold sSeq; rw [h]
theorem if_t (h : c ρ T = some (true, T1)) (h2 : f ρ T1 = r) : sIf c f g ρ T = r := by unfold sIf; rw [h]; exact h2
theorem if_f (h : c ρ T = some (false, T1)) (h2 : g ρ T1 = r) : sIf c f g ρ T = r := by unfold sIf; rw [h]; exact h2
theorem drop_of (h : fa ρ T = some (d, T1)) : sDrop fa ρ T = some (.nx ρ, T1) := by unfold sDrop; rw [h]
theorem ret_of (h : fa ρ T = some (d, T1)) : sRet fa ρ T = some (.rt d, T1) := by unfold sRet; rw [h]
theorem set_of (h : fa ρ T = some (d, T1)) : sSet i fa ρ T = some (.nx (ρ.set i (.fr d)), T1) := by unfold sSet; rw [h]
theorem new_of (h : fa ρ T = some (d, T1)) : sNew i fa ρ T = some (.nx (ρ.set i (.ow d)), T1) := by unfold sNew; rw [h]
theorem par_of (h : fa ρ T = some (x, T1)) (h2 : fb ρ T1 = some (y, T2)) : sPar i j fa fb ρ T = some (.nx ((ρ.set i (.fr x)).set j (.fr y)), T2) := by unfold sPar; simp only [h, h2]
theorem asg_of (h : fa ρ T = some (d, T1)) (h2 : gg d ρ = some ρ1) : sAsgG fa gg ρ T = some (.nx ρ1, T1) := by unfold sAsgG; simp only [h, h2]
theorem app_of (h : fa ρ T = some (d, T1)) (h2 : ρ[i]? = some (.ow (.list ds))) (h3 : ds.length.blt line24 = true) : sApp i fa ρ T = some (.nx (ρ.set i (.ow (.list (ds ++ [d])))), T1) := by unfold sApp; simp only [h, h2, h3, if_true]
theorem call_of {q : List D → Option D} (h : ga ρ T = some (ds, T1)) (h2 : q ds = some d) : eCall q ga ρ T = some (d, T1) := by unfold eCall; simp only [h, h2]
theorem argc_of {q : List D → Option D} (hl : ds.length = n) (h : q ds = some d) : argc n q ds = some d := by unfold argc; rw [if_pos hl]; exact h
theorem callP_of {q : List D → Option D} (h : ga ρ T = some (ds, T1)) (hl : ds.length = n) (h2 : q ds = some d) : eCall (argc n q) ga ρ T = some (d, T1) := call_of h (argc_of hl h2)
theorem callT_of {q : List D → Tp → Option (D × Tp)} {r : Option (D × Tp)} (ht : ρ[i]? = some .tp) (h : ga ρ T = some (ds, T1)) (hl : ds.length = n) (h2 : q ds T1 = r) : eCallT i n q ga ρ T = r := by unfold eCallT; simp only [ht, h, hl, if_true]; exact h2
theorem a_cons (h : fa ρ T = some (d, T1)) (h2 : ga ρ T1 = some (ds, T2)) : aCons fa ga ρ T = some (d :: ds, T2) := by unfold aCons; simp only [h, h2]
theorem a_one (h : fa ρ T = some (d, T1)) : aCons fa aNil ρ T = some ([d], T1) := a_cons h rfl
theorem e2_of {q : D → D → Option D} (h : fa ρ T = some (x, T1)) (h2 : fb ρ T1 = some (y, T2)) (h3 : q x y = some d) : e2 q fa fb ρ T = some (d, T2) := by unfold e2; simp only [h, h2, h3]
theorem eF_of {q : D → Option D} (h : fa ρ T = some (x, T1)) (h3 : q x = some d) : eF q fa ρ T = some (d, T1) := by unfold eF; simp only [h, h3]
theorem meth_of {q : D → List D → Option D} (h : fa ρ T = some (x, T1)) (h2 : ga ρ T1 = some (ds, T2)) (h3 : q x ds = some d) : eMeth q fa ga ρ T = some (d, T2) := by unfold eMeth; simp only [h, h2, h3]
theorem eif_t (h : c ρ T = some (true, T1)) : eIf c fa fb ρ T = fa ρ T1 := by unfold eIf; rw [h]
theorem eif_f (h : c ρ T = some (false, T1)) : eIf c fa fb ρ T = fb ρ T1 := by unfold eIf; rw [h]
theorem bool_of (h : fa ρ T = some (.bool b, T1)) : tBool fa ρ T = some (b, T1) := by unfold tBool; rw [h]
theorem tru_of (h : fa ρ T = some (d, T1)) (h2 : truD d = some b) : tTru fa ρ T = some (b, T1) := by unfold tTru; simp only [h, h2]
theorem and_t (h : c ρ T = some (true, T1)) : tAndF c c' ρ T = c' ρ T1 := by unfold tAndF; rw [h]
theorem and_f (h : c ρ T = some (false, T1)) : tAndF c c' ρ T = some (false, T1) := by unfold tAndF; rw [h]
theorem or_t (h : c ρ T = some (true, T1)) : tOrF c c' ρ T = some (true, T1) := by unfold tOrF; rw [h]
theorem or_f (h : c ρ T = some (false, T1)) : tOrF c c' ρ T = c' ρ T1 := by unfold tOrF; rw [h]
theorem not_of (h : c ρ T = some (b, T1)) : tNotF c ρ T = some (!b, T1) := by unfold tNotF; rw [h]
theorem ch_of {L : D → FE} {r : Option (D × Tp)} (h : fa ρ T = some (x, T1)) (h2 : L x ρ T1 = r) : eCh fa L ρ T = r := by unfold eCh; rw [h]; exact h2
theorem lc_last {q : D → D → Option D} (h : fb ρ T = some (y, T1)) (h2 : q x y = some (.bool b)) : lLast q fb x ρ T = some (.bool b, T1) := by unfold lLast; simp only [h, h2]
theorem lc_t {q : D → D → Option D} {L : D → FE} {r : Option (D × Tp)} (h : fb ρ T = some (y, T1)) (h2 : q x y = some (.bool true)) (h3 : L y ρ T1 = r) : lCons q fb L x ρ T = r := by unfold lCons; simp only [h, h2]; exact h3
theorem lc_f {q : D → D → Option D} {L : D → FE} (h : fb ρ T = some (y, T1)) (h2 : q x y = some (.bool false)) : lCons q fb L x ρ T = some (.bool false, T1) := by unfold lCons; simp only [h, h2]
theorem tup_of (h : ga ρ T = some (ds, T1)) (h2 : ds.length.ble line24 = true) : eTup ga ρ T = some (.tuple ds, T1) := by unfold eTup; simp only [h, h2, if_true]
theorem lst_of (h : ga ρ T = some (ds, T1)) (h2 : ds.length.ble line24 = true) : eLst ga ρ T = some (.list ds, T1) := by unfold eLst; simp only [h, h2, if_true]
theorem gtup_of {ds : List D} (h : ds.length = n) (h2 : gs ds ρ = some ρ1) : gTupD n gs (.tuple ds) ρ = some ρ1 := by show (if _ then _ else _) = _; rw [if_pos h]; exact h2
theorem eand_t (h : fa ρ T = some (.bool true, T1)) : eAnd fa fb ρ T = fb ρ T1 := by unfold eAnd; rw [h]
theorem eand_f (h : fa ρ T = some (.bool false, T1)) : eAnd fa fb ρ T = some (.bool false, T1) := by unfold eAnd; rw [h]
theorem eor_t (h : fa ρ T = some (.bool true, T1)) : eOr fa fb ρ T = some (.bool true, T1) := by unfold eOr; rw [h]
theorem eor_f (h : fa ρ T = some (.bool false, T1)) : eOr fa fb ρ T = fb ρ T1 := by unfold eOr; rw [h]
theorem seq_i (h : fa ρ T = some (d, T1)) (h2 : seqD d = some ds) : iSeq fa ρ T = some (ds, T1) := by unfold iSeq; simp only [h, h2]
theorem for_of (h : fi ρ T = some (ds, T1)) (h2 : forL gg f ds ρ T1 = r) : sFor fi gg f ρ T = r := by unfold sFor; rw [h]; exact h2
theorem for_nil : forL gg f [] ρ T = some (.nx ρ, T) := rfl
theorem for_cons (h : gg d ρ = some ρ1) (h2 : f ρ1 T = some (.nx ρ2, T2)) (h3 : forL gg f ds ρ2 T2 = r) : forL gg f (d :: ds) ρ T = r := by unfold forL; simp only [h, h2]; exact h3
theorem for_rt (h : gg d ρ = some ρ1) (h2 : f ρ1 T = some (.rt x, T2)) : forL gg f (d :: ds) ρ T = some (.rt x, T2) := by unfold forL; simp only [h, h2]
theorem for_bk (h : gg d ρ = some ρ1) (h2 : f ρ1 T = some (.bk ρ2, T2)) : forL gg f (d :: ds) ρ T = some (.nx ρ2, T2) := by unfold forL; simp only [h, h2]
theorem wh_f (h : c ρ T = some (false, T1)) : whL c f (n + 1) ρ T = some (.nx ρ, T1) := by unfold whL; rw [h]
theorem wh_t (h : c ρ T = some (true, T1)) (h2 : f ρ T1 = some (.nx ρ2, T2)) (h3 : whL c f n ρ2 T2 = r) : whL c f (n + 1) ρ T = r := by unfold whL; simp only [h, h2]; exact h3
theorem lc_of {vs : List Nat} {ys : List D} (h : fi ρ T = some (ds, T1)) (h2 : lcL gg c fa (wipeR ρ vs) ds T1 = some (ys, T2)) (h3 : ds.length ≤ 16777216) : eLc fi gg c fa vs ρ T = some (.list ys, T2) := by
  unfold eLc; simp only [h, h2]
  rw [if_pos (by rw [line24_eq]; exact h3)]
theorem dc_of {vs : List Nat} {es : List (D × D)} (h : fi ρ T = some (ds, T1)) (h2 : dcL gg c fa fb (wipeR ρ vs) ds [] T1 = some (es, T2)) (h3 : ds.length.ble line24 = true) : eDc fi gg c fa fb vs ρ T = some (.dict es, T2) := by
  unfold eDc; simp only [h, h2, h3, if_true]
theorem r1_of {k : Int} (h : fa ρ T = some (.int k, T1)) (h2 : ok62 k = true) : iR1 fa ρ T = some (rngD 0 k.toNat, T1) := by unfold iR1; simp only [h, h2, if_true]
theorem r2_of {k l : Int} (h : fa ρ T = some (.int k, T1)) (h2 : fb ρ T1 = some (.int l, T2)) (h3 : ok62 k = true) (h4 : ok62 l = true) : iR2 fa fb ρ T = some (rngD k (l - k).toNat, T2) := by
  unfold iR2; simp only [h, h2, h3, h4, Bool.and_self, if_true]
theorem cut_of {fl fh : FO} {lo hi : Option Int} (h : fa ρ T = some (x, T1)) (h1 : fl ρ T1 = some (lo, T2)) (h2 : fh ρ T2 = some (hi, T3)) (h3 : qCut x lo hi = some d) : eCut fa fl fh ρ T = some (d, T3) := by unfold eCut; simp only [h, h1, h2, h3]
theorem o_of {k : Int} (h : fa ρ T = some (.int k, T1)) : oSome fa ρ T = some (some k, T1) := by unfold oSome; rw [h]
end
theorem ok62_nat {n : Nat} (h : n < 4611686018427387904) : ok62 (n : Int) = true := by
  unfold ok62; rw [Bool.and_eq_true, decide_eq_true_eq, decide_eq_true_eq]; omega
theorem rngD_map : ∀ (n : Nat) (lo : Int), rngD lo n = (List.range n).map fun i => .int (lo + (i : Nat))
  | 0, _ => rfl
  | n + 1, lo => by
    rw [rngD, rngD_map n (lo + 1), List.range_succ_eq_map, List.map_cons, List.map_map]
    congr 1
    · show PyData.int lo = .int (lo + ((0 : Nat) : Int)); congr 1; omega
    · apply List.map_congr_left
      intro i _
      show PyData.int (lo + 1 + i) = .int (lo + ((i + 1 : Nat) : Int))
      congr 1; omega
theorem rngD0 (n : Nat) : rngD 0 n = (List.range n).map fun i => .int ((i : Nat) : Int) := by
  rw [rngD_map]
  apply List.map_congr_left
  intro i _
  congr 1; omega
section
variable {α : Type} {g : FG} {ft : FT} {fe : FE} {ρ : Rho} {T : Tp}
theorem lcL_map {src : α → D} {h : α → D} : ∀ {xs : List α}, (∀ x ∈ xs, ∃ ρ1, g (src x) ρ = some ρ1 ∧ ft ρ1 T = some (true, T) ∧ fe ρ1 T = some (h x, T)) → lcL g ft fe ρ (xs.map src) T = some (xs.map h, T)
  | [], _ => rfl
  | x :: xs, hx => by
    obtain ⟨ρ1, h1, h2, h3⟩ := hx x List.mem_cons_self
    rw [List.map_cons, lcL]
    simp only [h1, h2, h3, lcL_map fun y hy => hx y (List.mem_cons_of_mem _ hy)]
    rfl
theorem lcL_filter {src : α → D} {h : α → D} {p : α → Bool} : ∀ {xs : List α}, (∀ x ∈ xs, ∃ ρ1, g (src x) ρ = some ρ1 ∧ ft ρ1 T = some (p x, T) ∧ fe ρ1 T = some (h x, T)) → lcL g ft fe ρ (xs.map src) T = some ((xs.filter p).map h, T)
  | [], _ => rfl
  | x :: xs, hx => by
    obtain ⟨ρ1, h1, h2, h3⟩ := hx x List.mem_cons_self
    have ih := lcL_filter (xs := xs) fun y hy => hx y (List.mem_cons_of_mem _ hy)
    rw [List.map_cons, lcL]
    cases e : p x with
    | true =>
      rw [e] at h2
      simp only [h1, h2, h3, ih]
      rw [List.filter_cons, if_pos e]; rfl
    | false =>
      rw [e] at h2
      simp only [h1, h2, h3, ih]
      rw [List.filter_cons, if_neg (by rw [e]; exact Bool.false_ne_true)]
theorem for_inv {f : FS} {P : Nat → Rho → Prop} {T : Tp} {src : Nat → D} : ∀ (n k : Nat) (ρ : Rho), P k ρ → (∀ i ρ, k ≤ i → i < k + n → P i ρ → ∃ ρ1 ρ2, g (src i) ρ = some ρ1 ∧ f ρ1 T = some (.nx ρ2, T) ∧ P (i + 1) ρ2) →
    ∃ ρ2, P (k + n) ρ2 ∧ forL g f ((List.range' k n).map src) ρ T = some (.nx ρ2, T)
  | 0, k, ρ, h, _ => ⟨ρ, h, rfl⟩
  | n + 1, k, ρ, h, hs => by
    obtain ⟨ρ1, ρ2, h1, h2, h3⟩ := hs k ρ (Nat.le_refl _) (by omega) h
    obtain ⟨ρ3, h4, h5⟩ := for_inv n (k + 1) ρ2 h3 fun i ρ a b c => hs i ρ (by omega) (by omega) c
    exact ⟨ρ3, by rw [show k + (n + 1) = k + 1 + n by omega]; exact h4, for_cons h1 h2 h5⟩
end
/-! ### the operations on what is known -/
theorem q_mul {i j : Int} (h : j.natAbs < 18446744073709551616) : qMul (.int i) (.int j) = some (.int (i * j)) := by
  show qMulI i j = _
  unfold qMulI
  rw [if_pos (by rw [Bool.or_eq_true, Nat.blt_eq, Nat.blt_eq]; exact .inr h)]
theorem q_div {i j : Int} (h : 0 < j) (h2 : j < 1073741824) : qDiv (.int i) (.int j) = some (.int (i / j)) := by
  show qDivI i j = _
  unfold qDivI
  rw [if_pos (by rw [Bool.and_eq_true, decide_eq_true_eq, decide_eq_true_eq]; exact ⟨h, h2⟩)]
theorem q_mod {i j : Int} (h : 0 < j) : qMod (.int i) (.int j) = some (.int (i % j)) := by
  show qModI i j = _
  unfold qModI
  rw [if_pos h]
theorem S_len (l : List Nat) : (S l).length = l.length := rfl
theorem ble24 {n : Nat} (h : n ≤ 16777216) : n.ble line24 = true := Nat.ble_eq_true_of_le h
theorem blt24 {n : Nat} (h : n < 16777216) : n.blt line24 = true := Nat.ble_eq_true_of_le h
theorem q_cat {u v : List Nat} (h : u.length + v.length ≤ 16777216) : qAdd (.str (S u)) (.str (S v)) = some (.str (S (u ++ v))) := by
  show (if (u.length + v.length).ble line24 then _ else _) = _
  rw [if_pos (ble24 h)]; rfl
theorem q_len {u : List Nat} (h : u.length ≤ 16777216) : qLen [.str (S u)] = some (.int (u.length : Nat)) := by
  show (if u.length.ble line24 then _ else _) = _
  rw [if_pos (ble24 h)]; rfl
end Dv

/-! Dv24: dicts that are read: keys whole numbers and texts, or tuples of these. -/
namespace Dv
open PySem PySem.Spec PyProof.Rows L2

def keysOf : List D → Option (List Key)
  | [] => some []
  | d :: r => match keyOf d with
    | none => none
    | some k => match keysOf r with
      | none => none
      | some ks => some (k :: ks)
theorem keysOf_map : ∀ {ds : List D} {ks : List Key}, keysOf ds = some ks → ks.map keyD = ds
  | [], _, h => by cases h; rfl
  | d :: r, ks, h => by
    unfold keysOf at h
    split at h
    · cases h
    rename_i k h1
    split at h
    · cases h
    rename_i ks' h2
    cases h
    rw [List.map_cons, keyOf_keyD h1, keysOf_map h2]
theorem keysOf_rep {K : PySem.W.Frag} {O : OS} {H : Hp} : ∀ {ds : List D} {vs : List V} {ks : List Key}, RepL K O H vs ds → keysOf ds = some ks → vs = ks.map kV
  | [], _, _, .nil, h => by cases h; rfl
  | d :: r, _, ks, .cons r1 q, h => by
    unfold keysOf at h
    split at h
    · cases h
    rename_i k h1
    split at h
    · cases h
    rename_i ks' h2
    cases h
    rw [List.map_cons, keyOf_rep r1 h1, keysOf_rep q h2]
def kEqL : List D → List D → Bool
  | [], [] => true
  | a :: x, b :: y => kEq a b && kEqL x y
  | _, _ => false
theorem kEqL_keys : ∀ ks js : List Key, kEqL (ks.map keyD) (js.map keyD) = decide (ks = js)
  | [], [] => rfl
  | [], _ :: _ => rfl
  | _ :: _, [] => rfl
  | k :: ks, j :: js => by
    rw [List.map_cons, List.map_cons, kEqL, kEq_key, kEqL_keys ks js]
    by_cases h : k = j
    · by_cases g : ks = js
      · simp [h, g]
      · simp [h, g]
    · simp [h]
def kEq2 : D → D → Bool
  | .tuple xs, .tuple ys => kEqL xs ys
  | a, b => kEq a b
theorem kEq2_k (k j : Key) : kEq2 (keyD k) (keyD j) = decide (k = j) := by
  rw [← kEq_key]
  cases k <;> cases j <;> rfl
theorem kEq2_t (k j : List Key) : kEq2 (keyTD k) (keyTD j) = decide (k = j) := kEqL_keys k j
theorem kEq2_kt (k : Key) (j : List Key) : kEq2 (keyD k) (keyTD j) = false := by cases k <;> rfl
theorem kEq2_tk (k : List Key) (j : Key) : kEq2 (keyTD k) (keyD j) = false := by cases j <;> rfl
def getD2 : List (D × D) → D → Option D
  | [], _ => none
  | (k', v) :: r, k => match kEq2 k' k with
    | true => some v
    | false => getD2 r k
def putD2 (es : List (D × D)) (k v : D) : List (D × D) := if es.any (fun e => kEq2 e.1 k) then es.map (fun e => if kEq2 e.1 k then (e.1, v) else e) else es ++ [(k, v)]
section
variable {K : PySem.W.Frag} {O : OS} {H : Hp}
theorem repK_get (k : Key) : ∀ {es : List (D × D)} {kvs : List (Key × V)}, RepK K O H kvs es → (∀ d, getD2 es (keyD k) = some d → ∃ v, valV kvs k = some v ∧ Rep K O H v d) ∧ (getD2 es (keyD k) = none → valV kvs k = none)
  | [], _, .nil => ⟨fun _ h => (by cases h), fun _ => rfl⟩
  | (_, _) :: es, _, .cons (k := k') (kvs := kvs) r q => by
    have hh := kEq2_k k' k
    by_cases e : k' = k
    · rw [decide_eq_true e] at hh
      refine ⟨fun d h => ?_, fun h => ?_⟩
      · unfold getD2 at h; rw [hh] at h
        cases h
        exact ⟨_, valV_pos e, r⟩
      · unfold getD2 at h; rw [hh] at h
        cases h
    · rw [decide_eq_false e] at hh
      obtain ⟨h1, h2⟩ := repK_get k q
      refine ⟨fun d h => ?_, fun h => ?_⟩
      · unfold getD2 at h; rw [hh] at h
        obtain ⟨v, a, b⟩ := h1 d h
        exact ⟨v, by rw [valV_neg (p := (k', _)) e]; exact a, b⟩
      · unfold getD2 at h; rw [hh] at h
        rw [valV_neg (p := (k', _)) e]; exact h2 h
theorem repT_get (k : List Key) : ∀ {es : List (D × D)} {kvs : List (List Key × V)}, RepT K O H kvs es → (∀ d, getD2 es (keyTD k) = some d → ∃ v, valV kvs k = some v ∧ Rep K O H v d) ∧ (getD2 es (keyTD k) = none → valV kvs k = none)
  | [], _, .nil => ⟨fun _ h => (by cases h), fun _ => rfl⟩
  | (_, _) :: es, _, .cons (k := k') (kvs := kvs) _ r q => by
    have hh := kEq2_t k' k
    by_cases e : k' = k
    · rw [decide_eq_true e] at hh
      refine ⟨fun d h => ?_, fun h => ?_⟩
      · unfold getD2 at h; rw [hh] at h
        cases h
        exact ⟨_, valV_pos e, r⟩
      · unfold getD2 at h; rw [hh] at h
        cases h
    · rw [decide_eq_false e] at hh
      obtain ⟨h1, h2⟩ := repT_get k q
      refine ⟨fun d h => ?_, fun h => ?_⟩
      · unfold getD2 at h; rw [hh] at h
        obtain ⟨v, a, b⟩ := h1 d h
        exact ⟨v, by rw [valV_neg (p := (k', _)) e]; exact a, b⟩
      · unfold getD2 at h; rw [hh] at h
        rw [valV_neg (p := (k', _)) e]; exact h2 h
end

/-! ### an empty dict is of both kinds -/
section
variable {X : Cx} {pins : List (Addr × Obj)} {σ : L2.St} {H : Hp} {s : Shared} {a : Addr} {y : V} {o : Option V}
theorem inv_flipT (I : Inv X pins σ H s) (e : H a = some (.dK [])) : Inv X pins σ (upd H a (.dT [])) s := by
  obtain ⟨z, hd, vs, rel, ob, es, ep, h1, h2, h3, h4, h5, h6⟩ := dk_of I.hok e
  cases rel
  have hes : es.toList = [] := by
    have := h5.length
    exact List.eq_nil_of_length_eq_zero this
  exact I.write (t' := s.toks) (h' := s.heap) (x := a) (e := a) (by rw [e]; exact True.intro) (.inl rfl) (fun b u _ q => q) ⟨ob, h1⟩
    ⟨Nat.zero_le _, hd, [], .nil, ob, es, ep, h1, h2, h3, hes, List.nodup_nil⟩
theorem inv_flipK (I : Inv X pins σ H s) (e : H a = some (.dT [])) : Inv X pins σ (upd H a (.dK [])) s := by
  obtain ⟨z, hd, xs, rel, ob, es, ep, h1, h2, h3, h4, h5⟩ := dt_of I.hok e
  cases rel
  have hes : es = #[] := by
    cases es with
    | mk l =>
      have h4 : l = [] := h4
      rw [h4]
  subst hes
  exact I.write (t' := s.toks) (h' := s.heap) (x := a) (e := a) (by rw [e]; exact True.intro) (.inl rfl) (fun b u _ q => q) ⟨ob, h1⟩
    ⟨Nat.zero_le _, hd, [], .nil, ob, #[], ep, h1, h2, h3, (by intro e he; simp at he), .nil, List.nodup_nil⟩
/-- what the dict at a holds at the key y; an empty one has keys of both kinds -/
def DG (H : Hp) (a : Addr) (y : V) (o : Option V) : Prop :=
  DGet H a y o ∨ (o = none ∧ ∃ b k, Rd H a (.dK []) ∧ y = .ref b ∧ H b = some (.tup (List.map kV k))) ∨ (o = none ∧ ∃ k, Rd H a (.dT []) ∧ y = kV k)
theorem empty_T (I : Inv X pins σ H s) (e : Rd H a (.dK [])) : (a == sysModules) = false ∧ s.heap.DictOfH (tupleKind (mixKind X.prog X.w)) a [] := by
  obtain ⟨z, hd, vs, rel, ob, es, ep, h1, h2, h3, h4, h5, h6⟩ := dk_rd I.hok e
  cases rel
  have hes : es.toList = [] := List.eq_nil_of_length_eq_zero h5.length
  exact ⟨hd, ob, es, ep, h1, h2, h3, hes, fun _ hx => by simp at hx, List.nodup_nil⟩
theorem empty_K (I : Inv X pins σ H s) (e : Rd H a (.dT [])) : (a == sysModules) = false ∧ s.heap.DictOf (mixKind X.prog X.w) a [] := by
  obtain ⟨z, hd, xs, rel, ob, es, ep, h1, h2, h3, h4, h5⟩ := dt_rd I.hok e
  cases rel
  have hes : es = #[] := by
    cases es with
    | mk l =>
      have h4 : l = [] := h4
      rw [h4]
  subst hes
  exact ⟨hd, ob, #[], ep, h1, h2, h3, (by intro e he; simp at he), .nil, List.nodup_nil⟩
end
def rDGet : R2 := fun x y H Q => ∃ a v, x = .ref a ∧ DGet H a y (some v) ∧ Q v H
def rDIn : R2 := fun y x H Q => ∃ a o, x = .ref a ∧ DG H a y o ∧ Q (.bl o.isSome) H
def rDNotIn : R2 := fun y x H Q => ∃ a o, x = .ref a ∧ DG H a y o ∧ Q (.bl (!o.isSome)) H
section
variable {X : Cx} {a b e f o : Expr} {fa fb fo fk fx : FE} {pos apos cpos : Pos}
theorem op_din (hu : X.A.units + 1 < cLine) : OpR X (compareOp .In) rDIn := fun pins s σ H x y v u Q I rx ry ⟨a, ov, ey, g, q⟩ => by
  subst ey
  cases (show u = Value.ref a from ry)
  rcases g with g | ⟨rfl, b, k, e, rfl, eb⟩ | ⟨rfl, k, e, rfl⟩
  · exact d_in hu I g rx fun s' I' => ⟨.bl ov.isSome, H, I', rfl, q⟩
  · cases (show v = Value.ref b from rx)
    obtain ⟨hd, dd⟩ := empty_T I e
    exact wpAny_in_heap (tupleKind_room_in1 hu) (key_of I.hok eb) hd dd ⟨.bl false, H, I.tok _, rfl, q⟩
  · obtain ⟨hd, dd⟩ := empty_K I e
    exact wpAny_in_of (kV_is rx) hd dd.mapOf ⟨.bl false, H, I.tok _, rfl, q⟩
theorem op_dnotin (hu : X.A.units + 1 < cLine) : OpR X (compareOp .NotIn) rDNotIn := fun pins s σ H x y v u Q I rx ry ⟨a, ov, ey, g, q⟩ => by
  subst ey
  cases (show u = Value.ref a from ry)
  rcases g with g | ⟨rfl, b, k, e, rfl, eb⟩ | ⟨rfl, k, e, rfl⟩
  · exact d_notIn hu I g rx fun s' I' => ⟨.bl (!ov.isSome), H, I', rfl, q⟩
  · cases (show v = Value.ref b from rx)
    obtain ⟨hd, dd⟩ := empty_T I e
    exact wpAny_notIn_heap (tupleKind_room_in1 hu) (key_of I.hok eb) hd dd ⟨.bl true, H, I.tok _, rfl, q⟩
  · obtain ⟨hd, dd⟩ := empty_K I e
    exact wpAny_notIn_of (kV_is rx) hd dd.mapOf ⟨.bl true, H, I.tok _, rfl, q⟩
/-- d.get(y, x) -/
theorem d_get2R {pins : List (Addr × Obj)} {σ : L2.St} {H : Hp} {s : Shared} {a : Addr} {y d : V} {u r : Value} {o : Option V} {A : Around} {E : Value → Shared → Prop} {Q : Value → Shared → Prop} (hu : A.units + 1 < cLine) (I : Inv X pins σ H s) (g : DG H a y o) (ry : RelV y u) (rd : RelV d r) (h : ∀ w' s', Inv X pins σ H s' → RelV (o.getD d) w' → Q w' s') :
    wpAny (model X.prog X.w) A (call (.builtin "dict.get") [.ref a, u, r]) Q E s := by
  rcases g with g | ⟨rfl, b, k, e, rfl, eb⟩ | ⟨rfl, k, e, rfl⟩
  · exact d_get2 hu I g ry rd h
  · cases (show u = Value.ref b from ry)
    obtain ⟨hd, dd⟩ := empty_T I e
    exact call_meetsIn PySem.F.slot_dict_get dd.typeIs PySem.F.entry_dict_get (PySem.F.args_dict_get_3 _ _ _) (meetsH_dict_get_default (tupleKind (mixKind X.prog X.w)) a b hd r) ⟨tupleKind_room_in1 hu, k, [], key_of I.hok eb, dd, h _ _ (I.tok _) rd⟩
  · obtain ⟨hd, dd⟩ := empty_K I e
    exact call_meetsIn PySem.F.slot_dict_get dd.typeIs PySem.F.entry_dict_get (PySem.F.args_dict_get_3 _ _ _) (meets_dict_get_default (mixKind X.prog X.w) a (kV_is ry) hd r) ⟨_, dd.mapOf, h _ _ (I.tok _) rd⟩

/-! ### readings by values -/
/-- a tuple that may be a key -/
def keysT (ds : List D) : Option (List Key) := match pinned ds with
  | true => none
  | false => keysOf ds
theorem keysT_some {ds : List D} {ks : List Key} (h : keysT ds = some ks) : pinned ds = false ∧ keysOf ds = some ks := by
  unfold keysT at h
  split at h
  · cases h
  · rename_i e
    exact ⟨e, h⟩
/-- what a dict holds at a key: none, where this is not told -/
def fstT : List (D × D) → Bool
  | (.tuple _, _) :: _ => true
  | _ => false
def fstK : List (D × D) → Bool
  | (.int _, _) :: _ => true
  | (.str _, _) :: _ => true
  | _ => false
def dAt (es : List (D × D)) (k : D) : Option (Option D) := match k with
  | .int _ => if isK es || fstT es then none else some (getD2 es k)
  | .str _ => if isK es || fstT es then none else some (getD2 es k)
  | .tuple ds => if isK es || fstK es then none else match keysT ds with
    | none => none
    | some _ => some (getD2 es k)
  | _ => none
theorem rep_key {K : PySem.W.Frag} {O : OS} {H : Hp} {v : V} {k : Key} (r : RepB K O H v (keyD k)) : v = kV k := by
  cases k with
  | inl i => exact rb_int r
  | inr x => exact rb_str r
theorem rep_keyT {K : PySem.W.Frag} {O : OS} {H : Hp} {v : V} {ds : List D} {ks : List Key} (r : RepB K O H v (.tuple ds)) (h : keysT ds = some ks) : ∃ b, v = .ref b ∧ H b = some (.tup (ks.map kV)) := by
  obtain ⟨n, h⟩ := keysT_some h
  obtain ⟨p, u, xs, rfl, hp, c, rp⟩ := rb_tupC r
  rw [n, keysOf_rep rp h] at c
  rw [show u = .tup _ from c] at hp
  exact ⟨p, rfl, hp⟩
/-- the value at a key, in the heap -/
def RO (K : PySem.W.Frag) (O : OS) (H : Hp) : Option V → Option D → Prop
  | none, none => True
  | some v, some d => Rep K O H v d
  | _, _ => False
theorem dAt_rep {K : PySem.W.Frag} {O : OS} {H : Hp} {x y : V} {es : List (D × D)} {k : D} {od : Option D} (rx : RepB K O H x (.dict es)) (ry : RepB K O H y k) (h : dAt es k = some od) : ∃ a o, x = .ref a ∧ DG H a y o ∧ RO K O H o od := by
  have inK : isK es = false → fstT es = false → ∀ (k' : Key), k = keyD k' → od = getD2 es k → ∃ a o, x = .ref a ∧ DG H a y o ∧ RO K O H o od := fun hk hn k' ek eo => by
    subst ek eo
    have ey := rep_key ry
    subst ey
    obtain ⟨p, rfl, ⟨kvs, hp, rp⟩ | ⟨kvs, hp, rp⟩⟩ := rb_dict hk rx
    · obtain ⟨h1, h2⟩ := repK_get k' rp
      cases e : getD2 es (keyD k') with
      | none => exact ⟨p, none, rfl, .inl (.inl ⟨kvs, k', hp, rfl, (h2 e).symm⟩), trivial⟩
      | some d =>
        obtain ⟨v, e1, r1⟩ := h1 d e
        exact ⟨p, some v, rfl, .inl (.inl ⟨kvs, k', hp, rfl, e1.symm⟩), r1⟩
    · cases rp with
      | nil => exact ⟨p, none, rfl, .inr (.inr ⟨rfl, k', hp, rfl⟩), trivial⟩
      | cons _ r q => cases hn
  unfold dAt at h
  split at h
  · split at h
    · cases h
    rename_i i hh
    rw [Bool.or_eq_true, not_or] at hh
    cases h
    exact inK (eq_false_of_ne_true hh.1) (eq_false_of_ne_true hh.2) (.inl i) rfl rfl
  · split at h
    · cases h
    rename_i i hh
    rw [Bool.or_eq_true, not_or] at hh
    cases h
    exact inK (eq_false_of_ne_true hh.1) (eq_false_of_ne_true hh.2) (.inr i) rfl rfl
  · rename_i ds
    split at h
    · cases h
    rename_i hh
    rw [Bool.or_eq_true, not_or] at hh
    have hk := eq_false_of_ne_true hh.1
    have hn := eq_false_of_ne_true hh.2
    split at h
    · cases h
    rename_i ks hks
    cases h
    obtain ⟨b, rfl, hb⟩ := rep_keyT ry hks
    have ek : (.tuple ds : D) = keyTD ks := by rw [keyTD, keysOf_map (keysT_some hks).2]
    rw [ek]
    obtain ⟨p, rfl, ⟨kvs, hp, rp⟩ | ⟨kvs, hp, rp⟩⟩ := rb_dict hk rx
    · cases rp with
      | nil => exact ⟨p, none, rfl, .inr (.inl ⟨rfl, b, ks, hp, rfl, hb⟩), trivial⟩
      | cons r q =>
        rename_i kk _ _ _ _
        cases kk <;> cases hn
    · obtain ⟨h1, h2⟩ := repT_get ks rp
      cases e : getD2 es (keyTD ks) with
      | none => exact ⟨p, none, rfl, .inl (.inr ⟨kvs, ks, b, hp, rfl, hb, (h2 e).symm⟩), trivial⟩
      | some d =>
        obtain ⟨v, e1, r1⟩ := h1 d e
        exact ⟨p, some v, rfl, .inl (.inr ⟨kvs, ks, b, hp, rfl, hb, e1.symm⟩), r1⟩
  · cases h
end
end Dv

/-! Dv25: subscripts of dicts too, in, get. -/
namespace Dv
open PySem PySem.Spec PyProof.Rows L2

section
variable {X : Cx} {e : Expr} {f f' fa fb : FE}
theorem SE.or (h : SE X e f) (h' : SE X e f') : SE X e (fun ρ T => (f ρ T).or (f' ρ T)) := ⟨⟨fun pins s σ H Q I ⟨G, B, O, τ, ρ, T, d, T', E, hf, q⟩ => by
  have hf : (f ρ T).or (f' ρ T) = some (d, T') := hf
  cases e : f ρ T with
  | some z =>
    rw [e] at hf
    have hf : some z = some (d, T') := hf
    cases hf
    exact h.pe.run pins s σ H Q I ⟨G, B, O, τ, ρ, T, d, T', E, e, q⟩
  | none =>
    rw [e] at hf
    have hf : f' ρ T = some (d, T') := hf
    exact h'.pe.run pins s σ H Q I ⟨G, B, O, τ, ρ, T, d, T', E, hf, q⟩⟩⟩
theorem SE.congr (h : SE X e f) (w : ∀ ρ T, f' ρ T = f ρ T) : SE X e f' := by
  have : f' = f := funext fun ρ => funext fun T => w ρ T
  rw [this]; exact h
theorem e2_or {g g' : D → D → Option D} (ρ : Rho) (T : Tp) : e2 (fun x y => (g x y).or (g' x y)) fa fb ρ T = (e2 g fa fb ρ T).or (e2 g' fa fb ρ T) := by
  unfold e2
  cases fa ρ T with
  | none => rfl
  | some p =>
    obtain ⟨x, T1⟩ := p
    show (match fb ρ T1 with
      | none => none
      | some (y, T2) => match (g x y).or (g' x y) with
        | none => none
        | some z => some (z, T2)) = Option.or (match fb ρ T1 with
      | none => none
      | some (y, T2) => match g x y with
        | none => none
        | some z => some (z, T2)) (match fb ρ T1 with
      | none => none
      | some (y, T2) => match g' x y with
        | none => none
        | some z => some (z, T2))
    cases fb ρ T1 with
    | none => rfl
    | some p =>
      obtain ⟨y, T2⟩ := p
      show (match (g x y).or (g' x y) with
        | none => none
        | some z => some (z, T2)) = Option.or (match g x y with
        | none => none
        | some z => some (z, T2)) (match g' x y with
        | none => none
        | some z => some (z, T2))
      cases g x y <;> rfl
end
def qDAt (x k : D) : Option D := match x with
  | .dict es => match dAt es k with
    | some (some v) => some v
    | _ => none
  | _ => none
def qKAt (x k : D) : Option D := match x with
  | .dict es => match isK es with
    | true => match k with
      | .int i => atD (es.map (·.2)) i
      | _ => none
    | false => none
  | _ => none
theorem o2_dget {K : PySem.W.Frag} : Op2 K rDGet qDAt := by
  intro O H x y dx dy d Q _ rx ry hg q
  unfold qDAt at hg
  split at hg
  · split at hg
    · rename_i es _ _ h
      cases hg
      obtain ⟨a, o, rfl, g, ro⟩ := dAt_rep rx ry h
      cases o with
      | none => exact ro.elim
      | some v =>
        rcases g with g | ⟨g, _⟩ | ⟨g, _⟩
        · exact ⟨a, v, rfl, g, q v H (Xt.refl H) ro⟩
        · cases g
        · cases g
    · cases hg
  · cases hg
theorem rb_ktp {K : PySem.W.Frag} {O : OS} {H : Hp} {v : V} {es : List (D × D)} (r : RepB K O H v (.dict es)) (hk : isK es = true) : ∃ a xs, v = .ref a ∧ SqT K H a xs ∧ RepL K O H xs (es.map (·.2)) := by
  rcases r with r | ⟨p, rfl, r⟩
  · cases r with
    | ktp e r => exact ⟨_, _, rfl, e, r.repL⟩
    | dK e r =>
      cases r with
      | nil => cases hk
      | cons r q => rename_i k _ _ _ _; cases k <;> cases hk
    | dT e r =>
      cases r with
      | nil => cases hk
      | cons _ r q => cases hk
  · cases r with
    | dK e r =>
      cases r with
      | nil => cases hk
      | cons r q => rename_i k _ _ _ _; cases k <;> cases hk
    | dT e r =>
      cases r with
      | nil => cases hk
      | cons _ r q => cases hk
theorem o2_kat {K : PySem.W.Frag} : Op2 K (rIx K) qKAt := by
  intro O H x y dx dy d Q _ rx ry hg q
  unfold qKAt at hg
  split at hg
  · split at hg
    · rename_i hk
      split at hg
      · obtain ⟨p, xs, rfl, hp, rp⟩ := rb_ktp rx hk
        obtain ⟨v, h1, h2⟩ := rp.at hg
        exact .inr (.inl ⟨p, xs, _, v, rfl, rb_int ry, hp, h1, q v H (Xt.refl H) h2⟩)
      · cases hg
    · cases hg
  · cases hg
def qIx2 (x y : D) : Option D := (qIx x y).or ((qKAt x y).or (qDAt x y))
section
variable {X : Cx} {a b e f o : Expr} {fa fb fo fk fx : FE} {pos apos cpos : Pos} {k : Nat}
theorem se_at2 (hr : Room k X.A) (ha : SB X a fa) (hb : SB X b fb) (hs : PlainIx b := by intro _ _; rfl) (hn : NoSl b := by intro _ _; rfl) : SE X (.Subscript a b pos) (e2 qIx2 fa fb) := by
  have h1 : SE X (.Subscript a b pos) (e2 qIx fa fb) := se_at ha hb hs
  have h2 : SE X (.Subscript a b pos) (e2 qKAt fa fb) := se_ix ix_seq o2_kat ha hb hs
  have h3 : SE X (.Subscript a b pos) (e2 qDAt fa fb) := ⟨PE.imp (pe_dget (by have := hr.units; omega) ha.pe hb.pe hn) (tOp_of o2_dget)⟩
  exact (h1.or ((h2.or h3).congr fun ρ T => e2_or ρ T)).congr fun ρ T => e2_or ρ T
def qDIn (k x : D) : Option D := match x with
  | .dict es => match dAt es k with
    | some (some _) => some (.bool true)
    | some none => some (.bool false)
    | none => none
  | _ => none
theorem o2_din {K : PySem.W.Frag} : Op2 K rDIn qDIn := by
  intro O H x y dx dy d Q _ rx ry hg q
  unfold qDIn at hg
  split at hg
  · split at hg
    · rename_i h
      cases hg
      obtain ⟨a, o, rfl, g, ro⟩ := dAt_rep ry rx h
      cases o with
      | none => exact ro.elim
      | some v => exact ⟨a, _, rfl, g, q _ H (Xt.refl H) (.bl _)⟩
    · rename_i h
      cases hg
      obtain ⟨a, o, rfl, g, ro⟩ := dAt_rep ry rx h
      cases o with
      | none => exact ⟨a, _, rfl, g, q _ H (Xt.refl H) (.bl _)⟩
      | some v => exact ro.elim
    · cases hg
  · cases hg
theorem o2_dnotin {K : PySem.W.Frag} : Op2 K rDNotIn (fun x y => qNot (qDIn x y)) := by
  intro O H x y dx dy d Q _ rx ry hg q
  have hg : qNot (qDIn dx dy) = some d := hg
  unfold qNot qDIn at hg
  split at hg
  case h_2 => cases hg
  rename_i b e
  cases hg
  split at e
  · split at e
    · rename_i h
      cases e
      obtain ⟨a, o, rfl, g, ro⟩ := dAt_rep ry rx h
      cases o with
      | none => exact ro.elim
      | some v => exact ⟨a, _, rfl, g, q _ H (Xt.refl H) (.bl _)⟩
    · rename_i h
      cases e
      obtain ⟨a, o, rfl, g, ro⟩ := dAt_rep ry rx h
      cases o with
      | none => exact ⟨a, _, rfl, g, q _ H (Xt.refl H) (.bl _)⟩
      | some v => exact ro.elim
    · cases e
  · cases e
def qIn2 (x y : D) : Option D := (qIn x y).or (qDIn x y)
def qNotin2 (x y : D) : Option D := (qNotin x y).or (qNot (qDIn x y))
theorem sc_in2 (hr : Room k X.A) (ha : SB X a fa) (hb : SB X b fb) : SC X .In a b (e2 qIn2 fa fb) := sc_of ((op_in_str.or op_in_seq).or (op_din (by have := hr.units; omega))) (o2_in.or o2_din) ha hb
theorem sc_notin2 (hr : Room k X.A) (ha : SB X a fa) (hb : SB X b fb) : SC X .NotIn a b (e2 qNotin2 fa fb) := sc_of ((op_notin_str.or op_notIn_seq).or (op_dnotin (by have := hr.units; omega))) (o2_notin.or o2_dnotin) ha hb
end
end Dv

/-! Dv26: x[k] = v, x a slot's own list or dict. -/
namespace Dv
open PySem PySem.Spec PyProof.Rows L2

/-- the heap behind a[y] = v; an empty dict takes keys of both kinds -/
def DP (H : Hp) (a : Addr) (y v : V) (H' : Hp) : Prop := DPut H a y v H' ∨
  (∃ b k, H a = some (.dK []) ∧ y = .ref b ∧ H b = some (.tup (List.map kV k)) ∧ H' = upd H a (.dT [(k, v)])) ∨ ∃ k, H a = some (.dT []) ∧ y = kV k ∧ H' = upd H a (.dK [(k, v)])
theorem upd_upd {H : Hp} {a : Addr} {u o : HO} : upd (upd H a o) a u = upd H a u := by
  funext b
  by_cases h : b = a
  · subst h; rw [upd_same, upd_same]
  · rw [upd_ne h, upd_ne h, upd_ne h]
def rSetD2 : TSet := fun o i v H Q => ∃ a H', o = .ref a ∧ DP H a i v H' ∧ Q H'
section
variable {X : Cx} {e : Expr} {fa fb fo fk fx fv : FE} {pos apos cpos : Pos} {k : Nat}
theorem set_dict2 (hu : X.A.units + 1 < cLine) : PSet X rSetD2 := by
  intro pins s σ H o i v ov iv u Q I ro ri rv h
  obtain ⟨a, H', eo, g, q⟩ := h
  subst eo
  cases (show ov = Value.ref a from ro)
  rcases g with g | ⟨b, k, e, rfl, eb, rfl⟩ | ⟨k, e, rfl, rfl⟩
  · exact d_setItem hu I g ri rv fun s' I' => ⟨H', I', q⟩
  · have hne : b ≠ a := fun z => by rw [z, e] at eb; cases eb
    refine d_setItem hu (inv_flipT I e) (DPut.t (kvs := []) (k := k) (v := v) upd_same (by rw [upd_ne hne]; exact eb) (by decide)) ri rv fun s' I' => ⟨_, I', ?_⟩
    rw [upd_upd]; exact q
  · refine d_setItem hu (inv_flipK I e) (DPut.k (kvs := []) (k := k) (v := v) upd_same (by decide)) ri rv fun s' I' => ⟨_, I', ?_⟩
    rw [upd_upd]; exact q
theorem PSet.or {t t' : TSet} (h : PSet X t) (h' : PSet X t') : PSet X (fun o i v H Q => t o i v H Q ∨ t' o i v H Q) := by
  intro pins s σ H o i v ov iv u Q I ro ri rv q
  rcases q with q | q
  · exact h pins s σ H o i v ov iv u Q I ro ri rv q
  · exact h' pins s σ H o i v ov iv u Q I ro ri rv q
end
section
variable {K : PySem.W.Frag} {O : OS} {H : Hp}
theorem RepK.any2 (k : Key) : ∀ {es : List (D × D)} {kvs : List (Key × V)}, RepK K O H kvs es → (kvs.any fun kv => decide (kv.1 = k)) = es.any (fun e => kEq2 e.1 (keyD k))
  | [], _, .nil => rfl
  | (_, _) :: _, _, .cons r q => by
    rw [List.any_cons, List.any_cons, RepK.any2 k q, kEq2_k]
theorem RepK.map2 {k : Key} {v : V} {d : D} (r : Rep K O H v d) : ∀ {es : List (D × D)} {kvs : List (Key × V)}, RepK K O H kvs es → RepK K O H (kvs.map fun kv => if kv.1 = k then (kv.1, v) else kv) (es.map fun e => if kEq2 e.1 (keyD k) then (e.1, d) else e)
  | [], _, .nil => .nil
  | (_, _) :: _, _, .cons (k := k') q t => by
    rw [List.map_cons, List.map_cons]
    by_cases e : k' = k
    · rw [if_pos e, if_pos (by show kEq2 (keyD k') (keyD k) = true; rw [kEq2_k, decide_eq_true e])]
      exact .cons r (RepK.map2 r t)
    · rw [if_neg e, if_neg (by show ¬ kEq2 (keyD k') (keyD k) = true; rw [kEq2_k, decide_eq_false e]; decide)]
      exact .cons q (RepK.map2 r t)
theorem RepK.put2 {k : Key} {v : V} {d : D} (r : Rep K O H v d) {es : List (D × D)} {kvs : List (Key × V)} (q : RepK K O H kvs es) : RepK K O H (putK kvs k v) (putD2 es (keyD k) d) := by
  unfold putK putD2
  rw [q.any2 k]
  split
  · exact q.map2 r
  · exact q.app r
theorem RepT.any2 (k : List Key) : ∀ {es : List (D × D)} {kvs : List (List Key × V)}, RepT K O H kvs es → (kvs.any fun kv => decide (kv.1 = k)) = es.any (fun e => kEq2 e.1 (keyTD k))
  | [], _, .nil => rfl
  | (_, _) :: _, _, .cons _ r q => by
    rw [List.any_cons, List.any_cons, RepT.any2 k q, kEq2_t]
theorem RepT.map2 {k : List Key} {v : V} {d : D} (r : Rep K O H v d) : ∀ {es : List (D × D)} {kvs : List (List Key × V)}, RepT K O H kvs es → RepT K O H (kvs.map fun kv => if kv.1 = k then (kv.1, v) else kv) (es.map fun e => if kEq2 e.1 (keyTD k) then (e.1, d) else e)
  | [], _, .nil => .nil
  | (_, _) :: _, _, .cons (k := k') n q t => by
    rw [List.map_cons, List.map_cons]
    by_cases e : k' = k
    · rw [if_pos e, if_pos (by show kEq2 (keyTD k') (keyTD k) = true; rw [kEq2_t, decide_eq_true e])]
      exact .cons n r (RepT.map2 r t)
    · rw [if_neg e, if_neg (by show ¬ kEq2 (keyTD k') (keyTD k) = true; rw [kEq2_t, decide_eq_false e]; decide)]
      exact .cons n q (RepT.map2 r t)
theorem RepT.app {k : List Key} {v : V} {d : D} (n : pinned (k.map keyD) = false) (r : Rep K O H v d) : ∀ {es : List (D × D)} {kvs : List (List Key × V)}, RepT K O H kvs es → RepT K O H (kvs ++ [(k, v)]) (es ++ [(keyTD k, d)])
  | [], _, .nil => .cons n r .nil
  | (_, _) :: _, _, .cons m q t => .cons m q (RepT.app n r t)
theorem RepT.put2 {k : List Key} {v : V} {d : D} (n : pinned (k.map keyD) = false) (r : Rep K O H v d) {es : List (D × D)} {kvs : List (List Key × V)} (q : RepT K O H kvs es) : RepT K O H (putK kvs k v) (putD2 es (keyTD k) d) := by
  unfold putK putD2
  rw [q.any2 k]
  split
  · exact q.map2 r
  · exact q.app n r
/-- an owned dict takes a key -/
theorem top_put {a : Addr} {y v : V} {es : List (D × D)} {k d : D} {od : Option D} (oa : O a) (t : Top K O H a (.dict es)) (ry : RepB K O H y k) (rv : Rep K O H v d) (h : dAt es k = some od) (hl : es.length < line24) :
    ∃ u o, H a = some u ∧ ¬ Fix u ∧ DP H a y v (upd H a o) ∧ Top K O (upd H a o) a (.dict (putD2 es k d)) := by
  have inK : fstT es = false → ∀ (k' : Key), k = keyD k' → ∃ u o, H a = some u ∧ ¬ Fix u ∧ DP H a y v (upd H a o) ∧ Top K O (upd H a o) a (.dict (putD2 es k d)) := fun hn k' ek => by
    subst ek
    have ey := rep_key ry
    subst ey
    cases t with
    | @dK kvs _ e r =>
      have xw : Xt O H (upd H a (.dK (putK kvs k' v))) := Xt.wr oa e id
      exact ⟨_, _, e, id, .inl (DPut.k e (by have := RepK.length r; rw [line24_eq]; omega)), .dK upd_same (RepK.put2 (rv.go xw (fun _ z _ => z) fun _ z => .inl z) (r.go xw (fun _ z _ => z) fun _ z => .inl z))⟩
    | @dT kvs _ e r =>
      cases r with
      | nil =>
        have xw : Xt O H (upd H a (.dK [(k', v)])) := Xt.wr oa e id
        exact ⟨_, _, e, id, .inr (.inr ⟨k', e, rfl, rfl⟩), .dK upd_same (.cons (rv.go xw (fun _ z _ => z) fun _ z => .inl z) .nil)⟩
      | cons _ r q => cases hn
  unfold dAt at h
  split at h
  · split at h
    · cases h
    rename_i i hh
    rw [Bool.or_eq_true, not_or] at hh
    exact inK (eq_false_of_ne_true hh.2) (.inl i) rfl
  · split at h
    · cases h
    rename_i i hh
    rw [Bool.or_eq_true, not_or] at hh
    exact inK (eq_false_of_ne_true hh.2) (.inr i) rfl
  · rename_i ds
    split at h
    · cases h
    rename_i hh
    rw [Bool.or_eq_true, not_or] at hh
    have hn := eq_false_of_ne_true hh.2
    split at h
    · cases h
    rename_i ks hks
    obtain ⟨b, rfl, hb⟩ := rep_keyT ry hks
    have ek : (.tuple ds : D) = keyTD ks := by rw [keyTD, keysOf_map (keysT_some hks).2]
    have np : pinned (ks.map keyD) = false := by rw [keysOf_map (keysT_some hks).2]; exact (keysT_some hks).1
    rw [ek]
    cases t with
    | @dK kvs _ e r =>
      cases r with
      | nil =>
        have xw : Xt O H (upd H a (.dT [(ks, v)])) := Xt.wr oa e id
        exact ⟨_, _, e, id, .inr (.inl ⟨b, ks, e, rfl, hb, rfl⟩), .dT upd_same (.cons np (rv.go xw (fun _ z _ => z) fun _ z => .inl z) .nil)⟩
      | cons r q =>
        rename_i kk _ _ _ _
        cases kk <;> cases hn
    | @dT kvs _ e r =>
      have xw : Xt O H (upd H a (.dT (putK kvs ks v))) := Xt.wr oa e id
      exact ⟨_, _, e, id, .inl (DPut.t e hb (by have := RepT.length r; rw [line24_eq]; omega)), .dT upd_same (RepT.put2 np (rv.go xw (fun _ z _ => z) fun _ z => .inl z) (r.go xw (fun _ z _ => z) fun _ z => .inl z))⟩
  · cases h
end
end Dv

/-! Dv27: the store x[k] = v, d.get(k, x), {}. -/
namespace Dv
open PySem PySem.Spec PyProof.Rows L2

def sPut (i : Nat) (fv fk : FE) : FS := fun ρ T => match fv ρ T with
  | none => none
  | some (v, T1) => match fk ρ T1 with
    | none => none
    | some (k, T2) => match ρ[i]? with
      | some (.ow (.dict es)) => match dAt es k with
        | none => none
        | some _ => if es.length.blt line24 then some (.nx (ρ.set i (.ow (.dict (putD2 es k v)))), T2) else none
      | some (.ow (.list ds)) => match k with
        | .int j => match ixN ds.length j with
          | none => none
          | some n => some (.nx (ρ.set i (.ow (.list (ds.set n v)))), T2)
        | _ => none
      | _ => none
theorem rl_set {K : PySem.W.Frag} {O : OS} {H : Hp} {v : V} {d : D} (r : Rep K O H v d) : ∀ {ds : List D} {vs : List V} (n : Nat), RepL K O H vs ds → RepL K O H (vs.set n v) (ds.set n d)
  | [], _, _, .nil => .nil
  | _ :: _, _, 0, .cons _ t => .cons r t
  | _ :: _, _, n + 1, .cons q t => .cons q (rl_set r n t)
section
variable {X : Cx} {e ek : Expr} {fa fb fo fk fx fv : FE} {pos pos' apos cpos : Pos} {kk : Nat}
theorem ss_put (i : Nat) {x : Str} {px : Pos} (hr : Room kk X.A) (hv : SE X e fv) (hk : SE X ek fk) (hN : X.N[i]? = some x := by rfl) (hx : Vis X.env.scope x := by first | exact Or.inl rfl | exact Or.inr (Or.inl rfl) | exact Or.inr (Or.inr rfl)) (hd : (x == ("__debug__" : Str)) = false := by decide) (hcd : (x == ("__classdict__" : Str)) = false := by decide)
    (ha : ∀ v, assign (.Subscript (.Name x px) ek pos') X.env v = (do
      let ov ← holding [v] (eval (.Name x px) X.env)
      let iv ← holding [v, ov] (eval ek X.env)
      standAt pos'
      holding [v, ov, iv] (setItem ov iv v)
      release [v, ov, iv] []) := by intro _; rfl)
    (hs : swapsWithSole [.Subscript (.Name x px) ek pos'] e pos.line X.env = pure false := by rfl) (hw : swappedStores [.Subscript (.Name x px) ek pos'] e X.env = pure none := by rfl)
    (h1 : (assignEach [.Subscript (.Name x px) ek pos'] X.env).map (·.2) = [assign (.Subscript (.Name x px) ek pos') X.env] := by rfl) :
    SS X (.Assign [.Subscript (.Name x px) ek pos'] e pos) (sPut i fv fk) := ⟨PS.imp (ps_asg hv.pe (pg_sub (pe_var hN hx hd hcd) hk.pe (PSet.or (set_dict2 (by have := hr.units; omega)) set_list) ha) hs hw h1) fun D σ H ⟨G, B, O, τ, ρ, T, fl, T', E, hf, q⟩ => by
  unfold sPut at hf
  split at hf
  · cases hf
  rename_i v T1 e1
  split at hf
  · cases hf
  rename_i k T2 e2
  split at hf
  · rename_i es e3
    split at hf
    · cases hf
    rename_i od e4
    split at hf
    case isFalse => cases hf
    rename_i e5
    cases hf
    refine ⟨G, B, O, τ, ρ, T, v, T1, E, e1, fun vv H1 x1 t1 r1 => ?_⟩
    have E1 := E.step x1 t1
    obtain ⟨a, ea, oa, nb, ga, ta, tt⟩ := E1.ow i _ e3
    refine ⟨_, ea, G, B, O, τ, ρ, T1, k, T', E1, e2, fun kv H2 x2 t2 r2 => .inl ?_⟩
    have E2 := E1.step x2 t2
    have tt2 := tt.go (O' := O) x2 (fun a z _ => E1.tO a z) (fun _ z => .inl z) ta
    obtain ⟨u, o, hp, nf, dp, top⟩ := top_put oa tt2 (.inl r2) (r1.step E1 x2) e4 (Nat.blt_eq.mp e5)
    obtain ⟨af, E3⟩ := E2.change (o := o) e3 ea hp nf top
    exact ⟨a, _, rfl, dp, q σ _ O (((E.aft x1).tr (E1.aft x2)).tr af) E3⟩
  · rename_i ds e3
    split at hf
    · rename_i j
      split at hf
      · cases hf
      rename_i n e4
      cases hf
      refine ⟨G, B, O, τ, ρ, T, v, T1, E, e1, fun vv H1 x1 t1 r1 => ?_⟩
      have E1 := E.step x1 t1
      obtain ⟨a, ea, oa, nb, ga, ta, tt⟩ := E1.ow i _ e3
      refine ⟨_, ea, G, B, O, τ, ρ, T1, _, T', E1, e2, fun kv H2 x2 t2 r2 => .inr ?_⟩
      have E2 := E1.step x2 t2
      cases tt with
      | @lst xs _ hp r =>
        have hp2 : H2 a = some (.lst xs) := x2 _ _ hp (.inl ta)
        have rr := r.go (O' := O) x2 (fun a z _ => E1.tO a z) (fun _ z => .inl z)
        have xw : Xt O H2 (upd H2 a (.lst (xs.set n vv))) := Xt.wr oa hp2 id
        obtain ⟨af, E3⟩ := E2.change (o := .lst (xs.set n vv)) (d' := .list (ds.set n v)) e3 ea hp2 id (.lst upd_same (rl_set ((r1.step E1 x2).go xw (fun _ z _ => z) fun _ z => .inl z) n (rr.go xw (fun _ z _ => z) fun _ z => .inl z)))
        exact ⟨a, xs, j, n, rfl, rb_int (.inl r2), hp2, by rw [r.length]; exact e4, q σ _ O (((E.aft x1).tr (E1.aft x2)).tr af) E3⟩
    · cases hf
  · cases hf⟩
/-- d.get(k, x) -/
def tGet2 (td ty tx : TE) : TE := fun σ H Q => td σ H fun x H1 => ∃ a, x = .ref a ∧ IsD H1 a ∧ ty σ H1 fun y H2 => tx σ H2 fun z H3 => ∃ o, DG H3 a y o ∧ Q (o.getD z) H3
theorem pe_get2 {o e f : Expr} {td ty tx : TE} (hu : X.A.units + 1 < cLine) (ho : PE X o td) (he : PE X e ty) (hf : PE X f tx) (m : M2 X o "get" apos e f cpos) : PE X (.Call (.Attribute o "get" apos) [e, f] [] cpos) (tGet2 td ty tx) := by
  refine ⟨fun pins s σ H Q I h => ?_⟩
  refine wpAny_Call_method m.base m.few m.line PySem.F.plainAttrs_dict PySem.F.slot_dict_get PySem.F.type_dict_get (thn (ho.run pins s σ H _ I h) fun u s1 ⟨x, H1, I1, rx, a, ex, d, q1⟩ => ?_)
  subst ex
  obtain rfl : u = Value.ref a := rx
  obtain ⟨t1, t2, _⟩ := isD_at I1 d
  refine ⟨t1, t2, ?_⟩
  rw [m.trees]
  refine Calls.callWith_builtin rfl (Calls.evalArgs_plain (Calls.spliced_cons (thn (he.run pins s1 σ H1 _ I1 q1) fun iv s2 ⟨y, H2, I2, ry, q2⟩ =>
    Calls.spliced_cons (thn (hf.run pins s2 σ H2 _ I2 q2) fun fv s3 ⟨z, H3, I3, rz, ov, g, q3⟩ => Calls.spliced_nil ?_))))
  exact d_get2R hu I3 g ry rz fun w' s4 I5 rw' => ⟨_, H3, I5, rw', q3⟩
def eGet (fo fk fx : FE) : FE := fun ρ T => match fo ρ T with
  | none => none
  | some (x, T1) => match x with
    | .dict es => match isK es with
      | true => none
      | false => match fk ρ T1 with
        | none => none
        | some (k, T2) => match fx ρ T2 with
          | none => none
          | some (z, T3) => match dAt es k with
            | none => none
            | some none => some (z, T3)
            | some (some v) => some (v, T3)
    | _ => none
theorem isD_of {K : PySem.W.Frag} {O : OS} {H : Hp} {x : V} {es : List (D × D)} (hk : isK es = false) (r : RepB K O H x (.dict es)) : ∃ a, x = .ref a ∧ IsD H a := by
  obtain ⟨p, rfl, ⟨kvs, hp, _⟩ | ⟨kvs, hp, _⟩⟩ := rb_dict hk r
  · exact ⟨p, rfl, .inl ⟨kvs, hp⟩⟩
  · exact ⟨p, rfl, .inr ⟨kvs, hp⟩⟩
theorem se_get {o e f : Expr} (hr : Room kk X.A) (ho : SB X o fo) (he : SB X e fk) (hf : SE X f fx) (m : M2 X o "get" apos e f cpos := by exact ⟨by rfl, by rfl, by rfl, by rfl⟩) :
    SE X (.Call (.Attribute o "get" apos) [e, f] [] cpos) (eGet fo fk fx) := ⟨PE.imp (pe_get2 (by have := hr.units; omega) ho.pe he.pe hf.pe m) fun σ H Q ⟨G, B, O, τ, ρ, T, d, T', E, hf, q⟩ => by
  unfold eGet at hf
  split at hf
  · cases hf
  rename_i x T1 e1
  split at hf
  case h_2 => cases hf
  rename_i es
  split at hf
  · cases hf
  rename_i hk
  split at hf
  · cases hf
  rename_i k T2 e2
  split at hf
  · cases hf
  rename_i z T3 e3
  refine ⟨G, B, O, τ, ρ, T, _, T1, E, e1, fun xv H1 x1 t1 r1 => ?_⟩
  have E1 := E.step x1 t1
  obtain ⟨a, rfl, isd⟩ := isD_of hk r1.b
  refine ⟨a, rfl, isd, G, B, O, τ, ρ, T1, k, T2, E1, e2, fun kv H2 x2 t2 r2 => ⟨G, B, O, τ, ρ, T2, z, T3, E1.step x2 t2, e3, fun zv H3 x3 t3 r3 => ?_⟩⟩
  have E2 := E1.step x2 t2
  have rx := ((r1.step E1 x2).step E2 x3).b
  have rk := (r2.step E2 x3).b
  have xx := (x1.tr x2).tr x3
  split at hf
  · cases hf
  · rename_i e4
    cases hf
    obtain ⟨a', o, ea, g, ro⟩ := dAt_rep rx rk e4
    cases ea
    cases o with
    | none => exact ⟨none, g, q _ H3 xx t3 r3⟩
    | some v => exact ro.elim
  · rename_i v e4
    cases hf
    obtain ⟨a', o, ea, g, ro⟩ := dAt_rep rx rk e4
    cases ea
    cases o with
    | none => exact ro.elim
    | some w => exact ⟨some w, g, q _ H3 xx t3 ro⟩⟩
/-- {} -/
def eDict0 : FE := fun _ T => some (.dict [], T)
theorem sn_dict0 : SN X (.Dict [] [] pos) eDict0 := ⟨PE.imp pe_dnewK fun σ H Q ⟨G, B, O, τ, ρ, T, d, T', E, hf, q⟩ => by
  cases hf
  intro p hp
  exact q p _ hp (Xt.new hp) (E.tok.more hp) (.dK upd_same .nil)⟩
end
end Dv

/-! Dv28: dicts that are walked: keys, values, pairs. -/
namespace Dv
open PySem PySem.Spec PyProof.Rows L2

section
variable {K : PySem.W.Frag} {O : OS} {H : Hp}
theorem repK_at : ∀ {es : List (D × D)} {kvs : List (Key × V)} {i : Nat} {e : D × D}, RepK K O H kvs es → es[i]? = some e → ∃ k v, kvs[i]? = some (k, v) ∧ e.1 = keyD k ∧ Rep K O H v e.2
  | [], _, _, _, .nil, h => by cases h
  | _ :: _, _, 0, _, .cons r q, h => by cases h; exact ⟨_, _, rfl, rfl, r⟩
  | _ :: _, _, i + 1, _, .cons r q, h => repK_at (i := i) q h
theorem repT_at : ∀ {es : List (D × D)} {kvs : List (List Key × V)} {i : Nat} {e : D × D}, RepT K O H kvs es → es[i]? = some e → ∃ k v, kvs[i]? = some (k, v) ∧ e.1 = keyTD k ∧ pinned (k.map keyD) = false ∧ Rep K O H v e.2
  | [], _, _, _, .nil, h => by cases h
  | _ :: _, _, 0, _, .cons n r q, h => by cases h; exact ⟨_, _, rfl, rfl, n, r⟩
  | _ :: _, _, i + 1, _, .cons _ r q, h => repT_at (i := i) q h
theorem rep_keyD (k : Key) : Rep K O H (kV k) (keyD k) := by
  cases k with
  | inl i => exact .int i
  | inr x => exact .str x
theorem rl_keys : ∀ k : List Key, RepL K O H (k.map kV) (k.map keyD)
  | [] => .nil
  | k :: r => .cons (rep_keyD k) (rl_keys r)
theorem Aft.repK {O' : OS} {H' : Hp} {es : List (D × D)} {kvs : List (Key × V)} (a : Aft O O' H H') (r : RepK K O H kvs es) : RepK K O' H' kvs es := r.go a.xt (fun _ z _ => z) a.od
theorem Aft.repT {O' : OS} {H' : Hp} {es : List (D × D)} {kvs : List (List Key × V)} (a : Aft O O' H H') (r : RepT K O H kvs es) : RepT K O' H' kvs es := r.go a.xt (fun _ z _ => z) a.od
theorem walk_dkeys {a : Addr} {u : Obj} {kvs : List (Key × V)} {es : List (D × D)} (e : H a = some (.frz u (.dK kvs))) (r : RepK K O H kvs es) : Walk K O H (Itk a u kvs) (es.map (·.1)) := fun i O' H' af _ => by
  have e' := af.xt _ _ e (.inr trivial)
  have hl := r.length
  refine ⟨fun d h => ?_, fun h => ⟨e', by rw [List.length_map] at h; omega⟩⟩
  rw [List.getElem?_map] at h
  obtain ⟨p, hp, rfl⟩ := Option.map_eq_some_iff.mp h
  obtain ⟨k, v, hk, e1, rv⟩ := repK_at r hp
  refine ⟨⟨e', (List.getElem?_eq_some_iff.mp hk).1⟩, fun x H'' ⟨eH, k', v', hk', ex⟩ => ?_⟩
  rw [hk] at hk'; cases hk'
  subst eH ex
  rw [e1]
  exact ⟨Xt.refl _, rep_keyD k⟩
theorem walk_dkeysT {a : Addr} {u : Obj} {kvs : List (List Key × V)} {es : List (D × D)} (e : H a = some (.frz u (.dT kvs))) (r : RepT K O H kvs es) : Walk K O H (Itkt a u kvs) (es.map (·.1)) := fun i O' H' af _ => by
  have e' := af.xt _ _ e (.inr trivial)
  have hl := r.length
  refine ⟨fun d h => ?_, fun h => ⟨e', by rw [List.length_map] at h; omega⟩⟩
  rw [List.getElem?_map] at h
  obtain ⟨p, hp, rfl⟩ := Option.map_eq_some_iff.mp h
  obtain ⟨k, v, hk, e1, np, rv⟩ := repT_at r hp
  refine ⟨⟨e', (List.getElem?_eq_some_iff.mp hk).1⟩, fun x H'' ⟨eH, k', v', q, hk', ex, hq⟩ => ?_⟩
  rw [hk] at hk'; cases hk'
  subst eH ex
  rw [e1]
  exact ⟨Xt.refl _, .tup hq (by rw [np]; rfl) (rl_keys k)⟩
theorem walk_dvals {a : Addr} {u : Obj} {kvs : List (Key × V)} {es : List (D × D)} (e : H a = some (.frz u (.dK kvs))) (r : RepK K O H kvs es) : Walk K O H (Itd a u kvs) (es.map (·.2)) := fun i O' H' af _ => by
  have e' := af.xt _ _ e (.inr trivial)
  have hl := r.length
  refine ⟨fun d h => ?_, fun h => ⟨e', by rw [List.length_map] at h; omega⟩⟩
  rw [List.getElem?_map] at h
  obtain ⟨p, hp, rfl⟩ := Option.map_eq_some_iff.mp h
  obtain ⟨k, v, hk, e1, rv⟩ := repK_at (af.repK r) hp
  refine ⟨⟨e', (List.getElem?_eq_some_iff.mp hk).1⟩, fun x H'' ⟨eH, k', hk'⟩ => ?_⟩
  rw [hk] at hk'; cases hk'
  subst eH
  exact ⟨Xt.refl _, rv⟩
theorem walk_ditems {a : Addr} {u : Obj} {kvs : List (Key × V)} {es : List (D × D)} (e : H a = some (.frz u (.dK kvs))) (r : RepK K O H kvs es) : Walk K O H (Iti a u kvs) (es.map fun p => kT [p.1, p.2]) := fun i O' H' af _ => by
  have e' := af.xt _ _ e (.inr trivial)
  have hl := r.length
  refine ⟨fun d h => ?_, fun h => ⟨e', by rw [List.length_map] at h; omega⟩⟩
  rw [List.getElem?_map] at h
  obtain ⟨p, hp, rfl⟩ := Option.map_eq_some_iff.mp h
  obtain ⟨k, v, hk, e1, rv⟩ := repK_at (af.repK r) hp
  refine ⟨⟨e', (List.getElem?_eq_some_iff.mp hk).1⟩, fun x H'' ⟨T, k', v', hk', ex, hT, eH⟩ => ?_⟩
  rw [hk] at hk'; cases hk'
  subst eH ex
  rw [e1]
  exact ⟨Gr.new hT, .ktp (.of upd_same) (.cons (rep_keyD k) (.cons (rv.go (Gr.new hT) (fun _ z _ => z.elim) fun _ z => .inl z) .nil))⟩
end
/-- what a dict tells of its pairs -/
def iDict (g : D × D → D) (fa : FE) : FI := fun ρ T => match fa ρ T with
  | some (.dict es, T1) => match isK es with
    | true => none
    | false => some (es.map g, T1)
  | _ => none
def noT : List (D × D) → Bool
  | (.tuple _, _) :: _ => false
  | _ => true
/-- .. with keys whole numbers and texts -/
def iDictK (g : D × D → D) (fa : FE) : FI := fun ρ T => match fa ρ T with
  | some (.dict es, T1) => match isK es || fstT es || es.isEmpty with
    | true => none
    | false => some (es.map g, T1)
  | _ => none
section
variable {X : Cx} {tg e : Expr} {f f' : FI} {fa : FE} {apos cpos : Pos}
theorem SI.or (h : SI X tg e f) (h' : SI X tg e f') : SI X tg e (fun ρ T => (f ρ T).or (f' ρ T)) := ⟨⟨fun pins s σ H Q I ⟨G, B, O, τ, ρ, T, d, T', E, hf, q⟩ => by
  have hf : (f ρ T).or (f' ρ T) = some (d, T') := hf
  cases e : f ρ T with
  | some z =>
    rw [e] at hf
    have hf : some z = some (d, T') := hf
    cases hf
    exact h.pi.run pins s σ H Q I ⟨G, B, O, τ, ρ, T, d, T', E, e, q⟩
  | none =>
    rw [e] at hf
    have hf : f' ρ T = some (d, T') := hf
    exact h'.pi.run pins s σ H Q I ⟨G, B, O, τ, ρ, T, d, T', E, hf, q⟩⟩⟩
theorem si_dkeys (h : SE X e fa) : SI X tg e (iDict (·.1) fa) := ⟨PI.imp (pi_keys h.pe) fun σ H R ⟨G, B, O, τ, ρ, T, ds, T', E, hf, q⟩ => by
  unfold iDict at hf
  split at hf
  case h_2 => cases hf
  rename_i es T1 h1
  split at hf
  · cases hf
  rename_i hk
  cases hf
  refine ⟨G, B, O, τ, ρ, T, _, _, E, h1, fun v H1 x t r => ?_⟩
  cases r with
  | dK e r => exact ⟨_, _, rfl, .inl ⟨_, e, q _ H1 x t (walk_dkeys e r)⟩⟩
  | dT e r => exact ⟨_, _, rfl, .inr ⟨_, e, q _ H1 x t (walk_dkeysT e r)⟩⟩
  | ktp e r => cases r; cases hk⟩
theorem si_dvals (h : SE X e fa) (hbase : attributeBase e "values" X.env (eval e X.env) = eval e X.env := by rfl) (hline : (apos.endLine == cpos.line) = true := by rfl) : SI X tg (.Call (.Attribute e "values" apos) [] [] cpos) (iDictK (·.2) fa) := ⟨PI.imp (pi_values h.pe hbase hline) fun σ H R ⟨G, B, O, τ, ρ, T, ds, T', E, hf, q⟩ => by
  unfold iDictK at hf
  split at hf
  case h_2 => cases hf
  rename_i es T1 h1
  split at hf
  · cases hf
  rename_i hk
  cases hf
  rw [Bool.or_eq_false_iff, Bool.or_eq_false_iff] at hk
  refine ⟨G, B, O, τ, ρ, T, _, _, E, h1, fun v H1 x t r => ?_⟩
  cases r with
  | dK e r => exact ⟨_, _, _, rfl, e, q _ H1 x t (walk_dvals e r)⟩
  | dT e r =>
    cases r with
    | nil => cases hk.2
    | cons _ r r' => cases hk.1.2
  | ktp e r => cases r; cases hk.1.1⟩
theorem si_ditems {elts : List Expr} {kk : Nat} {tpos : Pos} (h : SE X e fa) (hbase : attributeBase e "items" X.env (eval e X.env) = eval e X.env := by rfl) (hline : (apos.endLine == cpos.line) = true := by rfl) : SI X (.Tuple elts kk tpos) (.Call (.Attribute e "items" apos) [] [] cpos) (iDictK (fun p => kT [p.1, p.2]) fa) := ⟨PI.imp (pi_items h.pe hbase hline) fun σ H R ⟨G, B, O, τ, ρ, T, ds, T', E, hf, q⟩ => by
  unfold iDictK at hf
  split at hf
  case h_2 => cases hf
  rename_i es T1 h1
  split at hf
  · cases hf
  rename_i hk
  cases hf
  rw [Bool.or_eq_false_iff, Bool.or_eq_false_iff] at hk
  refine ⟨G, B, O, τ, ρ, T, _, _, E, h1, fun v H1 x t r => ?_⟩
  cases r with
  | dK e r => exact ⟨_, _, _, rfl, e, q _ H1 x t (walk_ditems e r)⟩
  | dT e r =>
    cases r with
    | nil => cases hk.2
    | cons _ r r' => cases hk.1.2
  | ktp e r => cases r; cases hk.1.1⟩
end
end Dv

/-! Dv29: shifts, & 1, x op= e. -/
namespace Dv
open PySem PySem.Spec PyProof.Rows L2

def qShrI (i j : Int) : Option D := if decide (0 ≤ j) then some (.int (i / 2 ^ j.toNat)) else none
def qShr : D → D → Option D := i2 qShrI
theorem o2_shr {K : PySem.W.Frag} : Op2 K (rI (fun _ j => 0 ≤ j) fun i j => .int (i / 2 ^ j.toNat)) qShr := o2_i fun O H i j d e => by
  unfold qShrI at e
  split at e
  · rename_i c
    cases e
    exact ⟨of_decide_eq_true c, .int _⟩
  · cases e
def qShlI (i j : Int) : Option D := if decide (0 ≤ j) && decide (j ≤ 1000000) && i.natAbs.blt big64 then some (.int (i * 2 ^ j.toNat)) else none
def qShl : D → D → Option D := i2 qShlI
theorem o2_shl {K : PySem.W.Frag} : Op2 K (rI CPow fun i j => .int (i * 2 ^ j.toNat)) qShl := o2_i fun O H i j d e => by
  unfold qShlI at e
  split at e
  · rename_i c
    cases e
    rw [Bool.and_eq_true, Bool.and_eq_true, decide_eq_true_eq, decide_eq_true_eq, Nat.blt_eq, big64_eq] at c
    exact ⟨⟨c.1.1, c.1.2, c.2⟩, .int _⟩
  · cases e
/-- i & 1 -/
def qAnd1 (x y : D) : Option D := match x, y with
  | .int i, .int 1 => some (.int (i % 2))
  | _, _ => none
theorem o2_and1 {K : PySem.W.Frag} : Op2 K (fun x y H Q => ∃ (i : Int) (k : Nat), x = .int i ∧ y = .int (2 ^ k - 1) ∧ Q (.int (i % 2 ^ k)) H) qAnd1 := by
  intro O H x y dx dy d Q _ rx ry hg q
  unfold qAnd1 at hg
  split at hg
  · cases hg
    exact ⟨_, 1, rb_int rx, rb_int ry, q _ H (Xt.refl H) (.int _)⟩
  · cases hg
section
variable {X : Cx} {a b e : Expr} {fa fb fe : FE} {pos : Pos}
theorem se_shr (ha : SB X a fa) (hb : SB X b fb) : SE X (.BinOp a .RShift b pos) (e2 qShr fa fb) := se_op op_shr o2_shr ha hb
theorem se_shl (ha : SB X a fa) (hb : SB X b fb) : SE X (.BinOp a .LShift b pos) (e2 qShl fa fb) := se_op op_shl o2_shl ha hb
theorem se_and1 (ha : SB X a fa) (hb : SB X b fb) : SE X (.BinOp a .BitAnd b pos) (e2 qAnd1 fa fb) := se_op op_andM o2_and1 ha hb
/-- x op= e -/
def sAug (i : Nat) (g : D → D → Option D) (f : FE) : FS := fun ρ T => match ρ[i]? with
  | some (.fr d) => match f ρ T with
    | none => none
    | some (y, T1) => match g d y with
      | none => none
      | some z => some (.nx (ρ.set i (.fr z)), T1)
  | _ => none
theorem ss_aug {op : Operator} {r : R2} {g : D → D → Option D} (i : Nat) {x : Str} {pos' : Pos} (hN : X.N.Nodup) (ho : PIp X op r) (hg : Op2 X.K r g) (he : SE X e fe) (hi : X.N[i]? = some x := by rfl) (hx : Loc X.env.scope x := by first | exact Or.inl rfl | exact Or.inr rfl) (hf : X.fn x = true ∨ X.env.scope.names.lookup x = some .local := by first | exact .inl rfl | exact .inr rfl | assumption) :
    SS X (.AugAssign (.Name x pos') op e pos) (sAug i g fe) := ⟨PS.imp (ps_aug hN hi hx he.pe ho hf) fun D σ H ⟨G, B, O, τ, ρ, T, fl, T', E, hf, q⟩ => by
  unfold sAug at hf
  split at hf
  case h_2 => cases hf
  rename_i d e1
  split at hf
  · cases hf
  rename_i y T1 e2
  split at hf
  · cases hf
  rename_i z e3
  cases hf
  obtain ⟨v, e4, r1⟩ := E.fr i d e1
  refine ⟨v, e4, G, B, O, τ, ρ, T, y, _, E, e2, fun w H1 x1 t1 r2 => ?_⟩
  have E1 := E.step x1 t1
  refine hg O H1 v w d y z _ E1.dom (.inl (r1.step E x1)) (.inl r2) e3 fun u H2 g2 r3 => ?_
  have x2 : Xt (tS τ) H1 H2 := g2.mono fun _ z => z.elim
  exact q _ H2 O ((E.aft x1).tr (E1.aft x2)) ((E1.grow g2).set r3)⟩
def qAddI : D → D → Option D := i2 fun i j => some (.int (i + j))
theorem ip_addI : PIp X .Add (rI0 fun i j => .int (i + j)) := iop_add
theorem ss_augAdd (i : Nat) {x : Str} {pos' : Pos} (hN : X.N.Nodup) (he : SE X e fe) (hi : X.N[i]? = some x := by rfl) (hx : Loc X.env.scope x := by first | exact Or.inl rfl | exact Or.inr rfl) (hf : X.fn x = true ∨ X.env.scope.names.lookup x = some .local := by first | exact .inl rfl | exact .inr rfl | assumption) :
    SS X (.AugAssign (.Name x pos') .Add e pos) (sAug i qAddI fe) := ss_aug i hN iop_add (o2_i0 fun _ _ _ _ => .int _) he hi hx hf
theorem ss_augSub (i : Nat) {x : Str} {pos' : Pos} (hN : X.N.Nodup) (he : SE X e fe) (hi : X.N[i]? = some x := by rfl) (hx : Loc X.env.scope x := by first | exact Or.inl rfl | exact Or.inr rfl) (hf : X.fn x = true ∨ X.env.scope.names.lookup x = some .local := by first | exact .inl rfl | exact .inr rfl | assumption) :
    SS X (.AugAssign (.Name x pos') .Sub e pos) (sAug i qSub fe) := ss_aug i hN iop_sub (o2_i0 fun _ _ _ _ => .int _) he hi hx hf
theorem ss_augMul (i : Nat) {x : Str} {pos' : Pos} (hN : X.N.Nodup) (he : SE X e fe) (hi : X.N[i]? = some x := by rfl) (hx : Loc X.env.scope x := by first | exact Or.inl rfl | exact Or.inr rfl) (hf : X.fn x = true ∨ X.env.scope.names.lookup x = some .local := by first | exact .inl rfl | exact .inr rfl | assumption) :
    SS X (.AugAssign (.Name x pos') .Mult e pos) (sAug i (i2 qMulI) fe) := ss_aug i hN iop_mul o2_mul he hi hx hf
end
end Dv

/-! Dv30: x, y, z = a, b, c. -/
namespace Dv
open PySem PySem.Spec PyProof.Rows L2
section
variable {X : Cx} {a b c : Expr} {fa fb fc : FE} {pos : Pos}
def sPar3 (i j l : Nat) (fa fb fc : FE) : FS := fun ρ T => match fa ρ T with
  | none => none
  | some (x, T1) => match fb ρ T1 with
    | none => none
    | some (y, T2) => match fc ρ T2 with
      | none => none
      | some (z, T3) => some (.nx (((ρ.set i (.fr x)).set j (.fr y)).set l (.fr z)), T3)
theorem ss_par3 {i j l : Nat} {x y z : Str} {px py pz pt : Pos} {kt k2 : Nat} {pt2 : Pos} (hc : X.calm = true) (hN : X.N.Nodup) (ha : SE X a fa) (hb : SE X b fb) (hcc : SE X c fc) (hi : X.N[i]? = some x := by rfl) (hj : X.N[j]? = some y := by rfl) (hl : X.N[l]? = some z := by rfl) (hij : i ≠ j := by decide) (hil : i ≠ l := by decide) (hjl : j ≠ l := by decide)
    (hx : X.env.scope.names.lookup x = some .local := by rfl) (hy : X.env.scope.names.lookup y = some .local := by rfl) (hz : X.env.scope.names.lookup z = some .local := by rfl)
    (hw : swappedStores [.Tuple [.Name x px, .Name y py, .Name z pz] kt pt] (.Tuple [a, b, c] k2 pt2) X.env = pure (some [x, y, z]) := by rfl)
    (hs : swapsWithSole [.Tuple [.Name x px, .Name y py, .Name z pz] kt pt] (.Tuple [a, b, c] k2 pt2) pos.line X.env = pure false := by rfl)
    (h1 : starEach [a, b, c] X.env = (false, eval a X.env) :: starEach [b, c] X.env := by rfl) (h2 : starEach [b, c] X.env = (false, eval b X.env) :: starEach [c] X.env := by rfl) (h3 : starEach [c] X.env = (false, eval c X.env) :: starEach [] X.env := by rfl) :
    SS X (.Assign [.Tuple [.Name x px, .Name y py, .Name z pz] kt pt] (.Tuple [a, b, c] k2 pt2) pos) (sPar3 i j l fa fb fc) := ⟨PS.imp (ps_par3 hc hN hi hj hl hij hil hjl hx hy hz (sa_cons ha (sa_cons hb (sa_cons hcc sa_nil h3) h2) h1).pe hw hs) fun D σ H ⟨G, B, O, τ, ρ, T, fl, T', E, hf, q⟩ => by
  unfold sPar3 at hf
  split at hf
  · cases hf
  rename_i dx T1 e1
  split at hf
  · cases hf
  rename_i dy T2 e2
  split at hf
  · cases hf
  rename_i dz T3 e3
  cases hf
  refine ⟨G, B, O, τ, ρ, T, [dx, dy, dz], T', E, by simp only [aCons, aNil, e1, e2, e3], fun vs H1 x t r => ?_⟩
  cases r with
  | cons r rr =>
    cases rr with
    | cons r' rr =>
      cases rr with
      | cons r'' rr =>
        cases rr
        exact ⟨_, _, _, rfl, q _ H1 O (E.aft x) ((((E.step x t).set r).set r').set r'')⟩⟩
end
end Dv

/-! Dv31: zip of two lists, of two tuples. -/
namespace Dv
open PySem PySem.Spec PyProof.Rows L2
def zipD : List D → List D → List D
  | x :: xs, y :: ys => kT [x, y] :: zipD xs ys
  | _, _ => []
theorem zipD_get : ∀ {xs ys : List D} {i : Nat} {d : D}, (zipD xs ys)[i]? = some d → ∃ x y, xs[i]? = some x ∧ ys[i]? = some y ∧ d = kT [x, y]
  | x :: xs, y :: ys, 0, d, h => by cases h; exact ⟨x, y, rfl, rfl, rfl⟩
  | x :: xs, y :: ys, i + 1, d, h => zipD_get (xs := xs) (ys := ys) (i := i) h
  | [], _, _, _, h => by cases h
  | _ :: _, [], _, _, h => by cases h
theorem zipD_len : ∀ {xs ys : List D}, (zipD xs ys).length = min xs.length ys.length
  | x :: xs, y :: ys => by rw [zipD, List.length_cons, zipD_len, List.length_cons, List.length_cons]; omega
  | [], ys => by rw [zipD]; simp; intros; simp_all
  | _ :: _, [] => by rw [zipD]; simp; intros; simp_all
section
variable {K : PySem.W.Frag} {O : OS} {H : Hp} {a b : Addr} {xs ys : List V} {ds es : List D}
theorem walk_zipL (na : ¬ O a) (nb : ¬ O b) (ea : H a = some (.lst xs)) (eb : H b = some (.lst ys)) (ra : RepL K O H xs ds) (rb : RepL K O H ys es) : Walk K O H (Itz K a b) (zipD ds es) := fun i O' H' af _ => by
  have ea' : H' a = some (.lst xs) := af.xt _ _ ea (.inl na)
  have eb' : H' b = some (.lst ys) := af.xt _ _ eb (.inl nb)
  have ra' := af.repL ra
  have rb' := af.repL rb
  refine ⟨fun d h => ?_, fun h => ⟨xs, ys, .of ea', .of eb', by rw [zipD_len] at h; rw [ra'.length, rb'.length]; omega⟩⟩
  obtain ⟨x, y, hx, hy, rfl⟩ := zipD_get h
  obtain ⟨v, hv, rv⟩ := ra'.get hx
  obtain ⟨w, hw, rw'⟩ := rb'.get hy
  refine ⟨⟨xs, ys, v, w, .of ea', .of eb', hv, hw⟩, fun z H'' ⟨T, p, q, ez, hT, eH, h1, h2⟩ => ?_⟩
  have e1 := h1 xs (.of ea')
  have e2 := h2 ys (.of eb')
  rw [hv] at e1; cases e1
  rw [hw] at e2; cases e2
  subst ez eH
  exact ⟨Gr.new hT, .ktp (.of upd_same) (.cons (rv.go (Gr.new hT) (fun _ z _ => z.elim) fun _ z => .inl z) (.cons (rw'.go (Gr.new hT) (fun _ z _ => z.elim) fun _ z => .inl z) .nil))⟩
theorem walk_zipT (ea : SqT K H a xs) (eb : SqT K H b ys) (ra : RepL K O H xs ds) (rb : RepL K O H ys es) : Walk K O H (RZ.ItzT K a b) (zipD ds es) := fun i O' H' af _ => by
  have ea' := af.xt.sqT ea
  have eb' := af.xt.sqT eb
  have ra' := af.repL ra
  have rb' := af.repL rb
  refine ⟨fun d h => ?_, fun h => ⟨xs, ys, ea', eb', by rw [zipD_len] at h; rw [ra'.length, rb'.length]; omega⟩⟩
  obtain ⟨x, y, hx, hy, rfl⟩ := zipD_get h
  obtain ⟨v, hv, rv⟩ := ra'.get hx
  obtain ⟨w, hw, rw'⟩ := rb'.get hy
  refine ⟨⟨xs, ys, v, w, ea', eb', hv, hw⟩, fun z H'' ⟨T, p, q, ez, hT, eH, h1, h2⟩ => ?_⟩
  have e1 := h1 xs ea'
  have e2 := h2 ys eb'
  rw [hv] at e1; cases e1
  rw [hw] at e2; cases e2
  subst ez eH
  exact ⟨Gr.new hT, .ktp (.of upd_same) (.cons (rv.go (Gr.new hT) (fun _ z _ => z.elim) fun _ z => .inl z) (.cons (rw'.go (Gr.new hT) (fun _ z _ => z.elim) fun _ z => .inl z) .nil))⟩
end
def iZip2 (ga : FA) : FI := fun ρ T => match ga ρ T with
  | some ([.list ds, .list es], T1) => some (zipD ds es, T1)
  | some ([.tuple ds, .tuple es], T1) => some (zipD ds es, T1)
  | _ => none
section
variable {X : Cx} {e e2 : Expr} {ga : FA} {p pos tpos : Pos} {elts : List Expr} {kk : Nat}
theorem si_zip (hm : X.mg "zip" = none) (ha : SA X [e, e2] ga) (hg : Gl X "zip" := by rfl)
    (hs : starEach [e, e2] X.env = (false, eval e X.env) :: starEach [e2] X.env := by rfl) (hpl : (backTo pos (starEach [e2] X.env)).any (·.1) = false := by rfl) :
    SI X (.Tuple elts kk tpos) (.Call (.Name "zip" p) [e, e2] [] pos) (iZip2 ga) := ⟨PI.imp (RZ.pi_zipA hg hm ha.pe hs hpl) fun σ H R ⟨G, B, O, τ, ρ, T, ds, T', E, hf, q⟩ => by
  unfold iZip2 at hf
  split at hf
  · rename_i d1 d2 T1 h1
    cases hf
    refine ⟨G, B, O, τ, ρ, T, _, _, E, h1, fun vs H1 x t r => ?_⟩
    cases r with
    | cons r rr =>
      cases rr with
      | cons r' rr =>
        cases rr
        cases r with
        | lst na ea ra =>
          cases r' with
          | lst nb eb rb => exact ⟨_, _, _, _, rfl, .inl ⟨.of ea, .of eb, q _ H1 x t (walk_zipL na nb ea eb ra rb)⟩⟩
  · rename_i d1 d2 T1 h1
    cases hf
    refine ⟨G, B, O, τ, ρ, T, _, _, E, h1, fun vs H1 x t r => ?_⟩
    cases r with
    | cons r rr =>
      cases rr with
      | cons r' rr =>
        cases rr
        cases r with
        | tup ea ca ra =>
          cases r' with
          | tup eb cb rb => exact ⟨_, _, _, _, rfl, .inr ⟨.inl (ca.rd ea), .inl (cb.rd eb), q _ H1 x t (walk_zipT (.inl (ca.rd ea)) (.inl (cb.rd eb)) ra rb)⟩⟩
  · cases hf⟩
end
end Dv

/-! Dv32: comprehensions of two clauses. -/
namespace Dv
open PySem PySem.Spec PyProof.Rows L2

def lcL2 (g : FG) (ft : FT) (fi1 : FI) (g1 : FG) (ft1 : FT) (fe : FE) (vs1 : List Nat) (ρ : Rho) : List D → Tp → Option (List D × Tp)
  | [], T => some ([], T)
  | d :: ds, T => match g d ρ with
    | none => none
    | some ρ1 => match ft ρ1 T with
      | none => none
      | some (false, T1) => lcL2 g ft fi1 g1 ft1 fe vs1 ρ ds T1
      | some (true, T1) => match fi1 ρ1 T1 with
        | none => none
        | some (ds1, T2) => match lcL g1 ft1 fe (wipeR ρ1 vs1) ds1 T2 with
          | none => none
          | some (ys, T3) => match lcL2 g ft fi1 g1 ft1 fe vs1 ρ ds T3 with
            | none => none
            | some (zs, T4) => some (ys ++ zs, T4)
def eLc2 (fi : FI) (g : FG) (ft : FT) (fi1 : FI) (g1 : FG) (ft1 : FT) (fe : FE) (vs vs1 : List Nat) : FE := fun ρ T => match fi ρ T with
  | none => none
  | some (ds, T1) => match lcL2 g ft fi1 g1 ft1 fe vs1 (wipeR ρ vs) ds T1 with
    | none => none
    | some (ys, T2) => if ys.length.ble line24 then some (.list ys, T2) else none
/-- a target leaves no slot of its own -/
def FrG (ws : List Nat) (g : FG) : Prop := ∀ d ρ ρ1, g d ρ = some ρ1 → ∀ (i : Nat) (e : D), ρ1[i]? = some (.ow e) → i ∉ ws ∧ ρ[i]? = some (.ow e)
def FrGs (ws : List Nat) (g : FGs) : Prop := ∀ d ρ ρ1, g d ρ = some ρ1 → ∀ (i : Nat) (e : D), ρ1[i]? = some (.ow e) → i ∉ ws ∧ ρ[i]? = some (.ow e)
theorem set_ow {ρ : Rho} {i j : Nat} {c : Cell} {e : D} (hc : ∀ d, c ≠ .ow d) (h : (ρ.set i c)[j]? = some (.ow e)) : j ≠ i ∧ ρ[j]? = some (.ow e) := by
  rw [List.getElem?_set] at h
  by_cases hj : i = j
  · rw [if_pos hj] at h
    split at h
    · cases h; exact absurd rfl (hc e)
    · cases h
  · rw [if_neg hj] at h
    exact ⟨fun z => hj z.symm, h⟩
theorem frg_set (i : Nat) : FrG [i] (gSet i) := fun d ρ ρ1 h j e he => by
  cases h
  obtain ⟨a, b⟩ := set_ow (fun _ z => by cases z) he
  exact ⟨fun z => a (List.mem_singleton.mp z), b⟩
theorem frgs_nil : FrGs [] gsNil := fun d ρ ρ1 h j e he => by
  unfold gsNil at h
  split at h
  · cases h; exact ⟨List.not_mem_nil, he⟩
  · cases h
theorem frgs_cons {f : FG} {g : FGs} {ws us : List Nat} (hf : FrG ws f) (hg : FrGs us g) : FrGs (ws ++ us) (gsCons f g) := fun d ρ ρ1 h j e he => by
  cases d with
  | nil => cases h
  | cons d' ds' =>
    have h : (match f d' ρ with
      | none => none
      | some ρ1 => g ds' ρ1) = some ρ1 := h
    cases h2 : f d' ρ with
    | none => rw [h2] at h; cases h
    | some ρ2 =>
      rw [h2] at h
      obtain ⟨a, b⟩ := hg _ _ _ h j e he
      obtain ⟨a', b'⟩ := hf _ _ _ h2 j e b
      exact ⟨fun z => (List.mem_append.mp z).elim a' a, b'⟩
theorem frg_tup {n : Nat} {g : FGs} {ws : List Nat} (hg : FrGs ws g) : FrG ws (gTupD n g) := fun d ρ ρ1 h j e he => by
  unfold gTupD at h
  split at h
  · split at h
    · exact hg _ _ _ h j e he
    · cases h
  · split at h
    · split at h
      · exact hg _ _ _ h j e he
      · cases h
    · cases h
  · cases h
theorem wipeR_ow {ρ : Rho} {i : Nat} {e : D} : ∀ {vs : List Nat}, (wipeR ρ vs)[i]? = some (.ow e) → i ∉ vs ∧ ρ[i]? = some (.ow e)
  | [], h => ⟨List.not_mem_nil, h⟩
  | v :: vs, h => by
    obtain ⟨a, b⟩ := set_ow (fun _ z => by cases z) h
    obtain ⟨a', b'⟩ := wipeR_ow b
    exact ⟨fun z => (List.mem_cons.mp z).elim a a', b'⟩
theorem tLc2_of {K : PySem.W.Frag} {fi fi1 : FI} {g g1 : FG} {ft ft1 : FT} {fe : FE} {ws ws1 vs vs1 : List Nat} (hw : ∀ j ∈ ws, j ∈ vs) (hw1 : ∀ j ∈ ws1, j ∈ vs1) (hfg : FrG ws g) {σ : L2.St} {H : Hp} {Q : VK} (h : rdN K (eLc2 fi g ft fi1 g1 ft1 fe vs vs1) σ H Q) :
    tLc2 (rdI K fi) (rdG K ws g) (rdT K ft) (rdI K fi1) (rdG K ws1 g1) (rdT K ft1) (rdE K fe) vs vs1 σ H Q := by
  obtain ⟨G, B, O, τ, ρ, T, d, T', E, hf, q⟩ := h
  unfold eLc2 at hf
  split at hf
  · cases hf
  rename_i ds T1 h1
  split at hf
  · cases hf
  rename_i ys T2 h2
  split at hf
  case isFalse => cases hf
  rename_i hsz
  cases hf
  have hsz : ys.length ≤ sizeLine := by rw [line24_eq]; exact Nat.le_of_ble_eq_true hsz
  refine ⟨G, B, O, τ, ρ, T, ds, T1, E, h1, fun J H1 x1 t1 w1 p hp => ?_⟩
  have E1 := E.step x1 t1
  have np : ∀ a, O a → a ≠ p := fun a z e => E1.dom a z (by rw [e]; exact hp)
  have gp : G p = none := by
    cases e : G p with
    | none => rfl
    | some u =>
      have := E1.gk p u e (.inl fun z => np p (E1.tO p z) rfl)
      rw [hp] at this; cases this
  have nt : τ ≠ some p := fun z => np p (E1.tO p z) rfl
  have tOp : ∀ a, tS τ a → addO O p a := fun a z => .inl (E1.tO a z)
  have keep : ∀ {H5 H6 : Hp} {u}, Xt (tS τ) H5 H6 → H5 p = some u → H6 p = some u := fun x e => x p _ e (.inl nt)
  have ns : ∀ (i : Nat) (d : D), (wipeR ρ vs)[i]? = some (.ow d) → (wipe σ vs)[i]? ≠ some (some (.ref p)) := fun i d e z => by
    obtain ⟨a, e2, oa, _⟩ := (E1.wipe vs).ow i d e
    rw [z] at e2; cases e2
    exact np p oa rfl
  refine ⟨fun i m H' => i + m = ds.length ∧ ∃ T3 acc ys1 ys2, Sta K G B (addO O p) τ (wipe σ vs) H' (wipeR ρ vs) T3 ∧ Xt (tS τ) H1 H' ∧ H' p = some (.lst acc) ∧ RepL K (addO O p) H' acc ys1 ∧
      lcL2 g ft fi1 g1 ft1 fe vs1 (wipeR ρ vs) (ds.drop i) T3 = some (ys2, T') ∧ ys = ys1 ++ ys2, ⟨ds.length, by omega, T1, [], [], ys, (E1.wipe vs).fill hp, Xt.new hp, upd_same, .nil, by rw [List.drop_zero]; exact h2, rfl⟩, ?_⟩
  rintro i m H' ⟨im, T3, acc, ys1, ys2, E3, x3, hacc, racc, hl, hys⟩
  have a3 : Aft O (addO O p) H1 H' := ⟨x3.mono E1.tO, addO_new hp⟩
  obtain ⟨wg, wst⟩ := w1 i (addO O p) H' a3 E3.dom
  by_cases hi : i < ds.length
  · have e : ds[i]? = some ds[i] := List.getElem?_eq_getElem hi
    obtain ⟨go, yl⟩ := wg _ e
    rw [List.drop_eq_getElem_cons hi] at hl
    generalize ds[i] = d at *
    have hl : (match g d (wipeR ρ vs) with
      | none => none
      | some ρ1 => match ft ρ1 T3 with
        | none => none
        | some (false, T1) => lcL2 g ft fi1 g1 ft1 fe vs1 (wipeR ρ vs) (ds.drop (i + 1)) T1
        | some (true, T1) => match fi1 ρ1 T1 with
          | none => none
          | some (ds1, T2) => match lcL g1 ft1 fe (wipeR ρ1 vs1) ds1 T2 with
            | none => none
            | some (ys, T3) => match lcL2 g ft fi1 g1 ft1 fe vs1 (wipeR ρ vs) (ds.drop (i + 1)) T3 with
              | none => none
              | some (zs, T4) => some (ys ++ zs, T4)) = some (ys2, T') := hl
    refine .inr ⟨go, fun H4 => ∃ T3 acc ys1' ys2', Sta K G B (addO O p) τ (wipe σ vs) H4 (wipeR ρ vs) T3 ∧ Xt (tS τ) H1 H4 ∧ H4 p = some (.lst acc) ∧ RepL K (addO O p) H4 acc ys1' ∧
      lcL2 g ft fi1 g1 ft1 fe vs1 (wipeR ρ vs) (ds.drop (i + 1)) T3 = some (ys2', T') ∧ ys = ys1' ++ ys2', fun H4 h4 => ⟨m - 1, by omega, by omega, h4⟩, fun x H2 hy => ?_⟩
    obtain ⟨gr, rx⟩ := yl x H2 hy
    have grt : Xt (tS τ) H' H2 := gr.mono fun _ z => z.elim
    split at hl
    · cases hl
    rename_i ρ1 hg
    refine ⟨G, B, addO O p, τ, _, T3, d, ρ1, E3.grow gr, rx, hg, fun σ2 o2 E4 => ⟨wipe_off o2 hw, ?_⟩⟩
    have ns2 : ∀ (i : Nat) (d : D), ρ1[i]? = some (.ow d) → σ2[i]? ≠ some (some (.ref p)) := fun i d e z => by
      obtain ⟨e1, e2⟩ := hfg _ _ _ hg i d e
      rw [o2.2 i e1] at z
      exact ns i d e2 z
    split at hl
    · cases hl
    · rename_i T4 ht
      refine ⟨G, B, addO O p, τ, ρ1, T3, false, T4, E4, ht, fun H5 x5 t5 => ?_⟩
      have x35 := grt.tr x5
      exact ⟨T4, acc, ys1, ys2, E3.step x35 t5, x3.tr x35, keep x35 hacc, racc.go x35 (fun a z _ => tOp a z) (fun _ z => .inl z), hl, hys⟩
    · rename_i T4 ht
      refine ⟨G, B, addO O p, τ, ρ1, T3, true, T4, E4, ht, fun H5 x5 t5 => ?_⟩
      have x35 := grt.tr x5
      split at hl
      · cases hl
      rename_i ds1 T5 h5
      split at hl
      · cases hl
      rename_i ya T6 h6
      split at hl
      · cases hl
      rename_i zs T7 h7
      cases hl
      have E5 := E4.step x5 t5
      show rdI K fi1 σ2 H5 _
      refine ⟨G, B, addO O p, τ, ρ1, T4, ds1, T5, E5, h5, fun J1 H6 x6 t6 w6 => ?_⟩
      have x36 := x35.tr x6
      have E6 := E5.step x6 t6
      have O6 := E3.step x36 t6
      have hacc6 := keep x36 hacc
      refine ⟨fun j k H' => j + k = ds1.length ∧ ∃ T8 acc ya1 ya2, Sta K G B (addO O p) τ (wipe σ2 vs1) H' (wipeR ρ1 vs1) T8 ∧ Sta K G B (addO O p) τ (wipe σ vs) H' (wipeR ρ vs) T8 ∧ Xt (tS τ) H1 H' ∧ Xt (addO O p) H6 H' ∧ H' p = some (.lst acc) ∧ RepL K (addO O p) H' acc (ys1 ++ ya1) ∧
        lcL g1 ft1 fe (wipeR ρ1 vs1) (ds1.drop j) T8 = some (ya2, T6) ∧ ya = ya1 ++ ya2, ⟨ds1.length, by omega, T5, acc, [], ya, E6.wipe vs1, O6, x3.tr x36, Xt.refl _, hacc6, by rw [List.append_nil]; exact racc.go x36 (fun a z _ => tOp a z) (fun _ z => .inl z), by rw [List.drop_zero]; exact h6, rfl⟩, ?_⟩
      have ns3 : ∀ (i : Nat) (d : D), (wipeR ρ1 vs1)[i]? = some (.ow d) → (wipe σ2 vs1)[i]? ≠ some (some (.ref p)) := fun i d e z => by
        obtain ⟨e1, e2⟩ := wipeR_ow e
        rw [wipe_out e1] at z
        exact ns2 i d e2 z
      rintro j k H7 ⟨jk, T8, acc1, ya1, ya2, E8, O8, x8, x68, hacc8, racc8, hl8, hya⟩
      obtain ⟨wg1, wst1⟩ := w6 j (addO O p) H7 ⟨x68, fun _ z => .inl z⟩ E8.dom
      by_cases hj : j < ds1.length
      · have e : ds1[j]? = some ds1[j] := List.getElem?_eq_getElem hj
        obtain ⟨go1, yl1⟩ := wg1 _ e
        rw [List.drop_eq_getElem_cons hj] at hl8
        generalize ds1[j] = d1 at *
        have hl8 : (match g1 d1 (wipeR ρ1 vs1) with
          | none => none
          | some ρ3 => match ft1 ρ3 T8 with
            | none => none
            | some (false, T1) => lcL g1 ft1 fe (wipeR ρ1 vs1) (ds1.drop (j + 1)) T1
            | some (true, T1) => match fe ρ3 T1 with
              | none => none
              | some (y, T2) => match lcL g1 ft1 fe (wipeR ρ1 vs1) (ds1.drop (j + 1)) T2 with
                | none => none
                | some (ys, T3) => some (y :: ys, T3)) = some (ya2, T6) := hl8
        refine .inr ⟨go1, fun H' => ∃ T8 acc ya1 ya2, Sta K G B (addO O p) τ (wipe σ2 vs1) H' (wipeR ρ1 vs1) T8 ∧ Sta K G B (addO O p) τ (wipe σ vs) H' (wipeR ρ vs) T8 ∧ Xt (tS τ) H1 H' ∧ Xt (addO O p) H6 H' ∧ H' p = some (.lst acc) ∧ RepL K (addO O p) H' acc (ys1 ++ ya1) ∧
          lcL g1 ft1 fe (wipeR ρ1 vs1) (ds1.drop (j + 1)) T8 = some (ya2, T6) ∧ ya = ya1 ++ ya2, fun H4 h4 => ⟨k - 1, by omega, by omega, h4⟩, fun x1 H8 hy1 => ?_⟩
        obtain ⟨gr1, rx1⟩ := yl1 x1 H8 hy1
        have grt1 : Xt (tS τ) H7 H8 := gr1.mono fun _ z => z.elim
        split at hl8
        · cases hl8
        rename_i ρ3 hg3
        refine ⟨G, B, addO O p, τ, _, T8, d1, ρ3, E8.grow gr1, rx1, hg3, fun σ3 o3 E9 => ⟨wipe_off o3 hw1, ?_⟩⟩
        split at hl8
        · cases hl8
        · rename_i T9 ht9
          refine ⟨G, B, addO O p, τ, ρ3, T8, false, T9, E9, ht9, fun H9 x9 t9 => ?_⟩
          have x79 := grt1.tr x9
          exact ⟨T9, acc1, ya1, ya2, E8.step x79 t9, O8.step x79 t9, x8.tr x79, x68.tr (x79.mono tOp), keep x79 hacc8, racc8.go x79 (fun a z _ => tOp a z) (fun _ z => .inl z), hl8, hya⟩
        · rename_i T9 ht9
          refine ⟨G, B, addO O p, τ, ρ3, T8, true, T9, E9, ht9, fun H9 x9 t9 => ?_⟩
          have x79 := grt1.tr x9
          split at hl8
          · cases hl8
          rename_i y T10 he10
          split at hl8
          · cases hl8
          rename_i yr T11 hr11
          cases hl8
          refine ⟨G, B, addO O p, τ, ρ3, T9, y, T10, E9.step x9 t9, he10, fun yv H10 x10 t10 ry => ?_⟩
          have x710 := x79.tr x10
          have hacc10 := keep x710 hacc8
          have hlen : acc1.length < sizeLine := by
            have e1 := racc8.length
            rw [e1]
            rw [hys, hya] at hsz
            simp only [List.length_append, List.length_cons] at hsz ⊢
            omega
          refine ⟨acc1, hacc10, hlen, T10, acc1 ++ [yv], ya1 ++ [y], yr, (E8.step x710 t10).turnAt hacc10 id (.inr rfl) nt gp ns3, (O8.step x710 t10).turnAt hacc10 id (.inr rfl) nt gp ns, (x8.tr x710).mut hp, (x68.tr (x710.mono tOp)).tr (Xt.wr (.inr rfl) hacc10 id), upd_same, ?_, hr11, by rw [hya, List.append_assoc]; rfl⟩
          have xw : Xt (fun b => b = p) H10 (upd H10 p (.lst (acc1 ++ [yv]))) := Xt.wr rfl hacc10 id
          have hin : ∀ a, a = p → H10 a ≠ none → addO O p a := fun a z _ => .inr z
          rw [← List.append_assoc]
          exact RepL.app (ry.go xw hin fun _ z => .inl z) ((racc8.go x710 (fun a z _ => tOp a z) (fun _ z => .inl z)).go xw hin fun _ z => .inl z)
      · have e : j = ds1.length := by omega
        subst e
        rw [List.drop_length] at hl8
        cases hl8
        rw [List.append_nil] at hya
        subst hya
        exact .inl ⟨wst1 (Nat.le_refl _), T6, acc1, ys1 ++ ya, zs, O8, x8, hacc8, racc8, h7, by rw [hys, List.append_assoc]⟩
  · have e : i = ds.length := by omega
    subst e
    rw [List.drop_length] at hl
    cases hl
    rw [List.append_nil] at hys
    subst hys
    have hp0 : H p = none := by
      cases e : H p with
      | none => rfl
      | some u =>
        have := x1 p u e (.inl nt)
        rw [hp] at this; cases this
    exact .inl ⟨wst (Nat.le_refl _), q p H' hp0 (x1.tr x3) E3.tok (.lst hacc racc)⟩
section
variable {X : Cx}
theorem sn_lc2 {elt tg iter tg1 iter1 : Expr} {ifs ifs1 : List Expr} {scope : Scope} {own : List (Str × Nat)} {vs1 : List Nat} {pos : Pos} {fi fi1 : FI} {g g1 : FG} {ft ft1 : FT} {fe : FE} {ws ws1 : List Nat} (hc : X.calm = true) (hN : X.N.Nodup) (hi : SI X tg iter fi) (ok : BlkOk X.N X.env.scope scope own)
    (hg : ∀ (s : Shared) (H : Hp) (C : Addr) (cl : List (Str × Addr)) (fp : List Addr), SG (X.blk s H scope (compEnvC scope cl C X.env) fp) tg ws g) (ht : ∀ (s : Shared) (H : Hp) (C : Addr) (cl : List (Str × Addr)) (fp : List Addr), STs (X.blk s H scope (compEnvC scope cl C X.env) fp) ifs ft)
    (hi1 : ∀ (s : Shared) (H : Hp) (C : Addr) (cl : List (Str × Addr)) (fp : List Addr), SI (X.blk s H scope (compEnvC scope cl C X.env) fp) tg1 iter1 fi1)
    (hg1 : ∀ (s : Shared) (H : Hp) (C : Addr) (cl : List (Str × Addr)) (fp : List Addr), SG (X.blk s H scope (compEnvC scope cl C X.env) fp) tg1 ws1 g1) (ht1 : ∀ (s : Shared) (H : Hp) (C : Addr) (cl : List (Str × Addr)) (fp : List Addr), STs (X.blk s H scope (compEnvC scope cl C X.env) fp) ifs1 ft1)
    (he : ∀ (s : Shared) (H : Hp) (C : Addr) (cl : List (Str × Addr)) (fp : List Addr), SE (X.blk s H scope (compEnvC scope cl C X.env) fp) elt fe) (hfg : FrG ws g)
    (hv : ∀ i ∈ vs1, i ∈ own.map (·.2) := by decide) (hw : ∀ j ∈ ws, j ∈ own.map (·.2) := by decide) (hw1 : ∀ j ∈ ws1, j ∈ vs1 := by decide) (hs : ∀ x, foldedSetIterable iter X.env x = pure x := by intro _; rfl) (hs1 : ∀ env x, foldedSetIterable iter1 env x = pure x := by intro _ _; rfl) :
    SN X (.ListComp elt [⟨tg, iter, ifs, 0⟩, ⟨tg1, iter1, ifs1, 0⟩] scope pos) (eLc2 fi g ft fi1 g1 ft1 fe (own.map (·.2)) vs1) := ⟨PE.imp (pe_lc2 hc hN hi.pi ok hv (fun s H C cl fp => (hg s H C cl fp).pg) (fun s H C cl fp => (ht s H C cl fp).pt) (fun s H C cl fp => (hi1 s H C cl fp).pi) (fun s H C cl fp => (hg1 s H C cl fp).pg) (fun s H C cl fp => (ht1 s H C cl fp).pt) (fun s H C cl fp => (he s H C cl fp).pe) hs hs1) fun σ H Q h => tLc2_of hw hw1 hfg h⟩
theorem ss_newLc2 {i : Nat} {y : Str} {py : Pos} {elt tg iter tg1 iter1 : Expr} {ifs ifs1 : List Expr} {scope : Scope} {own : List (Str × Nat)} {vs1 : List Nat} {pos spos : Pos} {fi fi1 : FI} {g g1 : FG} {ft ft1 : FT} {fe : FE} {ws ws1 : List Nat} (hc : X.calm = true) (hN : X.N.Nodup) (hi : SI X tg iter fi) (ok : BlkOk X.N X.env.scope scope own)
    (hg : ∀ (s : Shared) (H : Hp) (C : Addr) (cl : List (Str × Addr)) (fp : List Addr), SG (X.blk s H scope (compEnvC scope cl C X.env) fp) tg ws g) (ht : ∀ (s : Shared) (H : Hp) (C : Addr) (cl : List (Str × Addr)) (fp : List Addr), STs (X.blk s H scope (compEnvC scope cl C X.env) fp) ifs ft)
    (hi1 : ∀ (s : Shared) (H : Hp) (C : Addr) (cl : List (Str × Addr)) (fp : List Addr), SI (X.blk s H scope (compEnvC scope cl C X.env) fp) tg1 iter1 fi1)
    (hg1 : ∀ (s : Shared) (H : Hp) (C : Addr) (cl : List (Str × Addr)) (fp : List Addr), SG (X.blk s H scope (compEnvC scope cl C X.env) fp) tg1 ws1 g1) (ht1 : ∀ (s : Shared) (H : Hp) (C : Addr) (cl : List (Str × Addr)) (fp : List Addr), STs (X.blk s H scope (compEnvC scope cl C X.env) fp) ifs1 ft1)
    (he : ∀ (s : Shared) (H : Hp) (C : Addr) (cl : List (Str × Addr)) (fp : List Addr), SE (X.blk s H scope (compEnvC scope cl C X.env) fp) elt fe) (hfg : FrG ws g)
    (hsw : swapsWith (.ListComp elt [⟨tg, iter, ifs, 0⟩, ⟨tg1, iter1, ifs1, 0⟩] scope pos) (some (.Name y py)) spos.line X.env = pure true := by exact sw_true rfl rfl rfl (by decide +kernel)) (hy : X.N[i]? = some y := by rfl) (hyl : X.env.scope.names.lookup y = some .local := by rfl)
    (hv : ∀ i ∈ vs1, i ∈ own.map (·.2) := by decide) (hw : ∀ j ∈ ws, j ∈ own.map (·.2) := by decide) (hw1 : ∀ j ∈ ws1, j ∈ vs1 := by decide) (hs : ∀ x, foldedSetIterable iter X.env x = pure x := by intro _; rfl) (hs1 : ∀ env x, foldedSetIterable iter1 env x = pure x := by intro _ _; rfl) :
    SS X (.Assign [.Name y py] (.ListComp elt [⟨tg, iter, ifs, 0⟩, ⟨tg1, iter1, ifs1, 0⟩] scope pos) spos) (sNew i (eLc2 fi g ft fi1 g1 ft1 fe (own.map (·.2)) vs1)) := ⟨PS.imp (ps_setLc2 hc hN hy hyl hsw hi.pi ok hv (fun s H C cl fp => (hg s H C cl fp).pg) (fun s H C cl fp => (ht s H C cl fp).pt) (fun s H C cl fp => (hi1 s H C cl fp).pi) (fun s H C cl fp => (hg1 s H C cl fp).pg) (fun s H C cl fp => (ht1 s H C cl fp).pt) (fun s H C cl fp => (he s H C cl fp).pe) hs hs1) fun D σ H h => by
  obtain ⟨G, B, O, τ, ρ, T, fl, T', E, hf, q⟩ := h
  unfold sNew at hf
  split at hf
  · cases hf
  · rename_i d T1 h
    cases hf
    exact tLc2_of hw hw1 hfg ⟨G, B, O, τ, ρ, T, d, T', E, h, fun p H' hp x t r => q _ H' (addO O p) ⟨x.mono E.tO, addO_new hp⟩ (E.own hp x t r)⟩⟩
end
end Dv

/-! Dv33: dict(t) of a tuple of pairs, keys of both kinds. -/
namespace Dv
open PySem PySem.Spec PyProof.Rows L2

section
variable {X : Cx} {pins : List (Addr × Obj)} {σ : L2.St} {H : Hp} {s : Shared}
/-- the pairs that stand in a tuple, keys whole numbers and texts -/
theorem pairsK (I : Inv X pins σ H s) : ∀ {ps : List Addr} {kvs : List (Key × V)}, Paired (fun p kv => SqT X.K H p [kV kv.1, kv.2]) ps kvs →
    ∃ (prs : List (Key × Value)) (qs : List (Value × Value)), KV kvs prs ∧ qs.length = ps.length ∧ prs.length = ps.length ∧ (∀ (j : Nat) (k v : Value), qs[j]? = some (k, v) → ∃ t, ps[j]? = some t ∧ PairAt s.heap t k v ∧ ∃ c, prs[j]? = some (c, v) ∧ keyIs c k = true)
  | _, _, .nil => ⟨[], [], .nil, rfl, rfl, fun j k v e => by cases e⟩
  | _, _, .cons (a := p) (b := kv) h t => by
    obtain ⟨prs, qs, r, l1, l2, hq⟩ := pairsK I t
    obtain ⟨its, rv, ht, _⟩ := I.tuple h
    obtain ⟨u, y, ei, ru, ry⟩ := vals2 rv
    subst ei
    refine ⟨(kv.1, y) :: prs, (u, y) :: qs, .cons ⟨rfl, ry⟩ r, congrArg (· + 1) l1, congrArg (· + 1) l2, fun j k v e => ?_⟩
    cases j with
    | zero => cases e; exact ⟨p, rfl, .inl ht, kv.1, rfl, kV_is (P := X.prog) (w := X.w) ru⟩
    | succ j => exact hq j k v e
theorem pairsT (I : Inv X pins σ H s) : ∀ {ps : List Addr} {kvs : List (List Key × V)}, Paired (fun p kv => ∃ b, SqT X.K H p [.ref b, kv.2] ∧ H b = some (.tup (kv.1.map kV))) ps kvs →
    ∃ (prs : List (List Key × Addr × Value)) (qs : List (Value × Value)), KT H kvs prs ∧ qs.length = ps.length ∧ prs.length = ps.length ∧ (∀ (j : Nat) (k v : Value), qs[j]? = some (k, v) → ∃ t, ps[j]? = some t ∧ PairAt s.heap t k v ∧ ∃ c b, prs[j]? = some (c, b, v) ∧ k = .ref b)
  | _, _, .nil => ⟨[], [], .nil, rfl, rfl, fun j k v e => by cases e⟩
  | _, _, .cons (a := p) (b := kv) h t => by
    obtain ⟨prs, qs, r, l1, l2, hq⟩ := pairsT I t
    obtain ⟨b, h, hb⟩ := h
    obtain ⟨its, rv, ht, _⟩ := I.tuple h
    obtain ⟨u, y, ei, ru, ry⟩ := vals2 rv
    subst ei
    cases ru
    refine ⟨(kv.1, b, y) :: prs, (.ref b, y) :: qs, .cons ⟨rfl, hb, ry⟩ r, congrArg (· + 1) l1, congrArg (· + 1) l2, fun j k v e => ?_⟩
    cases j with
    | zero => cases e; exact ⟨p, rfl, .inl ht, kv.1, b, rfl, rfl⟩
    | succ j => exact hq j k v e
def mergeT (kvs more : List (List Key × V)) : List (List Key × V) := more.foldl (fun acc kv => putK acc kv.1 kv.2) kvs
theorem length_mergeT : ∀ (more kvs : List (List Key × V)), (mergeT kvs more).length ≤ kvs.length + more.length
  | [], kvs => Nat.le_refl _
  | p :: r, kvs => by
    have h1 := length_mergeT r (putK kvs p.1 p.2)
    have h2 := length_putK kvs p.1 p.2
    show (mergeT (putK kvs p.1 p.2) r).length ≤ kvs.length + (r.length + 1)
    omega
theorem KT_merge {H : Hp} : ∀ {more : List (List Key × V)} {rs : List (List Key × Addr × Value)} {kvs : List (List Key × V)} {vs : List (List Key × Addr × Value)}, KT H more rs → KT H kvs vs → KT H (mergeT kvs more) (storedAllH vs rs) := by
  intro more rs kvs vs r
  induction r generalizing kvs vs with
  | nil => exact id
  | @cons p q ps qs h t ih =>
    intro r0
    refine ih (kvs := putK kvs p.1 p.2) (vs := storedH vs q.1 q.2.1 q.2.2) ?_
    have := r0.put p.1 h.2.1 h.2.2
    rw [← h.1]; exact this
/-- dict(t), t's own object known -/
def rDictT (K : PySem.W.Frag) : List V → Hp → VK → Prop := fun vs H Q => ∃ (a : Addr) (o : Obj) (ps : List Addr), vs = [.ref a] ∧ H a = some (.frz o (.tup (ps.map V.ref))) ∧ o.dict = none ∧
  ((∃ kvs : List (Key × V), Paired (fun p kv => SqT K H p [kV kv.1, kv.2]) ps kvs ∧ ∀ p, H p = none → Q (.ref p) (upd H p (.dK (mergeK [] kvs)))) ∨
   (∃ kvs : List (List Key × V), Paired (fun p kv => ∃ b, SqT K H p [.ref b, kv.2] ∧ H b = some (.tup (kv.1.map kV))) ps kvs ∧ ∀ p, H p = none → Q (.ref p) (upd H p (.dT (mergeT [] kvs)))))
theorem call_dictT (hcalm : X.calm = true) (hu : X.A.units + 3 < cLine) : CallR X (.type "dict") (rDictT X.K) := by
  intro pins s σ H xs us Q I r q
  obtain ⟨a, o, ps, rfl, ha, od, q⟩ := q
  obtain ⟨u, rfl, rx⟩ := vals1 r
  cases rx
  obtain ⟨ho, hz, its, rv, o2, ho2, hc, n, hd⟩ := (show ObjOk X.prog X.w H s.heap a (.frz o (.tup (ps.map V.ref))) from I.hok a _ ha)
  rw [ho] at ho2
  cases ho2
  have ei := refs_at rv
  subst ei
  rw [List.length_map] at hz
  have hm : (s.heap.objs.size == sysModules) = false := beq_eq_false_iff_ne.mpr (Nat.ne_of_gt I.big)
  have getP : ∀ (qs : List (Value × Value)), qs.length = ps.length → (∀ (j : Nat) (k v : Value), qs[j]? = some (k, v) → ∃ t, ps[j]? = some t ∧ PairAt s.heap t k v) →
      PlainSeq "tuple" s.heap a (ps.map Value.ref).toArray ∧ PairItems s.heap (ps.map Value.ref).toArray (fun j => ps.getD j 0) qs := fun qs hl hp => by
    refine ⟨⟨o, n, ho, hc, od, hd⟩, by rw [List.size_toArray, List.length_map, hl], fun j k v e => ?_⟩
    obtain ⟨t, h1, h2⟩ := hp j k v e
    have e2 : ps.getD j 0 = t := by rw [List.getD_eq_getElem?_getD, h1]; rfl
    show _ = some (Value.ref (ps.getD j 0)) ∧ PairAt s.heap (ps.getD j 0) k v
    rw [e2]
    exact ⟨by simp [h1], h2⟩
  rcases q with ⟨kvs, hp, q⟩ | ⟨kvs, hp, q⟩
  · obtain ⟨prs, qs, rel, l1, l2, hq⟩ := pairsK I hp
    refine call_dict_pairs (knd := mixKind X.prog X.w) (kvs := prs) (PairArg.tuple a (ps.map Value.ref).toArray (fun j => ps.getD j 0) qs) (I.ok.hd hcalm) (getP qs l1 fun j k v e => let ⟨t, h1, h2, _⟩ := hq j k v e; ⟨t, h1, h2⟩) ⟨l2.trans l1.symm, fun i key v e => ?_⟩ (by rw [l1]; exact hz) fun h' tk hd' k => ?_
    · obtain ⟨t, _, _, c, h1, h2⟩ := hq i key v e
      exact ⟨c, h1, h2⟩
    · have hlen : (mergeK [] kvs).length ≤ sizeLine := by
        refine Nat.le_trans (length_mergeK kvs []) ?_
        rw [List.length_nil, Nat.zero_add, rel.length, l2]
        exact hz
      exact ⟨.ref s.heap.objs.size, _, I.laid (t' := tk) (o := .dK (mergeK [] kvs)) (fun b u e => k b u (fun z => by cases z) e) (Nat.le_refl _) ⟨hlen, hm, merged [] prs, KV.merge rel .nil, hd'⟩, rfl, q _ (I.hok.fresh (Nat.le_refl _))⟩
  · obtain ⟨prs, qs, rel, l1, l2, hq⟩ := pairsT I hp
    have isk : ∀ (h' : Heap), (∀ b u, s.heap.get? b = some u → h'.get? b = some u) → ∀ x ∈ prs, (tupleKind (mixKind X.prog X.w)).is h' x.1 x.2.1 := fun h' k x hx => by
      obtain ⟨i, hi⟩ := List.mem_iff_getElem?.mp hx
      have : ∃ p, kvs[i]? = some p ∧ p.1 = x.1 ∧ H x.2.1 = some (.tup (p.1.map kV)) := by
        clear hq l1 l2 hp q getP
        induction rel generalizing i with
        | nil => cases hi
        | @cons p q ps' qs' h t ih =>
          cases i with
          | zero => cases hi; exact ⟨p, rfl, h.1, h.2.1⟩
          | succ i => exact ih (List.mem_of_getElem? hi) i hi
      obtain ⟨p, _, e1, e2⟩ := this
      rw [e1] at e2
      obtain ⟨o, its, n, ho, r⟩ := key_of I.hok e2
      exact ⟨o, its, n, k _ _ ho, r⟩
    refine call_dict_pairsH (knd := tupleKind (mixKind X.prog X.w)) (ps := prs) (PairArg.tuple a (ps.map Value.ref).toArray (fun j => ps.getD j 0) qs) (I.ok.hd hcalm) (by show X.A.in1.in1.units < cLine; show X.A.units + 1 + 1 < cLine; omega) (getP qs l1 fun j k v e => let ⟨t, h1, h2, _⟩ := hq j k v e; ⟨t, h1, h2⟩) ⟨l2.trans l1.symm, fun i key v e => ?_⟩ (fun h' k => isk h' fun b u e => k b u (Nat.ne_of_lt (Heap.lt_size e)) (fun z => by cases z) e) (by rw [l1]; exact hz) fun h' tk hd' k => ?_
    · obtain ⟨t, _, _, c, b, h1, h2⟩ := hq i key v e
      exact ⟨c, b, h1, h2⟩
    · have hlen : (mergeT [] kvs).length ≤ sizeLine := by
        refine Nat.le_trans (length_mergeT kvs []) ?_
        rw [List.length_nil, Nat.zero_add, Paired.length rel, l2]
        exact hz
      obtain ⟨o', es, ep, h1, h2, h3, h4, _, h5⟩ := hd'
      have hf := I.hok.fresh (Nat.le_refl s.heap.objs.size)
      refine ⟨.ref s.heap.objs.size, _, I.laid (t' := tk) (o := .dT (mergeT [] kvs)) (fun b u e => k b u (fun z => by cases z) e) (Nat.le_refl _) ⟨hlen, hm, storedAllH [] prs, ?_, o', es, ep, h1, h2, h3, h4, h5⟩, rfl, q _ hf⟩
      exact (KT_merge rel .nil).keeps fun b ys e => by rw [upd_ne (ne_of_none e hf)]; exact e
end

/-! ### by values -/
/-- the pairs of a tuple -/
def pairsD : List D → Option (List (D × D))
  | [] => some []
  | .tuple [k, v] :: r => match pairsD r with
    | none => none
    | some es => some ((k, v) :: es)
  | _ => none
def allK : List (D × D) → Bool
  | [] => true
  | (k, _) :: r => (keyOf k).isSome && allK r
def keyT? : D → Bool
  | .tuple ks => (keysT ks).isSome
  | _ => false
def allT : List (D × D) → Bool
  | [] => true
  | (k, _) :: r => keyT? k && allT r
def mergeD (es : List (D × D)) : List (D × D) := es.foldl (fun acc e => putD2 acc e.1 e.2) []
def qDictT : List D → Option D := q1 fun d => match d with
  | .tuple ds => match pinned ds with
    | false => none
    | true => match pairsD ds with
      | none => none
      | some es => match allK es || allT es with
        | true => some (.dict (mergeD es))
        | false => none
  | _ => none
section
variable {K : PySem.W.Frag} {O : OS} {H : Hp}
theorem repK_merge : ∀ {more : List (D × D)} {kvs : List (Key × V)} {es : List (D × D)} {acc : List (Key × V)}, RepK K O H kvs more → RepK K O H acc es → RepK K O H (mergeK acc kvs) (more.foldl (fun acc e => putD2 acc e.1 e.2) es)
  | [], _, _, _, .nil, q => q
  | _ :: _, _, _, _, .cons (k := k) r t, q => by have := repK_merge t (RepK.put2 (k := k) r q); exact this
theorem repT_merge : ∀ {more : List (D × D)} {kvs : List (List Key × V)} {es : List (D × D)} {acc : List (List Key × V)}, RepT K O H kvs more → RepT K O H acc es → RepT K O H (mergeT acc kvs) (more.foldl (fun acc e => putD2 acc e.1 e.2) es)
  | [], _, _, _, .nil, q => q
  | _ :: _, _, _, _, .cons (k := k) n r t, q => by have := repT_merge t (RepT.put2 (k := k) n r q); exact this
theorem pairs_repK : ∀ {ds : List D} {xs : List V} {es : List (D × D)}, RepL K O H xs ds → pairsD ds = some es → allK es = true → ∃ (ps : List Addr) (kvs : List (Key × V)), xs = ps.map V.ref ∧ Paired (fun p kv => SqT K H p [kV kv.1, kv.2]) ps kvs ∧ RepK K O H kvs es
  | [], _, _, .nil, h, _ => by cases h; exact ⟨[], [], rfl, .nil, .nil⟩
  | d :: r, _, es, .cons r1 rr, h, hk => by
    unfold pairsD at h
    split at h
    case h_1 e => cases e
    case h_3 => cases h
    rename_i k v r' e
    cases e
    split at h
    · cases h
    rename_i es' he
    cases h
    rw [allK, Bool.and_eq_true] at hk
    obtain ⟨ps, kvs, e1, e2, e3⟩ := pairs_repK rr he hk.2
    obtain ⟨p, xs, rfl, hp, rp⟩ := rb_tup (.inl r1)
    cases rp with
    | cons rk rp =>
      cases rp with
      | cons rv rp =>
        cases rp
        obtain ⟨c, hc⟩ := Option.isSome_iff_exists.mp hk.1
        have e4 := keyOf_keyD hc
        subst e1
        rw [← e4] at rk ⊢
        rw [rep_key (.inl rk)] at hp
        exact ⟨p :: ps, (c, _) :: kvs, rfl, .cons (.inl hp) e2, .cons rv e3⟩
theorem pairs_repT : ∀ {ds : List D} {xs : List V} {es : List (D × D)}, RepL K O H xs ds → pairsD ds = some es → allT es = true → ∃ (ps : List Addr) (kvs : List (List Key × V)), xs = ps.map V.ref ∧ Paired (fun p kv => ∃ b, SqT K H p [.ref b, kv.2] ∧ H b = some (.tup (kv.1.map kV))) ps kvs ∧ RepT K O H kvs es
  | [], _, _, .nil, h, _ => by cases h; exact ⟨[], [], rfl, .nil, .nil⟩
  | d :: r, _, es, .cons r1 rr, h, hk => by
    unfold pairsD at h
    split at h
    case h_1 e => cases e
    case h_3 => cases h
    rename_i k v r' e
    cases e
    split at h
    · cases h
    rename_i es' he
    cases h
    rw [allT, Bool.and_eq_true] at hk
    obtain ⟨ps, kvs, e1, e2, e3⟩ := pairs_repT rr he hk.2
    obtain ⟨p, xs, rfl, hp, rp⟩ := rb_tup (.inl r1)
    have hk1 := hk.1
    unfold keyT? at hk1
    split at hk1
    case h_2 => cases hk1
    rename_i kd
    obtain ⟨c, hc⟩ := Option.isSome_iff_exists.mp hk1
    cases rp with
    | cons rk rp =>
      cases rp with
      | cons rv rp =>
        cases rp
        obtain ⟨b, eb, hb⟩ := rep_keyT (.inl rk) hc
        subst e1 eb
        obtain ⟨h1, h2⟩ := keysT_some hc
        have ek : (.tuple kd : D) = keyTD c := by rw [keyTD, keysOf_map h2]
        rw [ek]
        exact ⟨p :: ps, (c, _) :: kvs, rfl, .cons ⟨b, .inl hp, hb⟩ e2, .cons (by rw [keysOf_map h2]; exact h1) rv e3⟩
end
section
variable {X : Cx} {e : Expr} {es : List Expr} {ga : FA} {p pos : Pos} {kk : Nat}
theorem sn_dictT (hc : X.calm = true) (hr : Room kk X.A) (hm : X.mg "dict" = none) (ha : SAB X (e :: es) ga) (hg : Gl X "dict" := by rfl) (he : starEach (e :: es) X.env = (false, eval e X.env) :: starEach es X.env := by rfl) (hpl : (backTo pos (starEach es X.env)).any (·.1) = false := by rfl) : SN X (.Call (.Name "dict" p) (e :: es) [] pos) (eCall qDictT ga) :=
  sn_callTy (call_dictT hc (by have := hr.units; omega)) (onn1 fun O H v x d Q hd rv hx q => by
    split at hx
    case h_2 => cases hx
    rename_i ds
    split at hx
    · cases hx
    rename_i hpin
    split at hx
    · cases hx
    rename_i es' hes
    split at hx
    case h_2 => cases hx
    rename_i hor
    cases hx
    obtain ⟨a, u, xs, rfl, ha, tc, rp⟩ := rb_tupC rv
    rw [hpin] at tc
    obtain ⟨o, rfl, od⟩ := tc
    rw [Bool.or_eq_true] at hor
    rcases hor with hk | hk
    · obtain ⟨ps, kvs, rfl, hp, rk⟩ := pairs_repK rp hes hk
      refine ⟨a, o, ps, rfl, ha, od, .inl ⟨kvs, hp, fun p hp => q p _ hp ?_⟩⟩
      exact .dK upd_same (repK_merge (rk.go (Gr.new hp) (fun _ z _ => z.elim) (addO_new hp)) .nil)
    · obtain ⟨ps, kvs, rfl, hp, rk⟩ := pairs_repT rp hes hk
      refine ⟨a, o, ps, rfl, ha, od, .inr ⟨kvs, hp, fun p hp => q p _ hp ?_⟩⟩
      exact .dT upd_same (repT_merge (rk.go (Gr.new hp) (fun _ z _ => z.elim) (addO_new hp)) .nil)) hm ha (by decide +kernel) hg (by decide) (by decide) he hpl
end
end Dv

/-! Dv34: sorted of lists of alike data (tuples of numbers and texts), any length. -/
namespace Dv
open PySem PySem.Spec PyProof.Rows L2
open PySem.W (alike alikeAll dataLt dataLe AllAlike Sortable EachIs TotalLe sameRank keyToks)

/-! ### insertion is the stable sort -/
def leD (a b : D) : Bool := !dataLt b a
theorem leD_eq : dataLe false (fun d : D => d) = leD := rfl
theorem leD_total : TotalLe leD := PySem.W.sortLe_total (PyProof.Rows.listOrd itemOrd) false fun d : D => keyToks d
theorem dataLt_le {a b : D} (h : dataLt a b = true) : leD b a = false := by unfold leD; rw [h]; rfl
theorem insB_filter (c x : D) : ∀ l : List D, (insB dataLt x l).filter (sameRank leD c) = (x :: l).filter (sameRank leD c)
  | [] => rfl
  | y :: r => by
    unfold insB
    split
    · rename_i h
      have ih := insB_filter c x r
      have n : ¬ (sameRank leD c x = true ∧ sameRank leD c y = true) := fun ⟨h1, h2⟩ => by
        unfold sameRank at h1 h2
        rw [Bool.and_eq_true] at h1 h2
        have := leD_total.trans x c y h1.2 h2.1
        rw [dataLt_le h] at this
        cases this
      by_cases hx : sameRank leD c x = true
      · have hy : ¬ sameRank leD c y = true := fun z => n ⟨hx, z⟩
        rw [List.filter_cons_of_neg hy, ih, List.filter_cons_of_pos hx, List.filter_cons_of_pos hx, List.filter_cons_of_neg hy]
      · by_cases hy : sameRank leD c y = true
        · rw [List.filter_cons_of_pos hy, ih, List.filter_cons_of_neg hx, List.filter_cons_of_neg hx, List.filter_cons_of_pos hy]
        · rw [List.filter_cons_of_neg hy, ih, List.filter_cons_of_neg hx, List.filter_cons_of_neg hx, List.filter_cons_of_neg hy]
    · rfl
theorem sortB_filter (c : D) : ∀ l : List D, (sortB dataLt l).filter (sameRank leD c) = l.filter (sameRank leD c)
  | [] => rfl
  | x :: r => by
    rw [sortB, insB_filter, List.filter_cons, List.filter_cons, sortB_filter c r]
theorem leB_leD {a b : D} : leB dataLt a b ↔ leD a b = true := by
  unfold leB leD
  cases dataLt b a <;> simp
theorem sortB_merge (l : List D) : sortB dataLt l = l.mergeSort leD := by
  refine PySem.W.sort_unique leD_total ?_ fun c => sortB_filter c l
  refine (sortB_pw (fun a b c h1 h2 => ?_) (fun a b h => ?_) l).imp fun h => leB_leD.mp h
  · rw [leB_leD] at *
    exact leD_total.trans a b c h1 h2
  · rcases leD_total.total a b with h1 | h1
    · unfold leD at h1; rw [Bool.not_eq_true'] at h1; exact h1
    · unfold leD at h1; rw [h] at h1; cases h1

/-! ### what may be sorted -/
mutual
/-- no lists and no dicts within, and not too deep -/
def sOk : Nat → D → Bool
  | _, .bool _ => true
  | _, .int _ => true
  | _, .str _ => true
  | n + 1, .tuple ds => sOkL n ds
  | _, _ => false
def sOkL : Nat → List D → Bool
  | _, [] => true
  | n, d :: ds => sOk n d && sOkL n ds
end
mutual
theorem sOk_as {h : Heap} : ∀ (n : Nat) (d : D) (v : Value) (as : List Addr), sOk n d = true → Reads h v d as → as = []
  | _, .bool _, _, _, _, r => by cases r; rfl
  | _, .int _, _, _, _, r => by cases r; rfl
  | _, .str _, _, _, _, r => by cases r; rfl
  | n + 1, .tuple ds, _, _, e, r => by
    cases r with
    | tuple a b c r => exact sOkL_as n ds _ _ (by simpa only [sOk] using e) r
  | 0, .tuple _, _, _, e, _ => by simp only [sOk] at e; cases e
  | _, .none, _, _, e, _ => by simp only [sOk] at e; cases e
  | _, .list _, _, _, e, _ => by simp only [sOk] at e; cases e
  | _, .dict _, _, _, e, _ => by simp only [sOk] at e; cases e
theorem sOkL_as {h : Heap} : ∀ (n : Nat) (ds : List D) (vs : List Value) (as : List Addr), sOkL n ds = true → ReadsAll h vs ds as → as = []
  | _, [], _, _, _, r => by cases r; rfl
  | n, d :: ds, _, _, e, r => by
    rw [sOkL, Bool.and_eq_true] at e
    cases r with
    | cons r1 r2 => rw [sOk_as n d _ _ e.1 r1, sOkL_as n ds _ _ e.2 r2]; rfl
end
mutual
theorem sOk_depth : ∀ (n : Nat) (d : D), sOk n d = true → PyData.depth d ≤ n
  | _, .bool _, _ => by simp only [PyData.depth]; omega
  | _, .int _, _ => by simp only [PyData.depth]; omega
  | _, .str _, _ => by simp only [PyData.depth]; omega
  | n + 1, .tuple ds, e => by
    have := sOkL_depth n ds (by simpa only [sOk] using e)
    simp only [PyData.depth]; omega
  | 0, .tuple _, e => by simp only [sOk] at e; cases e
  | _, .none, e => by simp only [sOk] at e; cases e
  | _, .list _, e => by simp only [sOk] at e; cases e
  | _, .dict _, e => by simp only [sOk] at e; cases e
theorem sOkL_depth : ∀ (n : Nat) (ds : List D), sOkL n ds = true → PyData.depthAll ds ≤ n
  | _, [], _ => by simp only [PyData.depthAll]; omega
  | n, d :: ds, e => by
    rw [sOkL, Bool.and_eq_true] at e
    have h1 := sOk_depth n d e.1
    have h2 := sOkL_depth n ds e.2
    simp only [PyData.depthAll]; omega
end
mutual
theorem Rep.sdp {K : PySem.W.Frag} {O : OS} {H : Hp} : ∀ {n : Nat} {d : D} {v : V}, Rep K O H v d → sOk n d = true → Dp K H v d
  | _, .bool _, _, .bl b, _ => .bl b
  | _, .int _, _, .int i, _ => .int i
  | _, .str _, _, .str x, _ => .str x
  | n + 1, .tuple ds, _, .tup e c r, h => .tup (.inl (c.rd e)) (RepL.sdp r (by simpa only [sOk] using h))
  | 0, .tuple _, _, _, e => by simp only [sOk] at e; cases e
  | _, .none, _, _, e => by simp only [sOk] at e; cases e
  | _, .list _, _, _, e => by simp only [sOk] at e; cases e
  | _, .dict _, _, _, e => by simp only [sOk] at e; cases e
theorem RepL.sdp {K : PySem.W.Frag} {O : OS} {H : Hp} : ∀ {n : Nat} {ds : List D} {vs : List V}, RepL K O H vs ds → sOkL n ds = true → DpAll K H vs ds
  | _, [], _, .nil, _ => .nil
  | n, _ :: _, _, .cons r q, h => by
    rw [sOkL, Bool.and_eq_true] at h
    exact .cons (Rep.sdp r h.1) (RepL.sdp q h.2)
end
def neTup : D → Bool
  | .tuple (_ :: _) => true
  | _ => false
def noTup : D → Bool
  | .tuple _ => false
  | .none => false
  | _ => true
/-- these can be sorted -/
def sortOk (ds : List D) : Bool := ds.length.ble line24 && (sOkL 8 ds && ((ds.all neTup || ds.all noTup) && ds.all fun d => ds.all fun e => alike d e))
theorem sOkL_mem {n : Nat} : ∀ {ds : List D}, sOkL n ds = true → ∀ d ∈ ds, sOk n d = true
  | d :: ds, h, x, hx => by
    rw [sOkL, Bool.and_eq_true] at h
    rcases List.mem_cons.mp hx with rfl | hx
    · exact h.1
    · exact sOkL_mem h.2 x hx
theorem sortOk_alike {ds : List D} (h : sortOk ds = true) : ds.length ≤ sizeLine ∧ sOkL 8 ds = true ∧ AllAlike ds ∧ Sortable ds := by
  unfold sortOk at h
  rw [Bool.and_eq_true, Bool.and_eq_true, Bool.and_eq_true, List.all_eq_true] at h
  obtain ⟨h1, h2, h3, h4⟩ := h
  refine ⟨by rw [line24_eq]; exact Nat.le_of_ble_eq_true h1, h2, fun d hd e he => List.all_eq_true.mp (h4 d hd) e he, ?_⟩
  rw [Bool.or_eq_true, List.all_eq_true, List.all_eq_true] at h3
  rcases h3 with h3 | h3
  · refine .inl fun d hd => ?_
    have := h3 d hd
    unfold neTup at this
    split at this
    · exact ⟨_, _, rfl⟩
    · cases this
  · refine .inr fun d hd => ?_
    have := h3 d hd
    unfold noTup at this
    refine ⟨?_, ?_⟩
    · rintro rfl; cases this
    · rintro xs rfl; cases this

/-! ### sorted by values -/
theorem vals_map {xs : List V} {us : List Value} (r : Vals xs us) : ∀ {ds : List D}, xs.length = ds.length → EachIs (fun (u : Value) (p : V × D) => RelV p.1 u) us (xs.zip ds) := by
  induction r with
  | nil => intro ds h; exact .nil
  | cons r t ih =>
    intro ds h
    cases ds with
    | nil => cases h
    | cons d ds => exact .cons r (ih (Nat.succ.inj h))
theorem each_vals : ∀ {us : List Value} {ps : List (V × D)}, EachIs (fun (u : Value) (p : V × D) => RelV p.1 u) us ps → Vals (ps.map (·.1)) us
  | _, _, .nil => .nil
  | _, _, .cons r t => .cons r (each_vals t)
theorem repL_zip {K : PySem.W.Frag} {O : OS} {H : Hp} : ∀ {xs : List V} {ds : List D}, RepL K O H xs ds → ∀ p ∈ xs.zip ds, Rep K O H p.1 p.2
  | _, _, .nil, p, hp => by cases hp
  | _, _, .cons r t, p, hp => by
    rcases List.mem_cons.mp hp with rfl | hp
    · exact r
    · exact repL_zip t p hp
theorem repL_of {K : PySem.W.Frag} {O : OS} {H : Hp} : ∀ {ps : List (V × D)}, (∀ p ∈ ps, Rep K O H p.1 p.2) → RepL K O H (ps.map (·.1)) (ps.map (·.2))
  | [], _ => .nil
  | p :: r, h => .cons (h p List.mem_cons_self) (repL_of fun q hq => h q (List.mem_cons_of_mem _ hq))
theorem zip_snd {α β : Type} : ∀ {xs : List α} {ds : List β}, xs.length = ds.length → (xs.zip ds).map (·.2) = ds
  | [], [], _ => rfl
  | _ :: xs, _ :: ds, h => by rw [List.zip_cons_cons, List.map_cons, zip_snd (Nat.succ.inj h)]
/-- the sorted pairs -/
def sortP (ps : List (V × D)) : List (V × D) := ps.mergeSort (dataLe false fun p : V × D => p.2)
theorem sortP_snd (ps : List (V × D)) : (sortP ps).map (·.2) = sortB dataLt (ps.map (·.2)) := by
  rw [sortB_merge]
  exact PySem.W.sort_maps (fun p : V × D => p.2) fun a _ b _ => rfl
theorem sortP_mem {ps : List (V × D)} {p : V × D} (h : p ∈ sortP ps) : p ∈ ps := List.mem_mergeSort.mp h
section
variable {X : Cx} {pins : List (Addr × Obj)} {σ : L2.St} {H : Hp} {s : Shared}
theorem each_reads (I : Inv X pins σ H s) : ∀ {xs : List V} {ds : List D} {us : List Value} {n : Nat}, DpAll X.K H xs ds → Vals xs us → sOkL n ds = true → EachIs (fun (u : Value) (p : V × D) => ∃ as, Reads s.heap u p.2 as ∧ as = []) us (xs.zip ds)
  | _, _, _, _, .nil, .nil, _ => .nil
  | _, _, _, n, .cons r t, .cons rv tv, h => by
    rw [sOkL, Bool.and_eq_true] at h
    obtain ⟨as, q⟩ := Dp.reads I _ _ _ r rv
    exact .cons ⟨as, q, sOk_as n _ _ _ h.1 q⟩ (each_reads I t tv h.2)
/-- sorted(xs), xs a list of alike data -/
def rSortD (K : PySem.W.Frag) : List V → Hp → VK → Prop := fun vs H Q => ∃ (a : Addr) (xs : List V) (ds : List D), vs = [.ref a] ∧ SqL K H a xs ∧ DpAll K H xs ds ∧ xs.length = ds.length ∧ sortOk ds = true ∧
  ∀ p, H p = none → Q (.ref p) (upd H p (.lst ((sortP (xs.zip ds)).map (·.1))))
theorem cr_sortD (hu : X.A.units + 16 < cLine) : CallR X (.builtin "sorted") (rSortD X.K) := by
  intro pins s σ H vs us Q I r h
  obtain ⟨a, xs, ds, rfl, hs, dp, hl, ok, q⟩ := h
  obtain ⟨hz, h8, hal, hso⟩ := sortOk_alike ok
  obtain ⟨its, rv, pl, _⟩ := I.list hs
  rw [Vals.ref1 r]
  have hzip : (xs.zip ds).map (·.2) = ds := zip_snd hl
  have hlen : (xs.zip ds).length = ds.length := by rw [← hzip, List.length_map, hzip]
  refine PySem.W.sorted_data (bs := xs.zip ds) (enc := fun p : V × D => p.2) (R := fun (u : Value) (p : V × D) => RelV p.1 u) pl.isList (vals_map rv hl) ((each_reads I dp rv h8).mono fun u p ⟨as, q, _⟩ => ⟨as, q⟩) (by rw [hzip]; exact hal) (by rw [hzip]; exact hso) (by rw [hlen]; exact hz) (fun p hp => ?_) fun out hlo hout => ?_
  · have : p.2 ∈ ds := by rw [← hzip]; exact List.mem_map.mpr ⟨p, hp, rfl⟩
    have := sOk_depth 8 _ (sOkL_mem h8 _ this)
    show X.A.units + 2 + PyData.depth p.2 < cLine
    omega
  · have e2 : s.heap.objs.size + 1 = s.heap.objs.size + 1 := rfl
    obtain ⟨e, he⟩ := sortedAll_at s.heap its (List.toArray out)
    refine ⟨.ref (s.heap.objs.size + 1), _, I.laid (t' := s.toks) (o := .lst ((sortP (xs.zip ds)).map (·.1))) (fun b u e => sortedAll_old e) (Nat.le_succ _) ⟨?_, out, e, each_vals hout, he⟩, rfl, q _ (I.hok.fresh (Nat.le_succ _))⟩
    have := (each_vals hout).length
    rw [show (sortP (xs.zip ds)).map (·.1) = List.map (·.1) ((xs.zip ds).mergeSort (dataLe false fun p : V × D => p.2)) from rfl, this, hlo, hlen]
    exact hz
end
def qSortD (d : D) : Option D := match d with
  | .list ds => if sortOk ds then some (.list (sortB dataLt ds)) else none
  | _ => none
section
variable {X : Cx} {e : Expr} {es : List Expr} {ga : FA} {p pos : Pos} {kk : Nat}
theorem onn_sortD {X : Cx} : OpNN X.K (rSortD X.K) (q1 qSortD) := onn1 fun O H v x d Q hd rv hx q => by
  unfold qSortD at hx
  split at hx
  case h_2 => cases hx
  rename_i ds
  split at hx
  case isFalse => cases hx
  rename_i ok
  cases hx
  obtain ⟨a, xs, rfl, ha, rp⟩ := rb_list rv
  obtain ⟨hz, h8, hal, hso⟩ := sortOk_alike ok
  refine ⟨a, xs, ds, rfl, .of ha, rp.sdp h8, rp.length, ok, fun p hp => q p _ hp ?_⟩
  refine .lst upd_same ?_
  have := repL_of (K := X.K) (O := addO O p) (H := upd H p (.lst ((sortP (xs.zip ds)).map (·.1)))) (ps := sortP (xs.zip ds)) fun w hw => (repL_zip rp w (sortP_mem hw)).go (Gr.new hp) (fun _ z _ => z.elim) (addO_new hp)
  rw [sortP_snd, zip_snd rp.length] at this
  exact this
theorem OpNN.or {K : PySem.W.Frag} {r r' : List V → Hp → VK → Prop} {g g' : List D → Option D} (h : OpNN K r g) (h' : OpNN K r' g') : OpNN K (fun x H Q => r x H Q ∨ r' x H Q) (fun x => (g x).or (g' x)) := by
  intro O H xs ds d Q hd rx hg q
  have hg : (g ds).or (g' ds) = some d := hg
  cases e : g ds with
  | some z =>
    rw [e] at hg
    have hg : some z = some d := hg
    cases hg
    exact .inl (h O H xs ds d Q hd rx e q)
  | none =>
    rw [e] at hg
    exact .inr (h' O H xs ds d Q hd rx hg q)
end
end Dv

set_option maxHeartbeats 2000000
/-! zip of two tuples, its last pair still held. -/
namespace Dv
open PySem PySem.Spec PyProof.Rows L2
section
variable {prog : Program} {w : World} {A : Around} {E : Value → Shared → Prop} {s : Shared}
/-- the zip whose pair at T is still in use -/
abbrev ZipOut (h : Heap) (z TI TO T : Addr) (f : Bool) : Prop :=
  h.get? z = some { cls := .type "zip", dict := none, data := .fields #[rawInt T, .bool f, .bool false, .ref TI, .ref TO], slots := #[] }
theorem zo_item {z TI TO T i1 i2 l1 l2 : Addr} {f : Bool} {oT : Obj} {k : Nat} {xs ys : Array Value} {x y : Value} {Q : Option Value → Shared → Prop} (D : ZipApart z TI TO i1 i2 l1 l2)
    (hz : ZipOut s.heap z TI TO T f) (hT : s.heap.get? T = some oT) (hTI : IsPair s.heap TI (.ref i1) (.ref i2))
    (h1 : s.heap.IsTupleIter i1 l1 k) (h2 : s.heap.IsTupleIter i2 l2 k) (hl1 : s.heap.IsTuple l1 xs) (hl2 : s.heap.IsTuple l2 ys) (hx : xs[k]? = some x) (hy : ys[k]? = some y)
    (hQ : ∀ h', ZipOut h' z TI TO T true → h'.IsTupleIter i1 l1 (k + 1) → h'.IsTupleIter i2 l2 (k + 1) → IsPair h' s.heap.objs.size x y → h'.objs.size = s.heap.objs.size + 1 →
      (∀ c o, c ≠ z → c ≠ i1 → c ≠ i2 → s.heap.get? c = some o → h'.get? c = some o) → Q (some (.ref s.heap.objs.size)) { s with heap := h' }) :
    wpAny (model prog w) A (pyNext (.ref z)) Q E s := by
  have hTz : s.TypeIs (.ref z) "zip" := ⟨_, hz, rfl⟩
  unfold pyNext
  refine wpAny_bind (wpAny_attempt (wpAny_callSpecial?_slot (name := Str.ofString "__next__") hTz F.slot_zip_next
    (wpAny_call_entry F.slot_zip_next hTz F.entry_zip_next ?_ (F.args_zip_next_1 _))))
  show wpAny _ _ (field (.ref z) 2 >>= _) _ _ _
  refine wpAny_bind (wpAny_field hz rfl (x := .bool false) rfl ?_)
  show wpAny _ _ (field (.ref z) 3 >>= _) _ _ _
  refine wpAny_bind (wpAny_field hz rfl (x := .ref TI) rfl ?_)
  refine wpAny_bind (wpAny_seqItems hTI rfl ?_)
  show wpAny _ _ (Builtin.SmallTypes.ownedTupleIsFree (.ref z) >>= _) _ _ _
  refine wpAny_bind ?_
  unfold Builtin.SmallTypes.ownedTupleIsFree
  refine wpAny_bind (wpAny_field hz rfl (x := rawInt T) rfl ?_)
  show wpAny _ _ (loadIfAlive ((T : Int)).toNat >>= _) _ _ _
  rw [Int.toNat_natCast]
  refine wpAny_bind (PySem.W.kdx_alive hT ?_)
  simp only [Option.isNone_some, Bool.false_eq_true, if_false]
  refine wpAny_bind (wpAny_field hz rfl (x := .bool f) rfl ?_)
  refine wpAny_mono (Q := fun a s' => a = false ∧ ∃ h₁, s' = { s with heap := h₁ } ∧ ZipOut h₁ z TI TO T true ∧ (∀ c o, c ≠ z → s.heap.get? c = some o → h₁.get? c = some o) ∧ h₁.objs.size = s.heap.objs.size) (E := fun _ _ => False) ?_ ?_ fun _ _ z => z.elim
  · cases f with
    | true => exact wpAny_pure ⟨rfl, s.heap, rfl, hz, fun _ _ _ e => e, rfl⟩
    | false =>
      show wpAny _ _ (setField (.ref z) 1 (.bool true) >>= fun _ => pure false) _ _ _
      exact wpAny_bind (wpAny_setField_rec hz (by simp) fun h₁ hz₁ hs₁ => wpAny_pure ⟨rfl, h₁, rfl, hz₁, fun c o hc e => hs₁.extBut _ _ hc e, hs₁.1⟩)
  rintro _ _ ⟨rfl, h₁, rfl, hz₁, hk₁, hs₁⟩
  simp only [Bool.false_eq_true, if_false, ← Array.forIn_toList, List.forIn_cons, List.forIn_nil]
  have a1 : h₁.IsTupleIter i1 l1 k := h1.at fun o e => hk₁ _ o D.i1z e
  have a2 : h₁.IsTupleIter i2 l2 k := h2.at fun o e => hk₁ _ o D.i2z e
  have b1 : h₁.IsTuple l1 xs := hl1.at fun o e => hk₁ _ o D.l1z e
  have b2 : h₁.IsTuple l2 ys := hl2.at fun o e => hk₁ _ o D.l2z e
  refine wpAny_bind (wpAny_bind (wpAny_bind (wpAny_holding ?_)))
  show wpAny _ _ (Builtin.SmallTypes.nextOf (.ref i1) >>= fun v => pure (some v)) _ _ _
  refine wpAny_bind (RZ.nextOf_tuple_item (s := { s with heap := h₁ }) a1 b1 hx fun h₂ a1₂ e₂ => wpAny_pure (wpAny_pure ?_))
  refine wpAny_bind (wpAny_bind (wpAny_holding ?_))
  show wpAny _ _ (Builtin.SmallTypes.nextOf (.ref i2) >>= fun v => pure (some v)) _ _ _
  refine wpAny_bind (RZ.nextOf_tuple_item (s := { s with heap := h₂ }) (a2.extBut e₂.extBut D.i12.symm) (b2.extBut e₂.extBut D.l2i1) hy fun h₃ a2₃ e₃ => wpAny_pure (wpAny_pure (wpAny_pure ?_)))
  have sz : h₃.objs.size = s.heap.objs.size := e₃.1.trans (e₂.1.trans hs₁)
  refine wpAny_bind (wpAny_newTuple ?_ (by show 2 ≤ sizeLine; decide))
  show wpAny _ _ (ret (.ref h₃.objs.size)) _ _ _
  refine wpAny_pure ⟨_, rfl, wpAny_pure ?_⟩
  rw [sz]
  refine hQ _ (Heap.get?_push_of_some _ (e₃.extBut _ _ D.i2z.symm (e₂.extBut _ _ D.i1z.symm hz₁))) ((a1₂.extBut e₃.extBut D.i12).at fun o e => Heap.get?_push_of_some _ e) (a2₃.at fun o e => Heap.get?_push_of_some _ e) ?_ ?_ fun c o c1 c2 c3 e => Heap.get?_push_of_some _ (e₃.extBut _ _ c3 (e₂.extBut _ _ c2 (hk₁ _ _ c1 e)))
  · rw [← sz]; exact Heap.get?_push_size _ rfl
  · rw [Heap.size_push, sz]
theorem zo_end {z TI TO T i1 i2 l1 l2 : Addr} {f : Bool} {oT : Obj} {k : Nat} {xs ys : Array Value} {Q : Option Value → Shared → Prop} (hh : A.handled = none) (D : ZipApart z TI TO i1 i2 l1 l2)
    (hz : ZipOut s.heap z TI TO T f) (hT : s.heap.get? T = some oT) (hTI : IsPair s.heap TI (.ref i1) (.ref i2))
    (h1 : s.heap.IsTupleIter i1 l1 k) (h2 : s.heap.IsTupleIter i2 l2 k) (hl1 : s.heap.IsTuple l1 xs) (hl2 : s.heap.IsTuple l2 ys) (hend : xs[k]? = none ∨ ys[k]? = none)
    (hQ : ∀ h', (∀ c o, c ≠ z → c ≠ i1 → c ≠ i2 → s.heap.get? c = some o → h'.get? c = some o) → Q none { s with heap := h' }) :
    wpAny (model prog w) A (pyNext (.ref z)) Q E s := by
  have hTz : s.TypeIs (.ref z) "zip" := ⟨_, hz, rfl⟩
  unfold pyNext
  refine wpAny_bind (wpAny_attempt (wpAny_callSpecial?_slot (name := Str.ofString "__next__") hTz F.slot_zip_next
    (wpAny_call_entry F.slot_zip_next hTz F.entry_zip_next ?_ (F.args_zip_next_1 _))))
  show wpAny _ _ (field (.ref z) 2 >>= _) _ _ _
  refine wpAny_bind (wpAny_field hz rfl (x := .bool false) rfl ?_)
  show wpAny _ _ (field (.ref z) 3 >>= _) _ _ _
  refine wpAny_bind (wpAny_field hz rfl (x := .ref TI) rfl ?_)
  refine wpAny_bind (wpAny_seqItems hTI rfl ?_)
  show wpAny _ _ (Builtin.SmallTypes.ownedTupleIsFree (.ref z) >>= _) _ _ _
  refine wpAny_bind ?_
  unfold Builtin.SmallTypes.ownedTupleIsFree
  refine wpAny_bind (wpAny_field hz rfl (x := rawInt T) rfl ?_)
  show wpAny _ _ (loadIfAlive ((T : Int)).toNat >>= _) _ _ _
  rw [Int.toNat_natCast]
  refine wpAny_bind (PySem.W.kdx_alive hT ?_)
  simp only [Option.isNone_some, Bool.false_eq_true, if_false]
  refine wpAny_bind (wpAny_field hz rfl (x := .bool f) rfl ?_)
  refine wpAny_mono (Q := fun a s' => a = false ∧ ∃ h₁, s' = { s with heap := h₁ } ∧ (∀ c o, c ≠ z → s.heap.get? c = some o → h₁.get? c = some o)) (E := fun _ _ => False) ?_ ?_ fun _ _ z => z.elim
  · cases f with
    | true => exact wpAny_pure ⟨rfl, s.heap, rfl, fun _ _ _ e => e⟩
    | false =>
      show wpAny _ _ (setField (.ref z) 1 (.bool true) >>= fun _ => pure false) _ _ _
      exact wpAny_bind (wpAny_setField_rec hz (by simp) fun h₁ hz₁ hs₁ => wpAny_pure ⟨rfl, h₁, rfl, fun c o hc e => hs₁.extBut _ _ hc e⟩)
  rintro _ _ ⟨rfl, h₁, rfl, hk₁⟩
  simp only [Bool.false_eq_true, if_false, ← Array.forIn_toList, List.forIn_cons, List.forIn_nil]
  have a1 : h₁.IsTupleIter i1 l1 k := h1.at fun o e => hk₁ _ o D.i1z e
  have a2 : h₁.IsTupleIter i2 l2 k := h2.at fun o e => hk₁ _ o D.i2z e
  have b1 : h₁.IsTuple l1 xs := hl1.at fun o e => hk₁ _ o D.l1z e
  have b2 : h₁.IsTuple l2 ys := hl2.at fun o e => hk₁ _ o D.l2z e
  refine wpAny_bind (wpAny_bind (wpAny_bind (wpAny_holding ?_)))
  show wpAny _ _ (Builtin.SmallTypes.nextOf (.ref i1) >>= fun v => pure (some v)) _ _ _
  have stop : ∀ (h' : Heap) (e : Addr), (∀ c o, c ≠ z → c ≠ i1 → c ≠ i2 → s.heap.get? c = some o → h'.get? c = some o) → (∃ o, h'.get? e = some o ∧ o.cls = .type "StopIteration") →
      wpAny (model prog w) A (do
        if ← isInstance (Value.ref e) (.type "StopIteration") then pure none
        else throw (Value.ref e)) Q E { s with heap := h' } := fun h' e hk ⟨o, ho, hc⟩ =>
    wpAny_bind (wpAny_isInstance (T := "StopIteration") (b := true) ⟨o, ho, hc⟩ isSubtype_stop (wpAny_pure (hQ _ hk)))
  cases hx : xs[k]? with
  | none =>
    refine wpAny_bind (RZ.nextOf_tuple_end (s := { s with heap := h₁ }) hh a1 b1 hx fun h₂ e e₂ he => ?_)
    exact stop h₂ e (fun c o c1 c2 c3 x => e₂ _ _ c2 (hk₁ _ _ c1 x)) he
  | some x =>
    have hy : ys[k]? = none := by rcases hend with h | h; rw [hx] at h; cases h; exact h
    refine wpAny_bind (RZ.nextOf_tuple_item (s := { s with heap := h₁ }) a1 b1 hx fun h₂ a1₂ e₂ => wpAny_pure (wpAny_pure ?_))
    refine wpAny_bind (wpAny_bind (wpAny_holding ?_))
    show wpAny _ _ (Builtin.SmallTypes.nextOf (.ref i2) >>= fun v => pure (some v)) _ _ _
    refine wpAny_bind (RZ.nextOf_tuple_end (s := { s with heap := h₂ }) hh (a2.extBut e₂.extBut D.i12.symm) (b2.extBut e₂.extBut D.l2i1) hy fun h₃ e e₃ he => ?_)
    exact stop h₃ e (fun c o c1 c2 c3 x => e₃ _ _ c3 (e₂.extBut _ _ c2 (hk₁ _ _ c1 x))) he
end
end Dv

set_option maxHeartbeats 2000000
/-! list(zip(t, u)) of two tuples. -/
namespace Dv
open PySem PySem.Spec PyProof.Rows L2
theorem ne_lo {a b lo : Addr} (h : a < lo) (g : lo ≤ b) : b ≠ a := fun e => by subst e; exact absurd h (Nat.not_lt.mpr g)
/-- the pairs at as, all above lo -/
structure ZMade (xs ys : Array Value) (lo : Addr) (h : Heap) (as : List Addr) : Prop where
  rise : as.Pairwise (· < ·)
  above : ∀ a ∈ as, lo ≤ a
  pairs : ∀ (j : Nat) (a : Addr), as[j]? = some a → ∃ x y, xs[j]? = some x ∧ ys[j]? = some y ∧ h.get? a = some { cls := .type "tuple", data := .seq #[x, y] }
theorem ZMade.there {xs ys : Array Value} {lo : Addr} {h : Heap} {as : List Addr} (g : ZMade xs ys lo h as) {a : Addr} (ha : a ∈ as) : a < h.objs.size := by
  obtain ⟨j, hj⟩ := List.mem_iff_getElem?.mp ha
  obtain ⟨_, _, _, _, e⟩ := g.pairs j a hj
  exact Heap.lt_size e
theorem ZMade.keep {xs ys : Array Value} {lo : Addr} {h h' : Heap} {as : List Addr} (g : ZMade xs ys lo h as) (k : ∀ a o, lo ≤ a → h.get? a = some o → h'.get? a = some o) : ZMade xs ys lo h' as :=
  ⟨g.rise, g.above, fun j a hj => let ⟨x, y, h1, h2, h3⟩ := g.pairs j a hj; ⟨x, y, h1, h2, k a _ (g.above a (List.mem_of_getElem? hj)) h3⟩⟩
/-- the zip at place i -/
structure ZSt (z TI TO i1 i2 l1 l2 : Addr) (xs ys : Array Value) (lo : Addr) (i : Nat) (h : Heap) : Prop where
  zip : IsZip h z TI TO .none ∨ ∃ T f o, ZipOut h z TI TO T f ∧ h.get? T = some o ∧ lo ≤ T
  TI : IsPair h TI (.ref i1) (.ref i2)
  TO : ∃ a b, IsPair h TO a b
  it1 : h.IsTupleIter i1 l1 i
  it2 : h.IsTupleIter i2 l2 i
  t1 : h.IsTuple l1 xs
  t2 : h.IsTuple l2 ys
theorem ZSt.keep {z TI TO i1 i2 l1 l2 : Addr} {xs ys : Array Value} {lo : Addr} {i : Nat} {h h' : Heap} (g : ZSt z TI TO i1 i2 l1 l2 xs ys lo i h) {S : Addr} (hz : z ≠ S) (hTI : TI ≠ S) (hTO : TO ≠ S) (h1 : i1 ≠ S) (h2 : i2 ≠ S) (h3 : l1 ≠ S) (h4 : l2 ≠ S) (hS : S < lo) (k : ∀ a o, a ≠ S → h.get? a = some o → h'.get? a = some o) : ZSt z TI TO i1 i2 l1 l2 xs ys lo i h' where
  zip := g.zip.imp (fun e => k _ _ hz e) fun ⟨T, f, o, e, eT, l⟩ => ⟨T, f, o, k _ _ hz e, k _ _ (ne_lo hS l) eT, l⟩
  TI := k _ _ hTI g.TI
  TO := let ⟨a, b, e⟩ := g.TO; ⟨a, b, k _ _ hTO e⟩
  it1 := g.it1.at fun o e => k _ _ h1 e
  it2 := g.it2.at fun o e => k _ _ h2 e
  t1 := g.t1.at fun o e => k _ _ h3 e
  t2 := g.t2.at fun o e => k _ _ h4 e
section
variable {prog : Program} {w : World} {A : Around} {E : Value → Shared → Prop} {s : Shared} {z TI TO i1 i2 l1 l2 lo : Addr} {xs ys : Array Value}
theorem zst_item {i : Nat} {x y : Value} {Q : Option Value → Shared → Prop} (D : ZipApart z TI TO i1 i2 l1 l2) (hz : z < lo) (h1 : i1 < lo) (h2 : i2 < lo) (hT : TO < lo) (hlo : lo ≤ s.heap.objs.size) (g : ZSt z TI TO i1 i2 l1 l2 xs ys lo i s.heap) (hx : xs[i]? = some x) (hy : ys[i]? = some y)
    (hQ : ∀ h', ZSt z TI TO i1 i2 l1 l2 xs ys lo (i + 1) h' → IsPair h' s.heap.objs.size x y → h'.objs.size = s.heap.objs.size + 1 →
      (∀ c o, c ≠ z → c ≠ TO → c ≠ i1 → c ≠ i2 → s.heap.get? c = some o → h'.get? c = some o) → Q (some (.ref s.heap.objs.size)) { s with heap := h' }) :
    wpAny (model prog w) A (pyNext (.ref z)) Q E s := by
  obtain ⟨a, b, hTO⟩ := g.TO
  rcases g.zip with e | ⟨T, f, o, e, eT, lT⟩
  · refine RZ.pyNext_zipT_item D e g.TI hTO g.it1 g.it2 g.t1 g.t2 hx hy fun h' b1 b2 b3 b4 b5 b6 b7 => hQ h' ?_ b5 b6 b7
    exact ⟨.inr ⟨_, false, _, b1, b5, hlo⟩, b7 _ _ D.TIz D.TITO D.TIi1 D.TIi2 g.TI, ⟨_, _, b2⟩, b3, b4, g.t1.at fun o e => b7 _ _ D.l1z D.l1TO D.l1i1 D.l1i2 e, g.t2.at fun o e => b7 _ _ D.l2z D.l2TO D.l2i1 D.l2i2 e⟩
  · refine zo_item D e eT g.TI g.it1 g.it2 g.t1 g.t2 hx hy fun h' b1 b3 b4 b5 b6 b7 => hQ h' ?_ b5 b6 fun c o c1 _ c3 c4 e => b7 c o c1 c3 c4 e
    exact ⟨.inr ⟨T, true, o, b1, b7 _ _ (ne_lo hz lT) (ne_lo h1 lT) (ne_lo h2 lT) eT, lT⟩, b7 _ _ D.TIz D.TIi1 D.TIi2 g.TI, ⟨_, _, b7 _ _ D.TOz D.TOi1 D.TOi2 hTO⟩, b3, b4, g.t1.at fun o e => b7 _ _ D.l1z D.l1i1 D.l1i2 e, g.t2.at fun o e => b7 _ _ D.l2z D.l2i1 D.l2i2 e⟩
theorem zst_end {i : Nat} {Q : Option Value → Shared → Prop} (hh : A.handled = none) (D : ZipApart z TI TO i1 i2 l1 l2) (g : ZSt z TI TO i1 i2 l1 l2 xs ys lo i s.heap) (he : xs[i]? = none ∨ ys[i]? = none)
    (hQ : ∀ h', (∀ c o, c ≠ z → c ≠ TO → c ≠ i1 → c ≠ i2 → s.heap.get? c = some o → h'.get? c = some o) → Q none { s with heap := h' }) : wpAny (model prog w) A (pyNext (.ref z)) Q E s := by
  obtain ⟨a, b, hTO⟩ := g.TO
  rcases g.zip with e | ⟨T, f, o, e, eT, lT⟩
  · exact RZ.pyNext_zipT_end hh D e g.TI hTO g.it1 g.it2 g.t1 g.t2 he fun h' k => hQ h' k
  · exact zo_end hh D e eT g.TI g.it1 g.it2 g.t1 g.t2 he fun h' k => hQ h' fun c o c1 _ c3 c4 e => k c o c1 c3 c4 e

theorem zl_loop {S : Addr} {R : Result → Shared → Prop} (hh : A.handled = none) (D : ZipApart z TI TO i1 i2 l1 l2) (hzl : z < lo) (h1l : i1 < lo) (h2l : i2 < lo) (hTl : TO < lo) (hSl : S < lo) (nz : z ≠ S) (nTI : TI ≠ S) (nTO : TO ≠ S) (n1 : i1 ≠ S) (n2 : i2 ≠ S) (n3 : l1 ≠ S) (n4 : l2 ≠ S) (res : Value) (hn : min xs.size ys.size ≤ sizeLine) {h₀ : Heap}
    (hR : ∀ h' acc c as, (∀ b o, b ≠ S → b ≠ z → b ≠ TO → b ≠ i1 → b ≠ i2 → h₀.get? b = some o → h'.get? b = some o) → h'.get? S = some { cls := .type "list", dict := none, data := .seq acc c, slots := #[] } → as.length = min xs.size ys.size → ZMade xs ys lo h' as →
      acc.toList = as.map Value.ref → R (.ok (.ret res)) { s with heap := h' }) :
    ∀ (k i : Nat) (h : Heap) (c : Nat) (acc : Array Value) (as : List Addr), min xs.size ys.size - i = k → i ≤ min xs.size ys.size → ZSt z TI TO i1 i2 l1 l2 xs ys lo i h → (∀ b o, b ≠ S → b ≠ z → b ≠ TO → b ≠ i1 → b ≠ i2 → h₀.get? b = some o → h.get? b = some o) →
      h.get? S = some { cls := .type "list", dict := none, data := .seq acc c, slots := #[] } → acc.toList = as.map Value.ref → as.length = i → ZMade xs ys lo h as → lo ≤ h.objs.size →
      codeAny (model prog w) A (.builtin "list.extend.loop" ⟨[.ref S, .ref z, res], []⟩) R { s with heap := h } := by
  intro k
  induction k with
  | zero =>
    intro i h c acc as hk hi hst hkeep hS hacc hal hG hlo
    have hin : i = min xs.size ys.size := by omega
    refine codeAny_builtin PySem.F.entry_extend_loop ?_
    rw [Around.under_plainId PySem.F.plain_extend_loop _]
    show wpAny _ A.in1 (pyNext (.ref z) >>= _) _ _ _
    have he : xs[i]? = none ∨ ys[i]? = none := by
      rcases Nat.le_total xs.size ys.size with q | q
      · exact .inl (Array.getElem?_eq_none (by omega))
      · exact .inr (Array.getElem?_eq_none (by omega))
    refine wpAny_bind (zst_end (s := { s with heap := h }) (A := A.in1) hh D hst he fun h' kp => ?_)
    refine wpAny_pure (hR h' acc c as (fun b o b1 b2 b3 b4 b5 e => kp b o b2 b3 b4 b5 (hkeep b o b1 b2 b3 b4 b5 e)) (kp S _ nz.symm nTO.symm n1.symm n2.symm hS) (by omega) (hG.keep fun a o la e => kp a o (ne_lo hzl la) (ne_lo hTl la) (ne_lo h1l la) (ne_lo h2l la) e) hacc)
  | succ k ih =>
    intro i h c acc as hk hi hst hkeep hS hacc hal hG hlo
    have hlt : i < min xs.size ys.size := by omega
    have hsz : acc.size = i := by rw [← Array.length_toList, hacc, List.length_map, hal]
    refine codeAny_builtin PySem.F.entry_extend_loop ?_
    rw [Around.under_plainId PySem.F.plain_extend_loop _]
    show wpAny _ A.in1 (pyNext (.ref z) >>= _) _ _ _
    have hx : xs[i]? = some xs[i] := by simp [show i < xs.size by omega]
    have hy : ys[i]? = some ys[i] := by simp [show i < ys.size by omega]
    generalize xs[i] = x at hx
    generalize ys[i] = y at hy
    refine wpAny_bind (zst_item (s := { s with heap := h }) D hzl h1l h2l hTl hlo hst hx hy fun h' hst' hp hz kp => ?_)
    dsimp only at hp hz kp ⊢
    have hS' := kp S _ nz.symm nTO.symm n1.symm n2.symm hS
    have up : ∀ b o, b ≠ S → h'.get? b = some o → (h'.update S (Obj.mapSeq (·.push (Value.ref h.objs.size)))).get? b = some o := fun b o hb e => (Heap.get?_update_other _ _ (Ne.symm hb)).trans e
    show wpAny _ A.in1 (updateSeq S (·.push (Value.ref h.objs.size)) >>= _) _ _ _
    refine wpAny_bind (wpAny_updateSeq hS' rfl (wpAny_pure ⟨plainId_quiet PySem.F.plain_extend_loop _, ih (i + 1) _ _ (acc.push (Value.ref h.objs.size)) (as ++ [h.objs.size]) (by omega) hlt
      (hst'.keep nz nTI nTO n1 n2 n3 n4 hSl up) (fun b o b1 b2 b3 b4 b5 e => up b o b1 (kp b o b2 b3 b4 b5 (hkeep b o b1 b2 b3 b4 b5 e))) (Heap.get?_update_self _ hS' rfl) (by rw [Array.toList_push, hacc, List.map_append]; rfl) (by rw [List.length_append, hal]; rfl) ⟨?_, ?_, ?_⟩ (by rw [Heap.size_update, hz]; exact Nat.le_succ_of_le hlo)⟩) ?_ ?_)
    · refine List.pairwise_append.mpr ⟨hG.rise, List.pairwise_singleton _ _, fun a ha b hb => ?_⟩
      rw [List.mem_singleton.mp hb]
      exact hG.there ha
    · intro a ha
      rcases List.mem_append.mp ha with ha | ha
      · exact hG.above a ha
      · rw [List.mem_singleton.mp ha]; exact hlo
    · intro j b hj
      rcases Nat.lt_trichotomy j as.length with h1 | h1 | h1
      · rw [List.getElem?_append_left h1] at hj
        obtain ⟨x', y', e1, e2, e3⟩ := hG.pairs j b hj
        have hb := hG.above b (List.mem_of_getElem? hj)
        exact ⟨x', y', e1, e2, up b _ (ne_lo hSl hb) (kp b _ (ne_lo hzl hb) (ne_lo hTl hb) (ne_lo h1l hb) (ne_lo h2l hb) e3)⟩
      · have hb : h.objs.size = b := by subst h1; simpa using hj
        have e : j = i := h1.trans hal
        rw [e, ← hb]
        exact ⟨x, y, hx, hy, up _ _ (ne_lo hSl hlo) hp⟩
      · have hnone : (as ++ [h.objs.size])[j]? = none := List.getElem?_eq_none (by rw [List.length_append, List.length_singleton]; omega)
        rw [hnone] at hj; cases hj
    · rw [hsz]; omega
    · show (acc.push (Value.ref h.objs.size)).size ≤ sizeLine + 1
      rw [Array.size_push, hsz]; omega
end
end Dv

set_option maxHeartbeats 2000000
/-! list(zip(t, u)): the call. -/
namespace Dv
open PySem PySem.Spec PyProof.Rows L2
theorem zip_no_len : typeLookup (.type "zip") "__len__" = pure none := by rw [typeLookup_type, builtinLookup_eq_fast]; kernel_rfl
theorem zip_no_hint : typeLookup (.type "zip") "__length_hint__" = pure none := by rw [typeLookup_type, builtinLookup_eq_fast]; kernel_rfl
section
variable {prog : Program} {w : World} {A : Around} {E : Value → Shared → Prop} {s : Shared} {z TI TO i1 i2 l1 l2 lo : Addr} {xs ys : Array Value}
theorem zl_extend {S : Addr} {R : Result → Shared → Prop} (hh : A.handled = none) (D : ZipApart z TI TO i1 i2 l1 l2) (hzl : z < lo) (h1l : i1 < lo) (h2l : i2 < lo) (hTl : TO < lo) (hSl : S < lo) (nz : z ≠ S) (nTI : TI ≠ S) (nTO : TO ≠ S) (n1 : i1 ≠ S) (n2 : i2 ≠ S) (n3 : l1 ≠ S) (n4 : l2 ≠ S) (res : Value) (hn : min xs.size ys.size ≤ sizeLine)
    (hst : ZSt z TI TO i1 i2 l1 l2 xs ys lo 0 s.heap) (hlo : lo ≤ s.heap.objs.size) (c₀ : Nat) (hS : s.heap.get? S = some { cls := .type "list", data := .seq #[] c₀ }) (hzt : s.TypeIs (.ref z) "zip") (hit : ∀ (s' : Shared) (Q : Value → Shared → Prop) (E : Value → Shared → Prop), s' = s → Q (.ref z) s' → wpAny (model prog w) A.in1 (pyIter (.ref z)) Q E s')
    (hR : ∀ h' acc c as, (∀ b o, b ≠ S → b ≠ z → b ≠ TO → b ≠ i1 → b ≠ i2 → s.heap.get? b = some o → h'.get? b = some o) → h'.get? S = some { cls := .type "list", dict := none, data := .seq acc c, slots := #[] } → as.length = min xs.size ys.size → ZMade xs ys lo h' as →
      acc.toList = as.map Value.ref → R (.ok (.ret res)) { s with heap := h' }) :
    wpAny (model prog w) A.in1 (Builtin.List.listExtendWith (.ref S) (.ref z) res)
      (fun fin s' => match fin with | .done f => R (.ok f) s' | .again c' => c'.quiet = true ∧ codeAny (model prog w) A c' R s') (fun e s' => R (.error e) s') s := by
  unfold Builtin.List.listExtendWith
  refine wpAny_bind (wpAny_typeOf hzt ?_)
  have q1 : Builtin.List.listSameRef (.ref S) (.ref z) = false := by simp [Builtin.List.listSameRef, nz.symm]
  have q2 : (Value.type "zip" == Value.type "list") = false := by decide
  have q3 : (Value.type "zip" == Value.type "tuple") = false := by decide
  simp only [q1, q2, q3, Bool.or_false, Bool.false_eq_true, if_false]
  refine wpAny_bind (hit s _ _ rfl ?_)
  refine wpAny_bind (wpAny_holding ?_)
  unfold Builtin.List.listLengthHint
  refine wpAny_bind (wpAny_specialOf hzt zip_no_len ?_)
  show wpAny _ A.in1 (specialOf (Value.ref z) (Str.ofString "__length_hint__") >>= _) _ _ _
  refine wpAny_bind (wpAny_specialOf hzt zip_no_hint ?_)
  refine wpAny_pure ?_
  show wpAny _ A.in1 (rule "list.extend.makes-room" >>= fun _ => Builtin.List.listTouch (.ref S) >>= fun _ =>
    again (.builtin "list.extend.loop" ⟨[.ref S, .ref z, res], []⟩)) _ _ _
  refine wpAny_bind (wpAny_rule ?_)
  refine wpAny_bind ?_
  show wpAny _ A.in1 (updateSeq S (·.push .none) >>= fun _ => updateSeq S (·.pop)) _ _ _
  refine wpAny_bind (wpAny_updateSeq hS rfl ?_)
  have hS₂ := Heap.get?_update_self (Obj.mapSeq (·.push Value.none)) hS rfl
  refine wpAny_updateSeq (hz := by seq_fits) hS₂ rfl ?_
  have hS₃ := Heap.get?_update_self (Obj.mapSeq (·.pop)) hS₂ rfl
  have oth : ∀ b o, b ≠ S → s.heap.get? b = some o → ((s.heap.update S (Obj.mapSeq (·.push Value.none))).update S (Obj.mapSeq (·.pop))).get? b = some o :=
    fun b o hb e => (Heap.get?_update_other _ _ (Ne.symm hb)).trans ((Heap.get?_update_other _ _ (Ne.symm hb)).trans e)
  refine wpAny_pure ⟨plainId_quiet PySem.F.plain_extend_loop _, zl_loop hh D hzl h1l h2l hTl hSl nz nTI nTO n1 n2 n3 n4 res hn (h₀ := s.heap) hR _ 0 _ _ #[] [] rfl (Nat.zero_le _) (hst.keep nz nTI nTO n1 n2 n3 n4 hSl oth) (fun b o b1 _ _ _ _ e => oth b o b1 e) hS₃ rfl rfl ⟨List.Pairwise.nil, (fun _ ha => nomatch ha), fun j a hj => by simp at hj⟩ ?_⟩
  rw [Heap.size_update, Heap.size_update]; exact hlo
theorem zl_call {Q : Value → Shared → Prop} (hh : A.handled = none) (D : ZipApart z TI TO i1 i2 l1 l2) (hzl : z < s.heap.objs.size) (h1l : i1 < s.heap.objs.size) (h2l : i2 < s.heap.objs.size) (hTl : TO < s.heap.objs.size) (hTIl : TI < s.heap.objs.size) (h3l : l1 < s.heap.objs.size) (h4l : l2 < s.heap.objs.size) (hn : min xs.size ys.size ≤ sizeLine)
    (hz : IsZip s.heap z TI TO .none) (hTI : IsPair s.heap TI (.ref i1) (.ref i2)) {a b : Value} (hTO : IsPair s.heap TO a b) (h1 : s.heap.IsTupleIter i1 l1 0) (h2 : s.heap.IsTupleIter i2 l2 0) (t1 : s.heap.IsTuple l1 xs) (t2 : s.heap.IsTuple l2 ys)
    (hQ : ∀ h' acc c as, (∀ b o, b ≠ z → b ≠ TO → b ≠ i1 → b ≠ i2 → s.heap.get? b = some o → h'.get? b = some o) → h'.get? s.heap.objs.size = some { cls := .type "list", dict := none, data := .seq acc c, slots := #[] } → as.length = min xs.size ys.size → ZMade xs ys (s.heap.objs.size + 1) h' as →
      acc.toList = as.map Value.ref → Q (.ref s.heap.objs.size) { s with heap := h' }) :
    wpAny (model prog w) A (call (.type "list") [.ref z]) Q E s := by
  refine callType_codes (Q₁ := fun obj s₁ => obj = .ref s.heap.objs.size ∧ s₁ = { s with heap := s.heap.push { cls := .type "list", data := .seq #[] } }) PySem.F.called_list (PySem.F.typeCall_list_1 _) PySem.F.entry_list_init
    (code_list_new _ ⟨rfl, rfl⟩) fun obj s₁ h₁ => ?_
  obtain ⟨rfl, rfl⟩ := h₁
  have hS : (s.heap.push { cls := .type "list", data := .seq #[] }).get? s.heap.objs.size = some { cls := .type "list", data := .seq #[] } := Heap.get?_push_size _ rfl
  refine ⟨⟨_, hS, rfl⟩, PySem.F.args_list_init_2 _ _, ?_⟩
  show wpAny _ _ (do let old ← Builtin.List.listItems (.ref s.heap.objs.size); Builtin.List.listUpdate (.ref s.heap.objs.size) (fun _ => #[]); letGo old.toList.reverse; Builtin.List.listExtendWith (.ref s.heap.objs.size) (.ref z) .none) _ _ _
  refine wpAny_bind ?_
  unfold Builtin.List.listItems
  refine wpAny_bind (wpAny_seqItems hS rfl (wpAny_pure ?_))
  show wpAny _ _ (updateSeq s.heap.objs.size (fun _ => #[]) >>= fun _ => letGo (#[] : Array Value).toList.reverse >>= fun _ => Builtin.List.listExtendWith (.ref s.heap.objs.size) (.ref z) .none) _ _ _
  refine wpAny_bind (wpAny_updateSeq hS rfl ?_)
  have hS₂ := Heap.get?_update_self (Obj.mapSeq (fun _ => (#[] : Array Value))) hS rfl
  have oth : ∀ b o, s.heap.get? b = some o → ((s.heap.push { cls := .type "list", data := .seq #[] }).update s.heap.objs.size (Obj.mapSeq (fun _ => (#[] : Array Value)))).get? b = some o :=
    fun b o e => (Heap.get?_update_other _ _ (Nat.ne_of_gt (Heap.lt_size e))).trans (Heap.get?_push_of_some _ e)
  refine wpAny_bind (wpAny_letGo ?_)
  refine zl_extend (A := A.in1) (lo := s.heap.objs.size + 1) (xs := xs) (ys := ys) hh D (Nat.lt_succ_of_lt hzl) (Nat.lt_succ_of_lt h1l) (Nat.lt_succ_of_lt h2l) (Nat.lt_succ_of_lt hTl) (Nat.lt_succ_self _) (Nat.ne_of_lt hzl) (Nat.ne_of_lt hTIl) (Nat.ne_of_lt hTl) (Nat.ne_of_lt h1l) (Nat.ne_of_lt h2l) (Nat.ne_of_lt h3l) (Nat.ne_of_lt h4l) .none hn ?_ ?_ _ hS₂ ⟨_, oth _ _ hz, rfl⟩ ?_ fun h' acc c as hk hS' hl hG hacc => ?_
  · exact ⟨.inl (oth _ _ hz), oth _ _ hTI, ⟨_, _, oth _ _ hTO⟩, h1.at fun o e => oth _ _ e, h2.at fun o e => oth _ _ e, t1.at fun o e => oth _ _ e, t2.at fun o e => oth _ _ e⟩
  · show _ ≤ (Heap.update _ _ _).objs.size
    rw [Heap.size_update, Heap.size_push]; exact Nat.le_refl _
  · rintro s' Q' E' rfl hq
    exact wpAny_pyIter_zip (f0 := .none) (oth _ _ hz) hq
  · exact ⟨rfl, hQ h' acc c as (fun b o b2 b3 b4 b5 e => hk b o (Nat.ne_of_lt (Heap.lt_size e)) b2 b3 b4 b5 (oth b o e)) hS' hl hG hacc⟩
end
end Dv

set_option maxHeartbeats 2000000
/-! list(zip(t, u)): the expression; new pairs are tracked. -/
namespace Dv
open PySem PySem.Spec PyProof.Rows L2
section
variable {X : Cx} {pins : List (Addr × Obj)} {σ : L2.St}
/-- pairs that were laid are tracked, each as is wished -/
theorem takeP {H0 : Hp} {s : Shared} {h' : Heap} {tk : Nat} (I0 : Inv X pins σ H0 s) : ∀ (L : List (Addr × V × V × Bool)) (H1 : Hp), Inv X pins σ H1 { s with heap := h', toks := tk } → (L.map (·.1)).Nodup →
    (∀ e ∈ L, s.heap.objs.size ≤ e.1 ∧ H1 e.1 = none ∧ ∃ u v, RelV e.2.1 u ∧ RelV e.2.2.1 v ∧ h'.get? e.1 = some { cls := .type "tuple", data := .seq #[u, v] }) →
    ∃ H2, Inv X pins σ H2 { s with heap := h', toks := tk } ∧ (∀ b o, H1 b = some o → H2 b = some o) ∧ ∀ e ∈ L, ∃ w, TupC e.2.2.2 [e.2.1, e.2.2.1] w ∧ H2 e.1 = some w
  | [], H1, I1, _, _ => ⟨H1, I1, fun _ _ e => e, fun _ h => nomatch h⟩
  | e :: L, H1, I1, hn, h => by
    obtain ⟨hb, hnone, u, v, ru, rv, ho⟩ := h e (List.mem_cons_self ..)
    rw [List.map_cons, List.nodup_cons] at hn
    have tp : IsTup h' e.1 [u, v].toArray := ⟨_, ho, rfl, _, rfl⟩
    have z2 : ([e.2.1, e.2.2.1] : List V).length ≤ sizeLine := by show 2 ≤ sizeLine; decide
    have : ∃ w, TupC e.2.2.2 [e.2.1, e.2.2.1] w ∧ Inv X pins σ (upd H1 e.1 w) { s with heap := h', toks := tk } := by
      cases e.2.2.2 with
      | false => exact ⟨_, rfl, I1.take (h' := h') (t' := tk) (fun b ob _ q => q) (I0.fpOk hb hnone) ⟨z2, _, .cons ru (.cons rv .nil), tp⟩⟩
      | true => exact ⟨_, ⟨_, rfl, rfl⟩, I1.take (h' := h') (t' := tk) (fun b ob _ q => q) (I0.fpOk hb hnone) ⟨ho, z2, _, .cons ru (.cons rv .nil), tp⟩⟩
    obtain ⟨w, tc, I2⟩ := this
    obtain ⟨H2, I3, g, q⟩ := takeP I0 L (upd H1 e.1 w) I2 hn.2 fun c hc => by
      obtain ⟨c1, c2, c3⟩ := h c (List.mem_cons_of_mem _ hc)
      exact ⟨c1, by rw [upd_ne (fun z => hn.1 (by rw [← z]; exact List.mem_map.mpr ⟨c, hc, rfl⟩))]; exact c2, c3⟩
    refine ⟨H2, I3, fun b o e' => g b o (by rw [upd_ne (ne_of_none e' hnone)]; exact e'), fun c hc => ?_⟩
    rcases List.mem_cons.mp hc with rfl | hc
    · exact ⟨w, tc, g _ _ upd_same⟩
    · exact q c hc
/-- a new list of new pairs -/
def PairsAt (H' : Hp) (xs ys : List V) (c : Nat → Bool) (as : List Addr) : Prop := as.length = min xs.length ys.length ∧ ∀ (j : Nat) (a : Addr), as[j]? = some a → ∃ x y w, xs[j]? = some x ∧ ys[j]? = some y ∧ TupC (c j) [x, y] w ∧ H' a = some w
def tLZ (K : PySem.W.Frag) (ta : TA) : TE := fun σ H Q => ta σ H fun vs H1 => ∃ (a b : Addr) (xs ys : List V) (c : Nat → Bool), vs = [.ref a, .ref b] ∧ SqT K H1 a xs ∧ SqT K H1 b ys ∧
  ∀ (H' : Hp) (p : Addr) (as : List Addr), (∀ b o, H1 b = some o → H' b = some o) → H1 p = none → H' p = some (.lst (as.map V.ref)) → PairsAt H' xs ys c as → Q (.ref p) H'
theorem pairs_laid {H : Hp} {s : Shared} {h' : Heap} {p : Addr} {acc : Array Value} {n : Nat} {as : List Addr} {xs ys : List V} {us vs : List Value} {lo : Addr} (c : Nat → Bool) (I : Inv X pins σ H s) (rx : Vals xs us) (ry : Vals ys vs) (hz : min us.length vs.length ≤ sizeLine) (k : ∀ b u, s.heap.get? b = some u → h'.get? b = some u) (hp : s.heap.objs.size ≤ p) (hpl : p < lo)
    (hS : h'.get? p = some { cls := .type "list", dict := none, data := .seq acc n, slots := #[] }) (hl : as.length = min us.length vs.length) (hG : ZMade us.toArray vs.toArray lo h' as) (hacc : acc.toList = as.map Value.ref) :
    ∃ H', (∀ b o, H b = some o → H' b = some o) ∧ H p = none ∧ H' p = some (.lst (as.map V.ref)) ∧ PairsAt H' xs ys c as ∧ Inv X pins σ H' { s with heap := h' } := by
  have hpn := I.hok.fresh hp
  have I1 : Inv X pins σ (upd H p (.lst (as.map V.ref))) { s with heap := h' } := I.laid (t' := s.toks) k hp ⟨by rw [List.length_map, hl]; exact hz, as.map Value.ref, n, LiI.vals_refs as, by rw [← hacc, Array.toArray_toList]; exact hS⟩
  have nd : as.Nodup := List.Pairwise.imp (fun {a b} (h : a < b) => Nat.ne_of_lt h) hG.rise
  have lx := rx.length
  have ly := ry.length
  let L : List (Addr × V × V × Bool) := (List.range as.length).map fun j => (as.getD j 0, xs.getD j .non, ys.getD j .non, c j)
  have hLa : L.map (·.1) = as := by
    refine List.ext_getElem? fun j => ?_
    show ((List.map _ (List.map _ (List.range as.length))))[j]? = _
    rw [List.map_map, List.getElem?_map]
    by_cases hj : j < as.length
    · rw [List.getElem?_range hj]
      show some (as.getD j 0) = _
      rw [List.getD_eq_getElem?_getD, List.getElem?_eq_getElem hj]; rfl
    · rw [List.getElem?_eq_none (by rw [List.length_range]; omega), List.getElem?_eq_none (by omega)]; rfl
  have at_ : ∀ j, j < as.length → ∃ a x y u v, as[j]? = some a ∧ xs[j]? = some x ∧ ys[j]? = some y ∧ RelV x u ∧ RelV y v ∧ h'.get? a = some { cls := .type "tuple", data := .seq #[u, v] } := fun j hj => by
    have ea : as[j]? = some as[j] := List.getElem?_eq_getElem hj
    obtain ⟨u, v, e1, e2, e3⟩ := hG.pairs j _ ea
    have ex : xs[j]? = some xs[j] := List.getElem?_eq_getElem (by omega)
    have ey : ys[j]? = some ys[j] := List.getElem?_eq_getElem (by omega)
    obtain ⟨u', q1, r1⟩ := rx.get ex
    obtain ⟨v', q2, r2⟩ := ry.get ey
    have e1' : us[j]? = some u := by simpa using e1
    have e2' : vs[j]? = some v := by simpa using e2
    rw [q1] at e1'; cases e1'
    rw [q2] at e2'; cases e2'
    exact ⟨_, _, _, _, _, ea, ex, ey, r1, r2, e3⟩
  obtain ⟨H2, I2, g, q⟩ := takeP (tk := s.toks) I L _ I1 (by rw [hLa]; exact nd) fun e he => by
    obtain ⟨j, hj, rfl⟩ := List.mem_map.mp he
    obtain ⟨a, x, y, u, v, ea, ex, ey, r1, r2, e3⟩ := at_ j (List.mem_range.mp hj)
    have g1 : as.getD j 0 = a := by rw [List.getD_eq_getElem?_getD, ea]; rfl
    have g2 : xs.getD j .non = x := by rw [List.getD_eq_getElem?_getD, ex]; rfl
    have g3 : ys.getD j .non = y := by rw [List.getD_eq_getElem?_getD, ey]; rfl
    have la : lo ≤ a := hG.above a (List.mem_of_getElem? ea)
    have sa : s.heap.objs.size ≤ a := Nat.le_trans hp (Nat.le_trans (Nat.le_of_lt hpl) la)
    dsimp only
    rw [g1, g2, g3]
    exact ⟨sa, by rw [upd_ne (ne_lo hpl la)]; exact I.hok.fresh sa, u, v, r1, r2, e3⟩
  refine ⟨H2, fun b o e => g b o (by rw [upd_ne (ne_of_none e hpn)]; exact e), hpn, g _ _ upd_same, ⟨by rw [hl, lx, ly], fun j a ea => ?_⟩, I2⟩
  have hj : j < as.length := (List.getElem?_eq_some_iff.mp ea).1
  obtain ⟨a', x, y, u, v, ea', ex, ey, _⟩ := at_ j hj
  rw [ea] at ea'; cases ea'
  obtain ⟨w, tc, hw⟩ := q (as.getD j 0, xs.getD j .non, ys.getD j .non, c j) (List.mem_map.mpr ⟨j, List.mem_range.mpr hj, rfl⟩)
  have g1 : as.getD j 0 = a := by rw [List.getD_eq_getElem?_getD, ea]; rfl
  have g2 : xs.getD j .non = x := by rw [List.getD_eq_getElem?_getD, ex]; rfl
  have g3 : ys.getD j .non = y := by rw [List.getD_eq_getElem?_getD, ey]; rfl
  dsimp only at tc hw
  rw [g1] at hw
  rw [g2, g3] at tc
  exact ⟨x, y, w, ex, ey, tc, hw⟩
variable {e e2 : Expr} {ta : TA} {pl pz pos posz : Pos}
theorem pe_listZip (hc : X.calm = true) (hgl : Gl X "list") (hml : X.mg "list" = none) (hgz : Gl X "zip") (hmz : X.mg "zip" = none) (ha : PA X [e, e2] ta)
    (hs : starEach [e, e2] X.env = (false, eval e X.env) :: starEach [e2] X.env := by rfl) (hpl : (backTo posz (starEach [e2] X.env)).any (·.1) = false := by rfl)
    (hs1 : starEach [.Call (.Name "zip" pz) [e, e2] [] posz] X.env = (false, eval (.Call (.Name "zip" pz) [e, e2] [] posz) X.env) :: starEach [] X.env := by rfl) :
    PE X (.Call (.Name "list" pl) [.Call (.Name "zip" pz) [e, e2] [] posz] [] pos) (tLZ X.K ta) := by
  refine ⟨fun pins s σ H Q I h => ?_⟩
  refine Call_ (ld_blt I hgl hml PyProof.Rows.boot_list (PyProof.Rows.callWith_type1 ?_ hs1 rfl))
  rw [hs1]
  show wpAny _ _ (spliced ((false, eval (.Call (.Name "zip" pz) [e, e2] [] posz) X.env) :: backTo pos (starEach [] X.env))) _ _ s
  refine Calls.spliced_cons ?_
  refine Call_ (ld_blt I hgz hmz PyProof.Rows.boot_zip (PyProof.Rows.callWith_type1 (thn (ha.run posz pins s σ H _ I h) fun us s1 ⟨vs, H1, I1, r1, q1⟩ => ?_) hs hpl))
  obtain ⟨a, b, xs, ys, c, ex, hqx, hqy, q⟩ := q1
  subst ex
  cases r1 with
  | cons r rr =>
    cases rr with
    | cons r' rr =>
      cases rr
      cases r
      cases r'
      obtain ⟨its, rv, p1, z1⟩ := I1.tuple hqx
      obtain ⟨its2, rv2, p2, z2⟩ := I1.tuple hqy
      obtain ⟨o1, ho1, _⟩ := id p1
      obtain ⟨o2, ho2, _⟩ := id p2
      have la := Heap.lt_size ho1
      have lb := Heap.lt_size ho2
      refine RZ.call_zipT (show s1.heap.IsTuple a its.toArray from p1) (show s1.heap.IsTuple b its2.toArray from p2) fun h' hz hTI hTO h1 h2 hsz hk => ?_
      refine Calls.spliced_nil ?_
      have lt : ∀ k, k < 5 → s1.heap.objs.size + k < h'.objs.size := fun k hk => by rw [hsz]; omega
      have hmin : min its.toArray.size its2.toArray.size ≤ sizeLine := by
        rw [List.size_toArray, List.size_toArray, ← rv.length, ← rv2.length]
        exact Nat.le_trans (Nat.min_le_left _ _) z1
      refine zl_call (s := { s1 with heap := h' }) (I1.ok.hd hc) (PySem.W.ktu_apart s1.heap.objs.size a b la lb) (lt 4 (by decide)) (lt 0 (by decide)) (lt 1 (by decide)) (lt 3 (by decide)) (lt 2 (by decide)) (Nat.lt_trans la (lt 0 (by decide))) (Nat.lt_trans lb (lt 0 (by decide))) hmin hz hTI hTO h1 h2
        (let ⟨o, ho, x⟩ := (show s1.heap.IsTuple a its.toArray from p1); ⟨o, hk _ _ ho, x⟩) (let ⟨o, ho, x⟩ := (show s1.heap.IsTuple b its2.toArray from p2); ⟨o, hk _ _ ho, x⟩) fun h2 acc cc as kp hS hl hG hacc => ?_
      have kp' : ∀ b u, s1.heap.get? b = some u → h2.get? b = some u := fun d u e => by
        have ld := Heap.lt_size e
        exact kp d u (Nat.ne_of_lt (Nat.lt_add_right 4 ld)) (Nat.ne_of_lt (Nat.lt_add_right 3 ld)) (Nat.ne_of_lt ld) (Nat.ne_of_lt (Nat.lt_add_right 1 ld)) (hk _ _ e)
      rw [List.size_toArray, List.size_toArray] at hl
      obtain ⟨H', k1, k2, k3, k4, J⟩ := pairs_laid (s := s1) (p := h'.objs.size) c I1 rv rv2 (by simpa using hmin) kp' (by rw [hsz]; omega) (Nat.lt_succ_self _) hS hl hG hacc
      exact ⟨.ref _, H', J, rfl, q H' _ as k1 k2 k3 k4⟩
end
def zipT : List D → List D → List D
  | x :: xs, y :: ys => .tuple [x, y] :: zipT xs ys
  | _, _ => []
theorem zipT_repL {K : PySem.W.Frag} {O : OS} {H : Hp} : ∀ {ds es : List D} {xs ys : List V} {c : Nat → Bool} {as : List Addr}, RepL K O H xs ds → RepL K O H ys es → (∀ j x y, ds[j]? = some x → es[j]? = some y → c j = pinned [x, y]) → PairsAt H xs ys c as → RepL K O H (as.map V.ref) (zipT ds es)
  | [], es, _, ys, c, as, .nil, q, _, h => by
    have : as = [] := List.eq_nil_of_length_eq_zero (by rw [h.1]; simp)
    subst this
    show RepL K O H [] (zipT [] es)
    cases es <;> exact .nil
  | d :: ds, [], _, _, c, as, .cons _ _, .nil, _, h => by
    have : as = [] := List.eq_nil_of_length_eq_zero (by rw [h.1]; simp)
    subst this
    exact .nil
  | d :: ds, e :: es, _, _, c, as, .cons r t, .cons r' t', hc, h => by
    obtain ⟨h1, h2⟩ := h
    cases as with
    | nil => simp at h1
    | cons a as =>
      obtain ⟨x, y, w, ex, ey, tc, hw⟩ := h2 0 a rfl
      cases ex; cases ey
      rw [hc 0 d e rfl rfl] at tc
      refine .cons (.tup hw tc (.cons r (.cons r' .nil))) (zipT_repL (c := fun j => c (j + 1)) t t' (fun j x y e1 e2 => hc (j + 1) x y e1 e2) ⟨by simpa using h1, fun j b hb => h2 (j + 1) b hb⟩)
def eLZ (ga : FA) : FE := fun ρ T => match ga ρ T with
  | some ([.tuple ds, .tuple es], T1) => some (.list (zipT ds es), T1)
  | _ => none
section
variable {X : Cx} {e e2 : Expr} {ga : FA} {pl pz pos posz : Pos}
theorem sn_listZip (hc : X.calm = true) (hml : X.mg "list" = none) (hmz : X.mg "zip" = none) (ha : SA X [e, e2] ga) (hgl : Gl X "list" := by rfl) (hgz : Gl X "zip" := by rfl)
    (hs : starEach [e, e2] X.env = (false, eval e X.env) :: starEach [e2] X.env := by rfl) (hpl : (backTo posz (starEach [e2] X.env)).any (·.1) = false := by rfl)
    (hs1 : starEach [.Call (.Name "zip" pz) [e, e2] [] posz] X.env = (false, eval (.Call (.Name "zip" pz) [e, e2] [] posz) X.env) :: starEach [] X.env := by rfl) :
    SN X (.Call (.Name "list" pl) [.Call (.Name "zip" pz) [e, e2] [] posz] [] pos) (eLZ ga) := ⟨PE.imp (pe_listZip hc hgl hml hgz hmz ha.pe hs hpl hs1) fun σ H Q ⟨G, B, O, τ, ρ, T, d, T', E, hf, q⟩ => by
  unfold eLZ at hf
  split at hf
  case h_2 => cases hf
  rename_i ds es T1 h1
  cases hf
  refine ⟨G, B, O, τ, ρ, T, _, T', E, h1, fun vs H1 x t r => ?_⟩
  cases r with
  | cons r rr =>
    cases rr with
    | cons r' rr =>
      cases rr
      obtain ⟨a, xs, rfl, hp, rp⟩ := rb_tup (.inl r)
      obtain ⟨b, ys, rfl, hp', rp'⟩ := rb_tup (.inl r')
      refine ⟨a, b, xs, ys, fun j => pinned [ds.getD j .none, es.getD j .none], rfl, .inl hp, .inl hp', fun H' p as kp hn hl hA => ?_⟩
      have E1 := E.step x t
      have gr : Gr H1 H' := fun b o e _ => kp b o e
      have gs : ∀ {K O d v}, Rep K O H1 v d → Rep K (addO O p) H' v d := fun r => r.go gr (fun _ z _ => z.elim) (addO_new hn)
      refine q p H' (new_back E x t hn) (x.tr (gr.mono fun _ z => z.elim)) ?_ (.lst hl (zipT_repL (c := fun j => pinned [ds.getD j .none, es.getD j .none]) (rp.go gr (fun _ z _ => z.elim) (addO_new hn)) (rp'.go gr (fun _ z _ => z.elim) (addO_new hn)) (fun j x y e1 e2 => ?_) hA))
      · intro w e
        obtain ⟨o, c, h1, h2, h3⟩ := t w e
        refine ⟨.inl o, c, kp _ _ h1, fun z => ?_, kp _ _ h3⟩
        rcases z with z | z
        · exact h2 z
        · rw [z, hn] at h3; cases h3
      · rw [List.getD_eq_getElem?_getD, List.getD_eq_getElem?_getD, e1, e2]; rfl⟩
end
end Dv

set_option maxHeartbeats 1000000
/-! Dv35: list(d), sorted(d), sorted(d.items()) of dicts with keys of either kind. -/
namespace Dv
open PySem PySem.Spec PyProof.Rows L2
open PySem.W (alike alikeAll dataLt dataLe AllAlike Sortable EachIs KdlSrc)

/-! ### a dict as its entries -/
/-- keys ks and values ws stand in the dict at a -/
def DV (H : Hp) (a : Addr) (ks ws : List V) : Prop :=
  (∃ kvs : List (Key × V), Rd H a (.dK kvs) ∧ ks = kvs.map (fun p => kV p.1) ∧ ws = kvs.map (·.2)) ∨
  (∃ kvs : List (List Key × V), Rd H a (.dT kvs) ∧ Paired (fun (p : List Key × V) (k : V) => ∃ b, k = .ref b ∧ H b = some (.tup (p.1.map kV))) kvs ks ∧ ws = kvs.map (·.2))
section
variable {X : Cx} {pins : List (Addr × Obj)} {σ : L2.St} {H : Hp} {s : Shared}
theorem pairs_keys {P : Program} {w : World} : ∀ {es : List DictEntry} {vs : List (Key × Value)} {kvs : List (Key × V)}, Pairs (mixKind P w) es vs → KV kvs vs → Vals (kvs.map fun p => kV p.1) (es.map (·.key)) ∧ Vals (kvs.map (·.2)) (es.map (·.val))
  | _, _, _, .nil, .nil => ⟨.nil, .nil⟩
  | _, _, _, .cons (e := e) (kv := kv) h1 h2 t, .cons (a := p) r t' => by
    obtain ⟨a, b⟩ := pairs_keys t t'
    refine ⟨.cons ?_ a, .cons ?_ b⟩
    · show RelV (kV p.1) e.key
      rw [r.1]; exact relV_key h1
    · show RelV p.2 e.val
      rw [h2]; exact r.2
theorem kt_keys {knd : HeapKind X.prog X.w (List Key)} : ∀ {xs : List (List Key × Addr × Value)} {kvs : List (List Key × V)}, KT H kvs xs → Vals (xs.map fun x => V.ref x.2.1) ((xs.map (entryOfKey knd)).map (·.key)) ∧ Vals (kvs.map (·.2)) ((xs.map (entryOfKey knd)).map (·.val)) ∧
    Paired (fun (p : List Key × V) (k : V) => ∃ b, k = .ref b ∧ H b = some (.tup (p.1.map kV))) kvs (xs.map fun x => V.ref x.2.1)
  | _, _, .nil => ⟨.nil, .nil, .nil⟩
  | _, _, .cons r t => by
    obtain ⟨a, b, c⟩ := kt_keys (knd := knd) t
    exact ⟨.cons rfl a, .cons r.2.2 b, .cons ⟨_, rfl, r.2.1⟩ c⟩
/-- the dict's own entries -/
theorem dv_raw (I : Inv X pins σ H s) {a : Addr} (d : IsD H a) : ∃ (ks ws : List V) (en : Array DictEntry) (ep : Nat), DV H a ks ws ∧ s.heap.DictRaw a en ep ∧ (a == sysModules) = false ∧ Vals ks (en.toList.map (·.key)) ∧ Vals ws (en.toList.map (·.val)) ∧ en.size ≤ sizeLine := by
  rcases d with ⟨kvs, e⟩ | ⟨kvs, e⟩
  · obtain ⟨z, hd, vs, rel, o, es, ep, h1, h2, h3, h4, h5, h6⟩ := dk_rd I.hok e
    obtain ⟨q1, q2⟩ := pairs_keys h5 rel
    refine ⟨_, _, es, ep, .inl ⟨kvs, e, rfl, rfl⟩, ⟨o, h1, h2, h3⟩, hd, q1, q2, ?_⟩
    have : kvs.length = es.size := by simpa using q1.length
    omega
  · obtain ⟨z, hd, xs, rel, o, es, ep, h1, h2, h3, h4, h5⟩ := dt_rd I.hok e
    obtain ⟨q1, q2, q3⟩ := kt_keys (X := X) (knd := tupleKind (mixKind X.prog X.w)) rel
    rw [← h4] at q1 q2
    refine ⟨_, _, es, ep, .inr ⟨kvs, e, q3, rfl⟩, ⟨o, h1, h2, h3⟩, hd, q1, q2, ?_⟩
    have : kvs.length = es.size := by simpa using q2.length
    omega
end
section
variable {K : PySem.W.Frag} {O : OS} {H : Hp}
theorem rd_inj {a : Addr} {u v : HO} (h : Rd H a u) (h' : Rd H a v) (nu : ∀ o w, u ≠ .frz o w) (nv : ∀ o w, v ≠ .frz o w) : u = v := by
  rcases h with h | ⟨o, h⟩ <;> rcases h' with h' | ⟨o', h'⟩ <;> rw [h] at h' <;> cases h'
  · rfl
  · exact absurd rfl (nu _ _)
  · exact absurd rfl (nv _ _)
  · rfl
theorem repK_keys : ∀ {es : List (D × D)} {kvs : List (Key × V)}, RepK K O H kvs es → RepL K O H (kvs.map fun p => kV p.1) (es.map (·.1)) ∧ RepL K O H (kvs.map (·.2)) (es.map (·.2))
  | _, _, .nil => ⟨.nil, .nil⟩
  | _, _, .cons r t => let ⟨a, b⟩ := repK_keys t; ⟨.cons (rep_keyD _) a, .cons r b⟩
theorem repT_keys : ∀ {es : List (D × D)} {kvs : List (List Key × V)} {ks : List V}, RepT K O H kvs es → Paired (fun (p : List Key × V) (k : V) => ∃ b, k = .ref b ∧ H b = some (.tup (p.1.map kV))) kvs ks → RepL K O H ks (es.map (·.1)) ∧ RepL K O H (kvs.map (·.2)) (es.map (·.2))
  | _, _, _, .nil, .nil => ⟨.nil, .nil⟩
  | _, _, _, .cons n r t, .cons h t' => by
    obtain ⟨a, b⟩ := repT_keys t t'
    obtain ⟨c, rfl, hc⟩ := h
    exact ⟨.cons (.tup hc (by rw [n]; rfl) (rl_keys _)) a, .cons r b⟩
theorem dv_rep {x : V} {es : List (D × D)} (hk : isK es = false) (r : RepB K O H x (.dict es)) : ∃ a, x = .ref a ∧ IsD H a ∧ ∀ ks ws, DV H a ks ws → RepL K O H ks (es.map (·.1)) ∧ RepL K O H ws (es.map (·.2)) := by
  obtain ⟨p, rfl, ⟨kvs, hp, rp⟩ | ⟨kvs, hp, rp⟩⟩ := rb_dict hk r
  · refine ⟨p, rfl, .inl ⟨kvs, hp⟩, fun ks ws h => ?_⟩
    rcases h with ⟨kvs', hp', rfl, rfl⟩ | ⟨kvs', hp', _⟩
    · cases rd_inj hp hp' (fun _ _ z => by cases z) (fun _ _ z => by cases z)
      exact repK_keys rp
    · cases rd_inj hp hp' (fun _ _ z => by cases z) (fun _ _ z => by cases z)
  · refine ⟨p, rfl, .inr ⟨kvs, hp⟩, fun ks ws h => ?_⟩
    rcases h with ⟨kvs', hp', _⟩ | ⟨kvs', hp', q, rfl⟩
    · cases rd_inj hp hp' (fun _ _ z => by cases z) (fun _ _ z => by cases z)
    · cases rd_inj hp hp' (fun _ _ z => by cases z) (fun _ _ z => by cases z)
      exact repT_keys rp q
end

/-! ### list(d), sorted(d) -/
theorem kdl_raw {prog : Program} {w : World} {d : Addr} {en : Array DictEntry} {ep : Nat} (lo : (d == sysModules) = false) : KdlSrc prog w "dict" d d en.size (fun i v => ∃ hi : i < en.size, v = en[i].key) (fun h => h.DictRaw d en ep) where
  type := fun _ hm => hm.typeIs
  there := fun _ hm => ⟨let ⟨_, ho, _⟩ := hm; Heap.lt_size ho, let ⟨_, ho, _⟩ := hm; Heap.lt_size ho⟩
  keep := fun _ _ hm hk => hm.at fun o e => hk d (.inl rfl) o e
  notList := by decide
  notTuple := by decide
  hint := fun _ _ _ _ hm hq => PySem.W.kdl_hint_dict hm.typeIs hq
  iter := fun _ _ hh hm => ⟨_, _, (fun _ _ hq => wpAny_pyIter_dict_raw lo hm hq), Walks.rawKeys hh _ d (Nat.ne_of_lt (let ⟨_, ho, _⟩ := hm; Heap.lt_size ho)) en ep, ⟨⟨_, Heap.get?_push_size _ rfl, rfl, rfl⟩, hm.at fun o e => Heap.get?_push_of_some _ e⟩⟩
theorem items_keys {en : Array DictEntry} {acc : Array Value} (h : ItemsOf (fun i v => ∃ hi : i < en.size, v = en[i].key) acc en.size) : acc.toList = en.toList.map (·.key) := by
  refine List.ext_getElem? fun j => ?_
  by_cases hj : j < acc.size
  · have e : acc[j]? = some acc[j] := by simp [hj]
    obtain ⟨hi, e2⟩ := h.2 j _ e
    rw [List.getElem?_map, Array.getElem?_toList, Array.getElem?_toList, e, e2]
    simp [hi]
  · have h1 := h.1
    rw [List.getElem?_eq_none (by rw [Array.length_toList]; omega), List.getElem?_eq_none (by rw [List.length_map, Array.length_toList]; omega)]
def rListD : List V → Hp → VK → Prop := fun vs H Q => ∃ a, vs = [.ref a] ∧ IsD H a ∧ ∀ ks ws, DV H a ks ws → ∀ p, H p = none → Q (.ref p) (upd H p (.lst ks))
def rSortK (K : PySem.W.Frag) : List V → Hp → VK → Prop := fun vs H Q => ∃ (a : Addr) (ds : List D), vs = [.ref a] ∧ IsD H a ∧ sortOk ds = true ∧ ∀ ks ws, DV H a ks ws → DpAll K H ks ds ∧ ∀ p, H p = none → Q (.ref p) (upd H p (.lst ((sortP (ks.zip ds)).map (·.1))))
theorem dpAll_len {K : PySem.W.Frag} {H : Hp} : ∀ {xs : List V} {ds : List D}, DpAll K H xs ds → xs.length = ds.length
  | _, _, .nil => rfl
  | _, _, .cons _ t => congrArg (· + 1) (dpAll_len t)
section
variable {X : Cx}
theorem call_listD (hc : X.calm = true) : CallR X (.type "list") rListD := by
  intro pins s σ H vs us Q I r h
  obtain ⟨a, rfl, d, q⟩ := h
  obtain ⟨u, rfl, ru⟩ := vals1 r
  cases ru
  obtain ⟨ks, ws, en, ep, dv, raw, lo, rk, rw', hz⟩ := dv_raw I d
  refine PySem.W.kdl_call (kdl_raw lo) (I.ok.hd hc) raw hz fun h' tk acc c k hS hacc => ?_
  have e := items_keys hacc
  refine ⟨.ref s.heap.objs.size, _, I.laid (t' := tk) (o := .lst ks) k (Nat.le_refl _) ⟨?_, acc.toList, c, by rw [e]; exact rk, by rw [Array.toArray_toList]; exact hS⟩, rfl, q ks ws dv _ (I.hok.fresh (Nat.le_refl _))⟩
  have : ks.length = en.size := by simpa using rk.length
  omega
theorem sortP_len (ps : List (V × D)) : (sortP ps).length = ps.length := List.length_mergeSort ps
/-- what has been gathered, sorted -/
theorem sort_gathered {pins : List (Addr × Obj)} {s : Shared} {σ : L2.St} {H H1 : Hp} {h' : Heap} {tk : Nat} {Q : VK} {E : Value → Shared → Prop} {A : Around} (I : Inv X pins σ H s) (I1 : Inv X pins σ H1 { s with heap := h', toks := tk }) (kp : ∀ b o, H b = some o → H1 b = some o) {ks : List V} {ds : List D} {us : List Value} (rk : Vals ks us) (dp : DpAll X.K H1 ks ds) (ok : sortOk ds = true) (hu : A.units + 12 < cLine)
    (q : ∀ p H2, H p = none → H1 p = none → H2 = upd H1 p (.lst ((sortP (ks.zip ds)).map (·.1))) → Q (.ref p) H2) :
    wpAny (model X.prog X.w) A (call (.builtin "list.sort") [.ref h'.objs.size]) (fun _ s' => ∃ v H', Inv X pins σ H' s' ∧ RelV v (.ref h'.objs.size) ∧ Q v H') E { s with heap := h'.push { cls := .type "list", data := .seq us.toArray }, toks := tk } := by
  obtain ⟨hz, h8, hal, hso⟩ := sortOk_alike ok
  have hl := dpAll_len dp
  have hzip : (ks.zip ds).map (·.2) = ds := zip_snd hl
  have hlen : (ks.zip ds).length = ds.length := by rw [← hzip, List.length_map, hzip]
  have ho : (h'.push { cls := .type "list", data := .seq us.toArray }).get? h'.objs.size = some (seqObj "list" us.toArray 0) := Heap.get?_push_size _ rfl
  have er : EachIs (fun (u : Value) (p : V × D) => ∃ as, Reads (h'.push { cls := .type "list", data := .seq us.toArray }) u p.2 as ∧ h'.objs.size ∉ as) us (ks.zip ds) := (each_reads I1 dp rk h8).mono fun u p ⟨as, q, e⟩ => ⟨as, PyProof.Rows.Reads.keeps (fun b o e => Heap.get?_push_of_some _ e) q, by rw [e]; exact fun z => nomatch z⟩
  refine PySem.W.list_sort_data (s := { s with heap := h'.push { cls := .type "list", data := .seq us.toArray }, toks := tk }) (bs := ks.zip ds) (enc := fun p : V × D => p.2) (R := fun (u : Value) (p : V × D) => RelV p.1 u) ho (vals_map rk hl) er (by rw [hzip]; exact hal) (by rw [hzip]; exact hso) (by rw [hlen]; exact hz) (fun p hp => ?_) fun out hlo hout => ?_
  · have : p.2 ∈ ds := by rw [← hzip]; exact List.mem_map.mpr ⟨p, hp, rfl⟩
    have := sOk_depth 8 _ (sOkL_mem h8 _ this)
    show A.units + 1 + PyData.depth p.2 < cLine
    omega
  · obtain ⟨e, he⟩ := sortedHeap_at (out := List.toArray out) ho
    have hn1 : H1 h'.objs.size = none := I1.hok.fresh (Nat.le_refl _)
    have hn0 : H h'.objs.size = none := by
      cases e : H h'.objs.size with
      | none => rfl
      | some u => rw [kp _ _ e] at hn1; cases hn1
    refine ⟨.ref h'.objs.size, _, I1.laid (h' := sortedHeap (h'.push { cls := .type "list", data := .seq us.toArray }) h'.objs.size us (List.toArray out)) (t' := tk) (o := .lst ((sortP (ks.zip ds)).map (·.1))) (fun b u e => ?_) (Nat.le_refl _) ⟨?_, out, e, each_vals hout, he⟩, rfl, q _ _ hn0 hn1 rfl⟩
    · have hb : b < h'.objs.size := Heap.lt_size e
      rw [sortedHeap_old (Nat.ne_of_lt hb) (by rw [Heap.size_push]; exact Nat.lt_succ_of_lt hb)]
      exact Heap.get?_push_of_some _ e
    · rw [List.length_map, sortP_len, hlen]; exact hz
theorem cr_sortK (hc : X.calm = true) (hu : X.A.units + 16 < cLine) : CallR X (.builtin "sorted") (rSortK X.K) := by
  intro pins s σ H vs us Q I r h
  obtain ⟨a, ds, rfl, d, ok, q⟩ := h
  obtain ⟨u, rfl, ru⟩ := vals1 r
  cases ru
  obtain ⟨ks, ws, en, ep, dv, raw, lo, rk, rw', hz⟩ := dv_raw I d
  obtain ⟨dp, q⟩ := q ks ws dv
  refine Calls.call_function_entry kind_sorted plain_sorted entry_sorted (args_sorted1 _) ?_
  unfold Builtin.«sorted»
  refine wpAny_bind (m := checkCount "sorted" 1 1 _) (wpAny_pure ?_)
  refine wpAny_bind (PySem.W.kdu_collect (A := X.A.in1) (kdl_raw lo) (I.ok.hd hc) raw hz fun h' tk acc hk hacc => ?_)
  have e := items_keys hacc
  have rk' : Vals ks acc.toList := by rw [e]; exact rk
  refine wpAny_bind (wpAny_newList ?_ (by rw [e, List.length_map, Array.length_toList]; exact hz))
  have I1 : Inv X pins σ H { s with heap := h', toks := tk } := I.kept hk
  refine wpAny_bind (wpAny_holding (wpAny_mono (sort_gathered (A := X.A.in1) (Q := Q) I I1 (fun _ _ e => e) rk' dp ok (by show X.A.units + 1 + 12 < cLine; omega) fun p H2 h1 _ e2 => by rw [e2]; exact q p h1) (fun _ s' x => ?_) fun _ _ e => e))
  exact wpAny_pure ⟨_, rfl, x⟩

/-! ### sorted(d.items()) -/
def rSortI2 (K : PySem.W.Frag) : V → Hp → VK → Prop := fun x H Q => ∃ (a : Addr) (kd vd : List D), x = .ref a ∧ IsD H a ∧ kd.length = vd.length ∧ sortOk (zipT kd vd) = true ∧ ∀ ks ws, DV H a ks ws → DpAll K H ks kd ∧ DpAll K H ws vd ∧
  ∀ (H1 : Hp) (as : List Addr) (p : Addr), (∀ b o, H b = some o → H1 b = some o) → PairsAt H1 ks ws (fun j => pinned [kd.getD j .none, vd.getD j .none]) as → H p = none → H1 p = none → Q (.ref p) (upd H1 p (.lst ((sortP ((as.map V.ref).zip (zipT kd vd))).map (·.1))))
def tSortI (K : PySem.W.Frag) (te : TE) : TE := fun σ H Q => te σ H fun x H1 => rSortI2 K x H1 Q
end
theorem dp_gw {K : PySem.W.Frag} {H H' : Hp} (k : ∀ b o, H b = some o → H' b = some o) : ∀ {d : D} {v : V}, Dp K H v d → Dp K H' v d := by
  have sq : ∀ {a xs}, SqT K H a xs → SqT K H' a xs := fun h => by
    rcases h with h | h
    · rcases h with h | ⟨o, h⟩
      · exact .inl (.inl (k _ _ h))
      · exact .inl (.inr ⟨o, k _ _ h⟩)
    · exact .inr h
  have sl : ∀ {a xs}, SqL K H a xs → SqL K H' a xs := fun h => by
    rcases h with h | h
    · rcases h with h | ⟨o, h⟩
      · exact .inl (.inl (k _ _ h))
      · exact .inl (.inr ⟨o, k _ _ h⟩)
    · exact .inr h
  intro d v h
  exact Dp.rec (motive_1 := fun v d _ => Dp K H' v d) (motive_2 := fun vs ds _ => DpAll K H' vs ds) .non .bl .int .str (fun h _ ih => .lst (sl h) ih) (fun h _ ih => .tup (sq h) ih) .nil (fun _ _ a b => .cons a b) h
theorem dpAll_gw {K : PySem.W.Frag} {H H' : Hp} (k : ∀ b o, H b = some o → H' b = some o) : ∀ {ds : List D} {vs : List V}, DpAll K H vs ds → DpAll K H' vs ds
  | [], _, .nil => .nil
  | _ :: _, _, .cons a t => .cons (dp_gw k a) (dpAll_gw k t)
theorem zipT_dp {K : PySem.W.Frag} {H : Hp} : ∀ {kd vd : List D} {ks ws : List V} {c : Nat → Bool} {as : List Addr}, DpAll K H ks kd → DpAll K H ws vd → PairsAt H ks ws c as → DpAll K H (as.map V.ref) (zipT kd vd)
  | [], vd, _, ws, c, as, .nil, q, h => by
    have : as = [] := List.eq_nil_of_length_eq_zero (by rw [h.1]; simp)
    subst this
    show DpAll K H [] (zipT [] vd)
    cases vd <;> exact .nil
  | d :: ds, [], _, _, c, as, .cons _ _, .nil, h => by
    have : as = [] := List.eq_nil_of_length_eq_zero (by rw [h.1]; simp)
    subst this
    exact .nil
  | d :: ds, e :: es, _, _, c, as, .cons r t, .cons r' t', h => by
    obtain ⟨h1, h2⟩ := h
    cases as with
    | nil => simp at h1
    | cons a as =>
      obtain ⟨x, y, w, ex, ey, tc, hw⟩ := h2 0 a rfl
      cases ex; cases ey
      exact .cons (.tup (.inl (tc.rd hw)) (.cons r (.cons r' .nil))) (zipT_dp (c := fun j => c (j + 1)) t t' ⟨by simpa using h1, fun j b hb => h2 (j + 1) b hb⟩)
section
variable {X : Cx} {e : Expr} {te : TE} {p apos cpos pos : Pos}
theorem pe_sortItems (hc : X.calm = true) (hu : X.A.units + 16 < cLine) (he : PE X e te) (hg : Gl X "sorted") (hm : X.mg "sorted" = none) (hv : bootBuiltins "sorted" = some (.builtin "sorted")) (hbase : attributeBase e "items" X.env (eval e X.env) = eval e X.env := by rfl) (hline : (apos.endLine == cpos.line) = true := by rfl)
    (hs : starEach [.Call (.Attribute e "items" apos) [] [] cpos] X.env = (false, eval (.Call (.Attribute e "items" apos) [] [] cpos) X.env) :: starEach [] X.env := by rfl) :
    PE X (.Call (.Name "sorted" p) [.Call (.Attribute e "items" apos) [] [] cpos] [] pos) (tSortI X.K te) := by
  refine ⟨fun pins s σ H Q I hq => ?_⟩
  refine wpAny_Call_Name_kw (ld_blt I hg hm hv ?_)
  rw [hs]
  refine Calls.callWith_builtin rfl (Calls.evalArgs_plain (Calls.spliced_cons ?_))
  refine wpAny_Call_method (T := "dict") (id := "dict.items") hbase rfl hline F.plainAttrs_dict F.slot_dict_items F.type_dict_items (thn (he.run pins s σ H _ I hq) fun u s1 ⟨x, H1, I1, rx, a, kd, vd, ex, d, hlen, ok, q⟩ => ?_)
  subst ex
  obtain rfl : u = Value.ref a := rx
  obtain ⟨ks, ws, en, ep, dv, raw, lo, rk, rw', hz⟩ := dv_raw I1 d
  obtain ⟨dp, dp2, q⟩ := q ks ws dv
  have I2 : Inv X pins σ H1 { s1 with heap := s1.heap.push { cls := .type "dict_items", data := .fields #[.ref a] } } := I1.kept (t' := s1.toks) fun b ob q => Heap.get?_push_of_some _ q
  refine ⟨raw.typeIs, (fun b hb => by cases hb; obtain ⟨o, ho, hx, _⟩ := raw; exact ⟨o, ho, hx.2.1⟩), ?_⟩
  show wpAny _ _ (callWith cpos (.builtin "dict.items") [.ref a] [] []) _ X.xe s1
  refine method_meetsIn F.slot_dict_items F.entry_dict_items rfl (PySem.evalArgs_none ⟨rfl, raw.typeIs, F.args_dict_items_1 _, _, DT.meetsItems (es := en) (ep := ep) lo, raw, ?_⟩)
  refine Calls.spliced_nil ?_
  refine DT.sortedI (s := { s1 with heap := s1.heap.push { cls := .type "dict_items", data := .fields #[.ref a] } }) (es := en) (ep := ep) (I1.ok.hd hc) ⟨_, Heap.get?_push_size _ rfl, rfl, rfl⟩ (DT.Raw.push raw _) hz fun h' tk as hk hlt hl hG => ?_
  have kk : ∀ b o, s1.heap.get? b = some o → h'.get? b = some o := fun b o e => hk b o (Heap.get?_push_of_some _ e)
  have l1 : ks.length = en.size := by simpa using rk.length
  have l2 : ws.length = en.size := by simpa using rw'.length
  -- the pairs are tracked
  have nd : as.Nodup := List.Pairwise.imp (fun {a b} (h : a < b) => Nat.ne_of_lt h) hG.rise
  let L : List (Addr × V × V × Bool) := (List.range as.length).map fun j => (as.getD j 0, ks.getD j .non, ws.getD j .non, pinned [kd.getD j .none, vd.getD j .none])
  have hLa : L.map (·.1) = as := by
    refine List.ext_getElem? fun j => ?_
    show ((List.map _ (List.map _ (List.range as.length))))[j]? = _
    rw [List.map_map, List.getElem?_map]
    by_cases hj : j < as.length
    · rw [List.getElem?_range hj]
      show some (as.getD j 0) = _
      rw [List.getD_eq_getElem?_getD, List.getElem?_eq_getElem hj]; rfl
    · rw [List.getElem?_eq_none (by rw [List.length_range]; omega), List.getElem?_eq_none (by omega)]; rfl
  have at_ : ∀ j, j < as.length → ∃ a x y u v, as[j]? = some a ∧ ks[j]? = some x ∧ ws[j]? = some y ∧ RelV x u ∧ RelV y v ∧ h'.get? a = some { cls := .type "tuple", data := .seq #[u, v] } := fun j hj => by
    have ea : as[j]? = some as[j] := List.getElem?_eq_getElem hj
    obtain ⟨en', e1, e3⟩ := hG.pairs j _ ea
    have ex : ks[j]? = some ks[j] := List.getElem?_eq_getElem (by omega)
    have ey : ws[j]? = some ws[j] := List.getElem?_eq_getElem (by omega)
    obtain ⟨u', q1, r1⟩ := rk.get ex
    obtain ⟨v', q2, r2⟩ := rw'.get ey
    rw [List.getElem?_map, Array.getElem?_toList, e1] at q1 q2
    cases q1; cases q2
    exact ⟨_, _, _, _, _, ea, ex, ey, r1, r2, e3⟩
  have I3 : Inv X pins σ H1 { s1 with heap := h', toks := tk } := I1.kept kk
  obtain ⟨H2, I4, g, qq⟩ := takeP (tk := tk) I1 L _ I3 (by rw [hLa]; exact nd) fun e he => by
    obtain ⟨j, hj, rfl⟩ := List.mem_map.mp he
    obtain ⟨a, x, y, u, v, ea, ex, ey, r1, r2, e3⟩ := at_ j (List.mem_range.mp hj)
    have g1 : as.getD j 0 = a := by rw [List.getD_eq_getElem?_getD, ea]; rfl
    have g2 : ks.getD j .non = x := by rw [List.getD_eq_getElem?_getD, ex]; rfl
    have g3 : ws.getD j .non = y := by rw [List.getD_eq_getElem?_getD, ey]; rfl
    have la := hG.above a (List.mem_of_getElem? ea)
    have sa : s1.heap.objs.size ≤ a := by
      have : (s1.heap.push { cls := .type "dict_items", data := .fields #[.ref a] }).objs.size = s1.heap.objs.size + 1 := Heap.size_push ..
      refine Nat.le_of_lt (Nat.lt_of_le_of_lt ?_ la)
      show s1.heap.objs.size ≤ (s1.heap.push _).objs.size
      rw [Heap.size_push]; exact Nat.le_succ _
    dsimp only
    rw [g1, g2, g3]
    exact ⟨sa, I1.hok.fresh sa, u, v, r1, r2, e3⟩
  have hA : PairsAt H2 ks ws (fun j => pinned [kd.getD j .none, vd.getD j .none]) as := ⟨by rw [hl]; omega, fun j a ea => by
    have hj : j < as.length := (List.getElem?_eq_some_iff.mp ea).1
    obtain ⟨a', x, y, u, v, ea', ex, ey, _⟩ := at_ j hj
    rw [ea] at ea'; cases ea'
    obtain ⟨w, tc, hw⟩ := qq _ (List.mem_map.mpr ⟨j, List.mem_range.mpr hj, rfl⟩)
    have g1 : as.getD j 0 = a := by rw [List.getD_eq_getElem?_getD, ea]; rfl
    have g2 : ks.getD j .non = x := by rw [List.getD_eq_getElem?_getD, ex]; rfl
    have g3 : ws.getD j .non = y := by rw [List.getD_eq_getElem?_getD, ey]; rfl
    dsimp only at tc hw
    rw [g1] at hw
    rw [g2, g3] at tc
    exact ⟨x, y, w, ex, ey, tc, hw⟩⟩
  exact sort_gathered (A := X.A.in1) (Q := Q) I1 I4 g (LiI.vals_refs as) (zipT_dp (dpAll_gw g dp) (dpAll_gw g dp2) hA) ok (by show X.A.units + 1 + 12 < cLine; omega) fun p H3 h1 h2 e3 => by rw [e3]; exact q H2 as p g hA h1 h2
end
end Dv

/-! Dv36: by values: list, sorted of lists and dicts; sorted(d.items()); xs * n. -/
namespace Dv
open PySem PySem.Spec PyProof.Rows L2
open PySem.W (dataLt)

def qListDict (d : D) : Option D := match d with
  | .dict es => match isK es with
    | true => none
    | false => some (.list (es.map (·.1)))
  | _ => none
def qList2 : List D → Option D := fun x => (qList x).or (q1 qListDict x)
def qSortKD (d : D) : Option D := match d with
  | .dict es => match isK es with
    | true => none
    | false => if sortOk (es.map (·.1)) then some (.list (sortB dataLt (es.map (·.1)))) else none
  | _ => none
def qSort2 : List D → Option D := fun x => (q1 qSortD x).or (q1 qSortKD x)
theorem dk_sdp {K : PySem.W.Frag} {O : OS} {H : Hp} {ks : List V} {ds : List D} (r : RepL K O H ks ds) (ok : sortOk ds = true) : DpAll K H ks ds := r.sdp (sortOk_alike ok).2.1
theorem rep_sorted {K : PySem.W.Frag} {O : OS} {H H' : Hp} {ks : List V} {ds : List D} {p : Addr} (hp : H p = none) (g : Gr H H') (r : RepL K O H ks ds) : RepL K (addO O p) H' ((sortP (ks.zip ds)).map (·.1)) (sortB dataLt ds) := by
  have := repL_of (K := K) (O := addO O p) (H := H') (ps := sortP (ks.zip ds)) fun w hw => (repL_zip r w (sortP_mem hw)).go g (fun _ z _ => z.elim) (addO_new hp)
  rw [sortP_snd, zip_snd r.length] at this
  exact this
section
variable {X : Cx} {e e2 : Expr} {es : List Expr} {ga : FA} {fa fb : FE} {p pos apos cpos : Pos} {kk : Nat}
theorem onn_listD : OpNN X.K rListD (q1 qListDict) := onn1 fun O H v x d Q hd rv hx q => by
  unfold qListDict at hx
  split at hx
  case h_2 => cases hx
  split at hx
  · cases hx
  rename_i hk
  cases hx
  obtain ⟨a, rfl, isd, hr⟩ := dv_rep hk rv
  exact ⟨a, rfl, isd, fun ks ws dv p hp => q p _ hp (.lst upd_same ((hr ks ws dv).1.go (Gr.new hp) (fun _ z _ => z.elim) (addO_new hp)))⟩
theorem onn_sortKD : OpNN X.K (rSortK X.K) (q1 qSortKD) := onn1 fun O H v x d Q hd rv hx q => by
  unfold qSortKD at hx
  split at hx
  case h_2 => cases hx
  rename_i es
  split at hx
  · cases hx
  rename_i hk
  split at hx
  case isFalse => cases hx
  rename_i ok
  cases hx
  obtain ⟨a, rfl, isd, hr⟩ := dv_rep hk rv
  refine ⟨a, _, rfl, isd, ok, fun ks ws dv => ?_⟩
  obtain ⟨r1, _⟩ := hr ks ws dv
  exact ⟨dk_sdp r1 ok, fun p hp => q p _ hp (.lst upd_same (rep_sorted hp (Gr.new hp) r1))⟩
theorem onn_list : OpNN X.K (fun xs H Q => ∃ p ys, xs = [.ref p] ∧ (SqL X.K H p ys ∨ SqT X.K H p ys) ∧ ∀ l, H l = none → Q (.ref l) (upd H l (.lst ys))) qList := onn1 fun O H v x d Q hd rv hx q => by
  split at hx
  · cases hx
    obtain ⟨p, xs, rfl, hp, rp⟩ := rb_list rv
    exact ⟨p, xs, rfl, .inl (.of hp), fun l hl => q _ _ hl (.lst upd_same (rl_new hl rp))⟩
  · cases hx
    obtain ⟨p, xs, rfl, hp, rp⟩ := rb_tup rv
    exact ⟨p, xs, rfl, .inr (.inl hp), fun l hl => q _ _ hl (.lst upd_same (rl_new hl rp))⟩
  · cases hx
theorem sn_list2 (hc : X.calm = true) (hm : X.mg "list" = none) (ha : SAB X (e :: es) ga) (hg : Gl X "list" := by rfl) (he : starEach (e :: es) X.env = (false, eval e X.env) :: starEach es X.env := by rfl) (hpl : (backTo pos (starEach es X.env)).any (·.1) = false := by rfl) : SN X (.Call (.Name "list" p) (e :: es) [] pos) (eCall qList2 ga) :=
  sn_callTy (call_list_of.or (call_listD hc)) (onn_list.or onn_listD) hm ha (by decide +kernel) hg (by decide) (by decide) he hpl
def qSortAll : List D → Option D := fun x => (qSortedF x).or (qSort2 x)
theorem sn_sortAll (hc : X.calm = true) (hr : Room kk X.A) (hm : X.mg "sorted" = none) (ha : SAB X (e :: es) ga) (hg : Gl X "sorted" := by rfl) (he : starEach (e :: es) X.env = (false, eval e X.env) :: starEach es X.env := by rfl) (hpl : (backTo pos (starEach es X.env)).any (·.1) = false := by rfl) : SN X (.Call (.Name "sorted" p) (e :: es) [] pos) (eCall qSortAll ga) :=
  sn_callB ((((call_sortedD hc).or (call_sortedDI hc)).or (cr_sorted.or cr_sortedS)).or ((cr_sortD (by have := hr.units; omega)).or (cr_sortK hc (by have := hr.units; omega)))) (on_sorted.or (onn_sortD.or onn_sortKD)) hm ha (by decide +kernel) hg (by decide) (by decide) he hpl
/-- sorted(d.items()) -/
def pairUp (es : List (D × D)) : List D := es.map fun p => .tuple [p.1, p.2]
theorem pairUp_zip : ∀ es : List (D × D), zipT (es.map (·.1)) (es.map (·.2)) = pairUp es
  | [] => rfl
  | e :: r => by
    show PyData.tuple [e.1, e.2] :: zipT (r.map (·.1)) (r.map (·.2)) = .tuple [e.1, e.2] :: pairUp r
    rw [pairUp_zip r]
def eSortI (fa : FE) : FE := fun ρ T => match fa ρ T with
  | some (.dict es, T1) => match isK es with
    | true => none
    | false => if sortOk (pairUp es) then (if sOkL 8 (es.map (·.1)) && sOkL 8 (es.map (·.2)) then some (.list (sortB dataLt (pairUp es)), T1) else none) else none
  | _ => none
theorem sn_sortItems (hc : X.calm = true) (hr : Room kk X.A) (hm : X.mg "sorted" = none) (h : SB X e fa) (hg : Gl X "sorted" := by rfl) (hbase : attributeBase e "items" X.env (eval e X.env) = eval e X.env := by rfl) (hline : (apos.endLine == cpos.line) = true := by rfl)
    (hs : starEach [.Call (.Attribute e "items" apos) [] [] cpos] X.env = (false, eval (.Call (.Attribute e "items" apos) [] [] cpos) X.env) :: starEach [] X.env := by rfl) :
    SN X (.Call (.Name "sorted" p) [.Call (.Attribute e "items" apos) [] [] cpos] [] pos) (eSortI fa) := ⟨PE.imp (pe_sortItems hc (by have := hr.units; omega) h.pe hg hm (by decide +kernel) hbase hline hs) fun σ H Q ⟨G, B, O, τ, ρ, T, d, T', E, hf, q⟩ => by
  unfold eSortI at hf
  split at hf
  case h_2 => cases hf
  rename_i es T1 h1
  split at hf
  · cases hf
  rename_i hk
  split at hf
  case isFalse => cases hf
  rename_i ok
  split at hf
  case isFalse => cases hf
  rename_i ok2
  cases hf
  rw [Bool.and_eq_true] at ok2
  refine ⟨G, B, O, τ, ρ, T, _, T', E, h1, fun v H1 x t r => ?_⟩
  have E1 := E.step x t
  obtain ⟨a, rfl, isd, hr⟩ := dv_rep hk r.b
  refine ⟨a, es.map (·.1), es.map (·.2), rfl, isd, by rw [List.length_map, List.length_map], by rw [pairUp_zip]; exact ok, fun ks ws dv => ?_⟩
  obtain ⟨r1, r2⟩ := hr ks ws dv
  refine ⟨r1.sdp ok2.1, r2.sdp ok2.2, fun H2 as p kp hA hp1 hp2 => ?_⟩
  have gr : Gr H1 H2 := fun b o e _ => kp b o e
  have gr2 : Gr H1 (upd H2 p (.lst ((sortP ((as.map V.ref).zip (zipT (es.map (·.1)) (es.map (·.2))))).map (·.1)))) := gr.tr (Gr.new hp2)
  have rz : RepL X.K O H2 (as.map V.ref) (zipT (es.map (·.1)) (es.map (·.2))) := zipT_repL (c := fun j => pinned [(es.map (·.1)).getD j .none, (es.map (·.2)).getD j .none]) (r1.go gr (fun _ z _ => z.elim) fun _ z => .inl z) (r2.go gr (fun _ z _ => z.elim) fun _ z => .inl z) (fun j x y e1 e2 => by rw [List.getD_eq_getElem?_getD, List.getD_eq_getElem?_getD, e1, e2]; rfl) hA
  have np : ¬ O p := fun z => E1.dom p z hp1
  refine q p _ (new_back E x t hp1) (x.tr (gr2.mono fun _ z => z.elim)) ?_ (.lst upd_same ?_)
  · intro w e
    obtain ⟨o, c, h1, h2, h3⟩ := t w e
    refine ⟨.inl o, c, gr2 _ _ h1 (.inl id), fun z => ?_, gr2 _ _ h3 (.inl id)⟩
    rcases z with z | z
    · exact h2 z
    · rw [z, hp1] at h3; cases h3
  · have := rep_sorted (O := O) hp2 (Gr.new hp2 (o := .lst ((sortP ((as.map V.ref).zip (zipT (es.map (·.1)) (es.map (·.2))))).map (·.1)))) rz
    rw [pairUp_zip] at this ⊢
    exact this⟩
/-- d[k] -/
theorem se_atD {a b : Expr} (hr : Room kk X.A) (ha : SB X a fa) (hb : SB X b fb) (hn : NoSl b := by intro _ _; rfl) : SE X (.Subscript a b pos) (Dv.e2 qDAt fa fb) := ⟨PE.imp (pe_dget (by have := hr.units; omega) ha.pe hb.pe hn) (tOp_of o2_dget)⟩
/-- xs * n: a new list -/
def qRep (x y : D) : Option D := match x, y with
  | .list ds, .int n => if decide (0 ≤ n) && decide (n < 1073741824) && (ds.length * n.toNat).ble line24 then some (.list ((List.replicate n.toNat ds).flatten)) else none
  | _, _ => none
theorem rl_rep {K : PySem.W.Frag} {O : OS} {H : Hp} {xs : List V} {ds : List D} (r : RepL K O H xs ds) : ∀ n : Nat, RepL K O H (List.replicate n xs).flatten (List.replicate n ds).flatten
  | 0 => .nil
  | n + 1 => by
    rw [List.replicate_succ, List.replicate_succ, List.flatten_cons, List.flatten_cons]
    exact rl_append r (rl_rep r n)
theorem o2_rep {K : PySem.W.Frag} : Op2N K rRep qRep := by
  intro O H x y dx dy d Q _ rx ry hg q
  unfold qRep at hg
  split at hg
  · split at hg
    · rename_i c
      cases hg
      rw [Bool.and_eq_true, Bool.and_eq_true, decide_eq_true_eq, decide_eq_true_eq] at c
      obtain ⟨p, xs, rfl, hp, rp⟩ := rb_list rx
      refine ⟨p, _, xs, rfl, rb_int ry, hp, by omega, by omega, by rw [line24_eq, rp.length]; exact Nat.le_of_ble_eq_true c.2, fun l hl => q l _ hl ?_⟩
      exact .lst upd_same ((rl_rep rp _).go (Gr.new hl) (fun _ z _ => z.elim) (addO_new hl))
    · cases hg
  · cases hg
theorem sn_rep {a b : Expr} (ha : SB X a fa) (hb : SB X b fb) : SN X (.BinOp a .Mult b pos) (Dv.e2 qRep fa fb) := sn_op op_rep o2_rep ha hb
end
end Dv

/-! x = {k: v for ..} where the interpreter stores straight from the comprehension's block. -/
set_option pp.maxSteps 200
namespace Dv
open PySem PySem.Spec PyProof.Rows L2
section
variable {X : Cx}
abbrev ForG (X : Cx) (scope : Scope) (tg : Expr) (g : TG) : Prop := ∀ s H C cl fp, PG (X.blk s H scope (compEnvC scope cl C X.env) fp) tg g
theorem swap_dc {kx vx : Expr} {gs : List Comprehension} {scope : Scope} {pos py : Pos} {y : Str} {l : Nat} {env : Env} (a : env.scope.kind = .function) (b : env.scope.names.lookup y = some .local) (c : (py.line == pos.line) = true) (d : (scope.names.any fun (n, k) => n == y && (k == .local || k == .cell)) = false) :
    swapsWith (.DictComp kx vx gs scope pos) (some (.Name y py)) l env = pure true := by
  have e1 : env.blockKind = .function := by simp only [Env.blockKind, a]; rfl
  have e2 : env.kindOf y = some .local := b
  simp only [swapsWith, e1, e2, d, Expr.pos, c]
  rfl
theorem ps_putDc {i : Nat} {y : Str} {py : Pos} {kx vx tg iter : Expr} {ifs : List Expr} {scope : Scope} {own : List (Str × Nat)} {pos spos : Pos} {wi : TI} {g : TG} {tt : TT} {tk tv : TE} (hc : X.calm = true) (nd : X.N.Nodup) (at' : X.N[i]? = some y) (lc : X.env.scope.names.lookup y = some .local)
    (hsw : swapsWith (.DictComp kx vx [⟨tg, iter, ifs, 0⟩] scope pos) (some (.Name y py)) spos.line X.env = pure true) (pi : PI X tg iter wi) (ok : BlkOk X.N X.env.scope scope own)
    (pg : ForG X scope tg g) (pt : ∀ s H C cl fp, PTs (X.blk s H scope (compEnvC scope cl C X.env) fp) ifs tt)
    (pk : ∀ s H C cl fp, PE (X.blk s H scope (compEnvC scope cl C X.env) fp) kx tk) (pv : ∀ s H C cl fp, PE (X.blk s H scope (compEnvC scope cl C X.env) fp) vx tv) (hs : ∀ x, foldedSetIterable iter X.env x = pure x) :
    PS X (.Assign [.Name y py] (.DictComp kx vx [⟨tg, iter, ifs, 0⟩] scope pos) spos) (tAsg (tDc wi g tt tk tv (own.map (·.2))) (gName i)) := by
  constructor
  intro pins s σ H D I h
  rw [exec_Assign_Name_used _ _ _ _ hsw]
  refine wpAny_bind (wpAny_standAt (wpAny_bind ?_))
  show wpAny _ X.A (do let _ ← comprehension (.DictComp kx vx [⟨tg, iter, ifs, 0⟩] scope pos) scope X.env (firstIterPos [⟨tg, iter, ifs, 0⟩] pos) newDict false (eval iter X.env) (some (assign (.Name y py) X.env))) _ _ s
  have core := dc_core (pos := pos) (Qf := fun _ s2 => SP X pins D .next s2) (pos' := firstIterPos [⟨tg, iter, ifs, 0⟩] pos) (use := some (assign (.Name y py) X.env)) hc nd I pi ok pg pt pk pv hs (Q := fun x H1 => gName i x σ H1 D.nx) h
  refine wpAny_bind (thn (core ?_) fun _ s2 z => wpAny_pure (wpAny_pure z))
  intro L C s1 m H1 I1 q hn f
  show wpAny _ _ (assign (.Name y py) X.env (.ref L)) _ _ _
  refine wpAny_assign_Name (store_ok2 (v := V.ref L) I1 nd at' (.inl lc) rfl (fun s2 I2 w => ?_) (.inr lc))
  obtain ⟨a, sb, ha⟩ := w
  have ne : C ≠ a := by
    rcases ha with z | z
    · exact z ▸ f.2.1
    · intro e
      exact f.2.2.2.2.1 y a z e.symm
  exact ⟨m, hn.sameBut sb ne, fun h3 sb3 => ⟨_, H1, I2.turned (t' := s2.toks) (fun b o hb e => by rw [sb3.2 b hb]; exact e) f.1 f.2.1 f.2.2.2.1 f.2.2.2.2.1 f.2.2.2.2.2, q⟩⟩
theorem ss_newDc {i : Nat} {y : Str} {py : Pos} {kx vx tg iter : Expr} {ifs : List Expr} {scope : Scope} {own : List (Str × Nat)} {pos spos : Pos} {fi : FI} {g : FG} {ft : FT} {fk fv : FE} {ws : List Nat} (hc : X.calm = true) (hN : X.N.Nodup) (hi : SI X tg iter fi) (ok : BlkOk X.N X.env.scope scope own)
    (hg : ∀ (s : Shared) (H : Hp) (C : Addr) (cl : List (Str × Addr)) (fp : List Addr), SG (X.blk s H scope (compEnvC scope cl C X.env) fp) tg ws g) (ht : ∀ (s : Shared) (H : Hp) (C : Addr) (cl : List (Str × Addr)) (fp : List Addr), STs (X.blk s H scope (compEnvC scope cl C X.env) fp) ifs ft)
    (hk : ∀ (s : Shared) (H : Hp) (C : Addr) (cl : List (Str × Addr)) (fp : List Addr), SE (X.blk s H scope (compEnvC scope cl C X.env) fp) kx fk) (he : ∀ (s : Shared) (H : Hp) (C : Addr) (cl : List (Str × Addr)) (fp : List Addr), SE (X.blk s H scope (compEnvC scope cl C X.env) fp) vx fv)
    (hsw : swapsWith (.DictComp kx vx [⟨tg, iter, ifs, 0⟩] scope pos) (some (.Name y py)) spos.line X.env = pure true := by exact swap_dc rfl rfl rfl (by decide +kernel)) (hy : X.N[i]? = some y := by rfl) (hyl : X.env.scope.names.lookup y = some .local := by rfl)
    (hw : ∀ j ∈ ws, j ∈ own.map (·.2) := by decide) (hs : ∀ x, foldedSetIterable iter X.env x = pure x := by intro _; rfl) :
    SS X (.Assign [.Name y py] (.DictComp kx vx [⟨tg, iter, ifs, 0⟩] scope pos) spos) (sNew i (eDc fi g ft fk fv (own.map (·.2)))) := ⟨PS.imp (ps_putDc hc hN hy hyl hsw hi.pi ok (fun s H C cl fp => (hg s H C cl fp).pg) (fun s H C cl fp => (ht s H C cl fp).pt) (fun s H C cl fp => (hk s H C cl fp).pe) (fun s H C cl fp => (he s H C cl fp).pe) hs) fun D σ H h => by
  obtain ⟨G, B, O, τ, ρ, T, fl, T', E, hf, q⟩ := h
  unfold sNew at hf
  split at hf
  · cases hf
  · rename_i d T1 h
    cases hf
    exact tDc_of hw ⟨G, B, O, τ, ρ, T, d, T', E, h, fun p H' hp x t r => q _ H' (addO O p) ⟨x.mono E.tO, addO_new hp⟩ (E.own hp x t r)⟩⟩
end
end Dv

/-! Dv38: what single operations give. -/
namespace Dv
open PySem
theorem truD_int (i : Int) : truD (.int i) = some (i != 0) := rfl
theorem tru_ne {i : Int} (h : i ≠ 0) : truD (.int i) = some true := by rw [truD_int, bne_iff_ne.mpr h]
theorem q_str {i : Int} (h0 : 0 ≤ i) (h1 : i < 10) : qStr [.int i] = some (.str (S [48 + i.toNat])) := by
  show (if (decide (0 ≤ i) && decide (i < 10)) = true then some (PyData.str (S [48 + i.toNat])) else none) = _
  rw [decide_eq_true h0, decide_eq_true h1]
  rfl
theorem q_le {i j : Int} : qLe (.int i) (.int j) = some (.bool (decide (i ≤ j))) := rfl
theorem q_le_t {i j : Int} (h : i ≤ j) : qLe (.int i) (.int j) = some (.bool true) := by rw [q_le, decide_eq_true h]
theorem q_lt_t {i j : Int} (h : i < j) : qLt (.int i) (.int j) = some (.bool true) := by show some (PyData.bool (decide (i < j))) = _; rw [decide_eq_true h]
theorem q_lt_f {i j : Int} (h : ¬ i < j) : qLt (.int i) (.int j) = some (.bool false) := by show some (PyData.bool (decide (i < j))) = _; rw [decide_eq_false h]
theorem q_gt_t {i j : Int} (h : j < i) : qGt (.int i) (.int j) = some (.bool true) := by show some (PyData.bool (decide (j < i))) = _; rw [decide_eq_true h]
theorem q_gt_f {i j : Int} (h : ¬ j < i) : qGt (.int i) (.int j) = some (.bool false) := by show some (PyData.bool (decide (j < i))) = _; rw [decide_eq_false h]
theorem q_eq_t {i j : Int} (h : i = j) : qEq (.int i) (.int j) = some (.bool true) := by show some (PyData.bool (i == j)) = _; rw [beq_iff_eq.mpr h]
theorem q_eq_f {i j : Int} (h : i ≠ j) : qEq (.int i) (.int j) = some (.bool false) := by show some (PyData.bool (i == j)) = _; rw [beq_eq_false_iff_ne.mpr h]
theorem q_ne_f {i j : Int} (h : i = j) : qNe (.int i) (.int j) = some (.bool false) := by show some (PyData.bool (!(i == j))) = _; rw [beq_iff_eq.mpr h]; rfl
theorem q_ne_t {i j : Int} (h : i ≠ j) : qNe (.int i) (.int j) = some (.bool true) := by show some (PyData.bool (!(i == j))) = _; rw [beq_eq_false_iff_ne.mpr h]; rfl
theorem at_nat {α : Type} {xs : List α} {k : Nat} (h : k < xs.length) : atD xs ((k : Nat) : Int) = some xs[k] := by
  have e : L2.ixN xs.length ((k : Nat) : Int) = some k := by
    unfold L2.ixN
    rw [if_pos (by omega), if_pos (by omega), Int.toNat_natCast]
  unfold atD
  rw [e]
  exact List.getElem?_eq_getElem h
theorem tset_of {i : Nat} {up : Int → Tp → Tp} {fa : FE} {ρ : Rho} {T T1 : Tp} {x : Int} (h : fa ρ T = some (.int x, T1)) (ht : ρ[i]? = some .tp) : sTset i up fa ρ T = some (.nx ρ, up x T1) := by unfold sTset; rw [h]; simp only [ht]
theorem q_ge_t {i j : Int} (h : j ≤ i) : qGe (.int i) (.int j) = some (.bool true) := by show some (PyData.bool (decide (j ≤ i))) = _; rw [decide_eq_true h]
/-- draws in a comprehension: what is told of one is told of all -/
theorem draw_list {F : Nat → D} {fe : FE} {j m : Nat} {ρ : Rho} (h : ∀ x T, 0 ≤ T.idx → ∃ r T', r < m ∧ 0 ≤ T'.idx ∧ fe (ρ.set j (.fr x)) T = some (F r, T')) :
    ∀ (xs : List D) (T : Tp), 0 ≤ T.idx → ∃ (rs : List Nat) (T' : Tp), rs.length = xs.length ∧ (∀ r ∈ rs, r < m) ∧ 0 ≤ T'.idx ∧ lcL (gSet j) tTrue fe ρ xs T = some (rs.map F, T')
  | [], T, h0 => ⟨[], T, rfl, fun _ z => (by cases z), h0, rfl⟩
  | x :: xs, T, h0 => by
    obtain ⟨r, T1, h1, h2, h3⟩ := h x T h0
    obtain ⟨rs, T2, e1, e2, e3, e4⟩ := draw_list h xs T1 h2
    refine ⟨r :: rs, T2, by rw [List.length_cons, e1, List.length_cons], fun q hq => ?_, e3, ?_⟩
    · rcases List.mem_cons.mp hq with z | z
      · rw [z]; exact h1
      · exact e2 q z
    · unfold lcL
      simp only [gSet, tTrue, h3, e4]
      rfl
theorem strsD_map {α : Type} (f : α → Str) : ∀ l : List α, strsD (l.map fun x => .str (f x)) = some (l.map f)
  | [] => rfl
  | x :: l => by rw [List.map_cons, strsD, strsD_map f l]; rfl
theorem intsD_map {α : Type} (f : α → Int) : ∀ l : List α, intsD (l.map fun x => .int (f x)) = some (l.map f)
  | [] => rfl
  | x :: l => by rw [List.map_cons, intsD, intsD_map f l]; rfl
theorem boolsD_map {α : Type} (f : α → Bool) : ∀ l : List α, boolsD (l.map fun x => .bool (f x)) = some (l.map f)
  | [] => rfl
  | x :: l => by rw [List.map_cons, boolsD, boolsD_map f l]; rfl
theorem q_join {α : Type} (f : α → List Nat) (l : List α) (h : (l.flatMap f).length ≤ 16777216) : qJoin (.str (S [])) [.list (l.map fun x => .str (S (f x)))] = some (.str (S (l.flatMap f))) := by
  have e : ((l.map fun x => S (f x)).map cps).flatten = l.flatMap f := by
    rw [List.map_map, List.flatMap_def]; rfl
  unfold qJoin
  simp only [cps_S, List.isEmpty_nil, if_true, strsD_map (fun x => S (f x)) l, e, ble24 h]
theorem flat_one {α : Type} (f : α → Nat) (l : List α) : (l.flatMap fun x => [f x]) = l.map f := by
  induction l with
  | nil => rfl
  | cons x l ih => rw [List.flatMap_cons, List.map_cons, ih]; rfl
theorem q_join1 {α : Type} (f : α → Nat) (l : List α) (h : l.length ≤ 16777216) : qJoin (.str (S [])) [.list (l.map fun x => .str (S [f x]))] = some (.str (S (l.map f))) := by
  have := q_join (fun x => [f x]) l (by rw [flat_one, List.length_map]; exact h)
  rw [flat_one] at this
  exact this
theorem cut_nn (w : List Nat) {i j : Nat} (h : i ≤ j) (hj : j ≤ w.length) : cutD w (some (i : Int)) (some (j : Int)) = (w.drop i).take (j - i) := by
  unfold cutD
  rw [HT.sIx_nat, HT.sIx_nat, Nat.min_eq_left hj, Nat.min_eq_left (show i ≤ w.length by omega)]
theorem cut_to (w : List Nat) (j : Nat) : cutD w none (some (j : Int)) = w.take j := by
  unfold cutD
  rw [HT.sIx_none, HT.sIx_nat, List.drop_zero, Nat.sub_zero]
  rcases Nat.le_total j w.length with h | h
  · rw [Nat.min_eq_left h]
  · rw [Nat.min_eq_right h, List.take_length, List.take_of_length_le h]
theorem cut_from (w : List Nat) (i : Nat) : cutD w (some (i : Int)) none = w.drop i := by
  unfold cutD
  rw [HT.sIx_none, HT.sIx_nat]
  rcases Nat.le_total i w.length with h | h
  · rw [Nat.min_eq_left h, List.take_of_length_le (by rw [List.length_drop]; exact Nat.le_refl _)]
  · rw [Nat.min_eq_right h, Nat.sub_self, List.take_zero, List.drop_eq_nil_of_le h]
theorem sIx_neg {n d : Nat} {v : Int} (h : v < 0) : HT.sIx n d (some v) = (v + (n : Int)).toNat := by
  show (if v < 0 then (v + (n : Int)).toNat else min v.toNat n) = _
  rw [if_pos h]
theorem q_cut {w : List Nat} {lo hi : Option Int} (h : w.length ≤ 16777216) : qCut (.str (S w)) lo hi = some (.str (S (cutD w lo hi))) := by
  show (if w.length.ble line24 = true then some (PyData.str (S (cutD w lo hi))) else none) = _
  rw [if_pos (ble24 h)]
theorem q_rev {w : List Nat} (h : w.length ≤ 16777216) : qRev (.str (S w)) = some (.str (S w.reverse)) := by
  show (if w.length.ble line24 = true then some (PyData.str (S w.reverse)) else none) = _
  rw [if_pos (ble24 h)]
theorem q_eqS (u v : List Nat) : qEq (.str (S u)) (.str (S v)) = some (.bool (u == v)) := rfl
theorem q_neS (u v : List Nat) : qNe (.str (S u)) (.str (S v)) = some (.bool (!(u == v))) := rfl
theorem q_neS_f (u : List Nat) : qNe (.str (S u)) (.str (S u)) = some (.bool false) := by rw [q_neS, beq_self_eq_true]; rfl
theorem for_all {α : Type} {g : FG} {f : FS} {T : Tp} {P : Rho → Prop} {src : α → D} : ∀ {xs : List α} {ρ : Rho}, P ρ → (∀ x ∈ xs, ∀ ρ, P ρ → ∃ ρ1 ρ2, g (src x) ρ = some ρ1 ∧ f ρ1 T = some (.nx ρ2, T) ∧ P ρ2) → ∃ ρ2, P ρ2 ∧ forL g f (xs.map src) ρ T = some (.nx ρ2, T)
  | [], ρ, h, _ => ⟨ρ, h, rfl⟩
  | x :: xs, ρ, h, hs => by
    obtain ⟨ρ1, ρ2, h1, h2, h3⟩ := hs x List.mem_cons_self ρ h
    obtain ⟨ρ3, h4, h5⟩ := for_all (xs := xs) h3 fun y hy => hs y (List.mem_cons_of_mem _ hy)
    exact ⟨ρ3, h4, for_cons h1 h2 h5⟩
theorem rng1 (n : Nat) : rngD 1 n = (List.range n).map fun i => .int ((i + 1 : Nat) : Int) := by
  rw [rngD_map]
  apply List.map_congr_left
  intro i _
  congr 1; omega
theorem q_mul' {i j : Int} (h : i.natAbs < 18446744073709551616) : qMul (.int i) (.int j) = some (.int (i * j)) := by
  show qMulI i j = _
  unfold qMulI
  rw [if_pos (by rw [Bool.or_eq_true, Nat.blt_eq, Nat.blt_eq]; exact .inl h)]
theorem for_fold {α β : Type} {g : FG} {f : FS} {T : Tp} {src : α → D} (st : β → Rho) (step : β → α → β) : ∀ (xs : List α) (b : β), (∀ x ∈ xs, ∀ b, ∃ ρ1, g (src x) (st b) = some ρ1 ∧ f ρ1 T = some (.nx (st (step b x)), T)) → forL g f (xs.map src) (st b) T = some (.nx (st (xs.foldl step b)), T)
  | [], _, _ => rfl
  | x :: xs, b, h => by
    obtain ⟨ρ1, h1, h2⟩ := h x List.mem_cons_self b
    exact for_cons h1 h2 (for_fold st step xs (step b x) fun y hy => h y (List.mem_cons_of_mem _ hy))
end Dv

set_option maxHeartbeats 4000000
/-! printed by gen.py: each def as a pure function, and its derivation. -/
namespace Dv
open PySem PySem.Spec PyProof.Rows L2
def topS (i : Nat) : Stmt := PySem.Challenge.pw_shiftsandcells_k41_whole_rounds_of_sums.main.body.getD i (.Pass ⟨0, 0, 0, 0⟩)
def sSkip : FS := fun ρ T => some (.nx ρ, T)

/-! ### _law_power -/
abbrev s_law_power : Stmt := topS 49
abbrev N_law_power : List Str := ["base", "many", "found", "k"]
theorem nd_law_power : N_law_power.Nodup := by decide
def f_law_power : FS :=
  (sSeq (sSet 2 (eC (.int 1)))
    (sSeq (sFor (iR1 (eVar 1)) (gSet 3) (sSet 2 (e2 qMul (eOwn 0) (eOwn 2))))
    (sRet (eVar 2))))
def p_law_power := bodyP 4 f_law_power
theorem ok_law_power {P : Program} {w : World} {K : PySem.W.Frag} {mg : Str → Option Value} {base : Heap} (F : FunAt K mg "_law_power" s_law_power) (m_range : mg "range" = none) : Has P w K mg base "_law_power" ["base", "many"] 1 (spP K 2 p_law_power) := by
  obtain ⟨f, fd, gm, F⟩ := F
  refine ⟨f, fd, gm, F.kp, F.binds (ps := ["base", "many"]) (fun _ _ _ _ _ _ us hl => match us, hl with | [_, _], _ => rfl), ?_⟩
  exact fn_p (N := N_law_power) (b := f_law_power) F ⟨rfl, rfl, rfl, nd_law_power, rfl, by decide +kernel, by decide +kernel⟩ (by decide) fun cdv A outer s H E hr =>
   (ss_cons (ss_set (i := 2) nd_law_power se_int)
    (ss_cons (ss_for PassesOwn.never rfl (si_r1 m_range (sv 1)) (sg_name 3 nd_law_power) (ss_one (ss_set (i := 2) nd_law_power (se_mul (sbv 0) (sbv 2)))))
    (ss_one (ss_ret (sv 2)))))

/-! ### check_linear -/
abbrev s_check_linear : Stmt := topS 8
abbrev N_check_linear : List Str := ["modulus", "rule", "place", "factor", "one", "other"]
theorem nd_check_linear : N_check_linear.Nodup := by decide
def f_check_linear : FS :=
  (sSeq (sIf (tNotF (tBool (eCh (eC (.int 2)) (lCons qLe (eOwn 0) (lLast qLe (eC (.int 12))))))) sNever sSkip)
    (sSeq (sIf (tNotF (tTru (eCall qAll (aCons (eLc (iSeq (eVar 1)) (gTupD 2 (gsCons (gSet 2) (gsCons (gSet 3) gsNil))) tTrue (eAnd (eCh (Dv.e1 qNeg (eC (.int 40))) (lCons qLe (eOwn 2) (lLast qLe (eC (.int 40))))) (eCh (eC (.int 1)) (lCons qLe (eOwn 3) (lLast qLt (eOwn 0))))) [2, 3]) aNil)))) sNever sSkip)
    (sIf (tNotF (tTru (eCall qAll (aCons (eLc (iZip2 (aCons (eCut (eOwn 1) oNone (oSome (Dv.e1 qNeg (eC (.int 1))))) (aCons (eCut (eOwn 1) (oSome (eC (.int 1))) oNone) aNil))) (gTupD 2 (gsCons (gSet 4) (gsCons (gSet 5) gsNil))) tTrue (e2 qLt (e2 qIx (eOwn 4) (eC (.int 0))) (e2 qIx (eOwn 5) (eC (.int 0)))) [4, 5]) aNil)))) sNever sSkip)))
def p_check_linear := bodyP 6 f_check_linear
theorem ok_check_linear {P : Program} {w : World} {K : PySem.W.Frag} {mg : Str → Option Value} {base : Heap} (F : FunAt K mg "check_linear" s_check_linear) (m_all : mg "all" = none) (m_zip : mg "zip" = none) (g_MOST_MODULUS : ∃ t, mg "MOST_MODULUS" = some (.int 12 t)) (g_MOST_SPREAD : ∃ t, mg "MOST_SPREAD" = some (.int 40 t)) : Has P w K mg base "check_linear" ["modulus", "rule"] 1 (spP K 2 p_check_linear) := by
  obtain ⟨f, fd, gm, F⟩ := F
  refine ⟨f, fd, gm, F.kp, F.binds (ps := ["modulus", "rule"]) (fun _ _ _ _ _ _ us hl => match us, hl with | [_, _], _ => rfl), ?_⟩
  exact fn_p (N := N_check_linear) (b := f_check_linear) F ⟨rfl, rfl, rfl, nd_check_linear, rfl, by decide +kernel, by decide +kernel⟩ (by decide) fun cdv A outer s H E hr =>
   (ss_cons (ss_if (st_not (st_ch se_int.sb (slc_le (sbv 0) (sll_le (se_gl (v := (.int 12)) g_MOST_MODULUS.choose_spec ⟨_, rfl⟩ (fun _ _ _ => .int _)).sb)))) (ss_one ss_never) ss_nil)
    (ss_cons (ss_if (st_not (st_tru (se_all rfl m_all (sab_cons (sn_lc (own := [("place", 2), ("factor", 3)]) rfl nd_check_linear (si_seq (sv 1)) (blkOk_by (by rfl)) (fun _ _ _ _ _ => (sg_tup rfl (sgs_cons (sg_name 2 nd_check_linear) (sgs_cons (sg_name 3 nd_check_linear) sgs_nil)))) (fun _ _ _ _ _ => sts_nil) (fun _ _ _ _ _ => (se_and (se_ch (se_neg (se_gl (v := (.int 40)) g_MOST_SPREAD.choose_spec ⟨_, rfl⟩ (fun _ _ _ => .int _)).sb).sb (slc_le (sbv 2) (sll_le (se_gl (v := (.int 40)) g_MOST_SPREAD.choose_spec ⟨_, rfl⟩ (fun _ _ _ => .int _)).sb))) (se_one (se_ch se_int.sb (slc_le (sbv 3) (sll_lt (sbv 0)))))))).se.sb sab_nil)).sb)) (ss_one ss_never) ss_nil)
    (ss_one (ss_if (st_not (st_tru (se_all rfl m_all (sab_cons (sn_lc (own := [("one", 4), ("other", 5)]) rfl nd_check_linear (si_zip m_zip (sa_cons (se_cut (sbv 1) so_none (so_some (se_neg se_int.sb))) (sa_cons (se_cut (sbv 1) (so_some se_int) so_none) sa_nil))) (blkOk_by (by rfl)) (fun _ _ _ _ _ => (sg_tup rfl (sgs_cons (sg_name 4 nd_check_linear) (sgs_cons (sg_name 5 nd_check_linear) sgs_nil)))) (fun _ _ _ _ _ => sts_nil) (fun _ _ _ _ _ => (se_sc (sc_lt (se_at (sbv 4) se_int.sb).sb (se_at (sbv 5) se_int.sb).sb)))).se.sb sab_nil)).sb)) (ss_one ss_never) ss_nil))))

/-! ### linear_step -/
abbrev s_linear_step : Stmt := topS 13
abbrev N_linear_step : List Str := ["modulus", "rule", "ring", "a", "size", "k", "place", "factor"]
theorem nd_linear_step : N_linear_step.Nodup := by decide
def f_linear_step : FS :=
  (sSeq (sDrop (eCall (argc 2 p_check_linear) (aCons (eVar 0) (aCons (eVar 1) aNil))))
    (sSeq (sIf (tOrF (tNotF (tBool (eCh (eC (.int 1)) (lCons qLe (eCall qLen (aCons (eOwn 2) aNil)) (lLast qLe (eC (.int 60))))))) (tNotF (tTru (eCall qAll (aCons (eLc (iSeq (eVar 2)) (gSet 3) tTrue (eCh (eC (.int 0)) (lCons qLe (eOwn 3) (lLast qLt (eOwn 0)))) [3]) aNil))))) sNever sSkip)
    (sSeq (sSet 4 (eCall qLen (aCons (eOwn 2) aNil)))
    (sRet (eCall qTuple (aCons (eLc (iR1 (eVar 4)) (gSet 5) tTrue (e2 qMod (eCall qSum (aCons (eLc (iSeq (eVar 1)) (gTupD 2 (gsCons (gSet 6) (gsCons (gSet 7) gsNil))) tTrue (e2 qMul (eOwn 7) (e2 qIx (eOwn 2) (e2 qMod (e2 qAdd (eOwn 5) (eOwn 6)) (eOwn 4)))) [6, 7]) aNil)) (eOwn 0)) [5]) aNil))))))
def p_linear_step := bodyP 8 f_linear_step
theorem ok_linear_step {P : Program} {w : World} {K : PySem.W.Frag} {mg : Str → Option Value} {base : Heap} (F : FunAt K mg "linear_step" s_linear_step) (H_check_linear : Has P w K mg base "check_linear" ["modulus", "rule"] 1 (spP K 2 p_check_linear)) (m_all : mg "all" = none) (m_len : mg "len" = none) (m_range : mg "range" = none) (m_sum : mg "sum" = none) (m_tuple : mg "tuple" = none) : Has P w K mg base "linear_step" ["modulus", "rule", "ring"] 2 (spP K 3 p_linear_step) := by
  obtain ⟨f, fd, gm, F⟩ := F
  refine ⟨f, fd, gm, F.kp, F.binds (ps := ["modulus", "rule", "ring"]) (fun _ _ _ _ _ _ us hl => match us, hl with | [_, _, _], _ => rfl), ?_⟩
  exact fn_p (N := N_linear_step) (b := f_linear_step) F ⟨rfl, rfl, rfl, nd_linear_step, rfl, by decide +kernel, by decide +kernel⟩ (by decide) fun cdv A outer s H E hr =>
   (ss_cons (ss_expr (se_callH H_check_linear hr (by decide) (sa_cons (sv 0) (sa_cons (sv 1) sa_nil))))
    (ss_cons (ss_if (sw_or (st_not (st_ch se_int.sb (slc_le (se_len m_len (sab_cons (sbv 2) sab_nil)).sb (sll_le se_int.sb)))) (sw_or1 (st_not (st_tru (se_all rfl m_all (sab_cons (sn_lc (own := [("a", 3)]) rfl nd_linear_step (si_seq (sv 2)) (blkOk_by (by rfl)) (fun _ _ _ _ _ => (sg_name 3 nd_linear_step)) (fun _ _ _ _ _ => sts_nil) (fun _ _ _ _ _ => (se_ch se_int.sb (slc_le (sbv 3) (sll_lt (sbv 0)))))).se.sb sab_nil)).sb)))).st (ss_one ss_never) ss_nil)
    (ss_cons (ss_set (i := 4) nd_linear_step (se_len m_len (sab_cons (sbv 2) sab_nil)))
    (ss_one (ss_ret (se_tuple m_tuple (sab_cons (sn_lc (own := [("k", 5)]) rfl nd_linear_step (si_r1 m_range (sv 4)) (blkOk_by (by rfl)) (fun _ _ _ _ _ => (sg_name 5 nd_linear_step)) (fun _ _ _ _ _ => sts_nil) (fun _ _ _ _ _ => (se_mod (se_sum rfl m_sum (sab_cons (sn_lc (own := [("place", 6), ("factor", 7)]) rfl nd_linear_step (si_seq (sv 1)) (blkOk_by (by rfl)) (fun _ _ _ _ _ => (sg_tup rfl (sgs_cons (sg_name 6 nd_linear_step) (sgs_cons (sg_name 7 nd_linear_step) sgs_nil)))) (fun _ _ _ _ _ => sts_nil) (fun _ _ _ _ _ => (se_mul (sbv 7) (se_at (sbv 2) (se_mod (se_add (sbv 5) (sbv 6)).sb (sbv 4)).sb).sb))).se.sb sab_nil)).sb (sbv 0)))).se.sb sab_nil)))))))

/-! ### _law_steps -/
abbrev s_law_steps : Stmt := topS 48
abbrev N_law_steps : List Str := ["modulus", "rule", "ring", "many", "k"]
theorem nd_law_steps : N_law_steps.Nodup := by decide
def f_law_steps : FS :=
  (sSeq (sFor (iR1 (eVar 3)) (gSet 4) (sSet 2 (eCall (argc 3 p_linear_step) (aCons (eVar 0) (aCons (eVar 1) (aCons (eVar 2) aNil))))))
    (sRet (eVar 2)))
def p_law_steps := bodyP 5 f_law_steps
theorem ok_law_steps {P : Program} {w : World} {K : PySem.W.Frag} {mg : Str → Option Value} {base : Heap} (F : FunAt K mg "_law_steps" s_law_steps) (H_linear_step : Has P w K mg base "linear_step" ["modulus", "rule", "ring"] 2 (spP K 3 p_linear_step)) (m_range : mg "range" = none) : Has P w K mg base "_law_steps" ["modulus", "rule", "ring", "many"] 3 (spP K 4 p_law_steps) := by
  obtain ⟨f, fd, gm, F⟩ := F
  refine ⟨f, fd, gm, F.kp, F.binds (ps := ["modulus", "rule", "ring", "many"]) (fun _ _ _ _ _ _ us hl => match us, hl with | [_, _, _, _], _ => rfl), ?_⟩
  exact fn_p (N := N_law_steps) (b := f_law_steps) F ⟨rfl, rfl, rfl, nd_law_steps, rfl, by decide +kernel, by decide +kernel⟩ (by decide) fun cdv A outer s H E hr =>
   (ss_cons (ss_for PassesOwn.never rfl (si_r1 m_range (sv 3)) (sg_name 4 nd_law_steps) (ss_one (ss_set (i := 2) nd_law_steps (se_callH H_linear_step hr (by decide) (sa_cons (sv 0) (sa_cons (sv 1) (sa_cons (sv 2) sa_nil)))))))
    (ss_one (ss_ret (sv 2))))

/-! ### _law_take -/
abbrev s_law_take : Stmt := topS 47
abbrev N_law_take : List Str := ["tape", "many", "drawn", "mixed"]
theorem nd_law_take : N_law_take.Nodup := by decide
def f_law_take : FS :=
  (sSeq (sIf (tAndF (tBool (e2 qEq (eTget 0 (fun T => .int T.left)) (eC (.int 0)))) (tBool (e2 qLt (eTget 0 (fun T => .int T.idx)) (eCall qLen (aCons (eTget 0 (fun T => .list (T.cells.map .int))) aNil))))) (sSeq (sTset 0 (fun x T => { T with left := x }) (e2 qIx (eTget 0 (fun T => .list (T.cells.map .int))) (eTget 0 (fun T => .int T.idx))))
    (sTset 0 (fun x T => { T with idx := x }) (e2 qAdd (eTget 0 (fun T => .int T.idx)) (eC (.int 1))))) sSkip)
    (sSeq (sIf (tBool (e2 qGt (eTget 0 (fun T => .int T.left)) (eC (.int 0)))) (sSeq (sSet 2 (e2 qMod (eCall qInt (aCons (eTget 0 (fun T => .int T.left)) aNil)) (eOwn 1)))
    (sSeq (sTset 0 (fun x T => { T with left := x }) (e2 qDiv (eTget 0 (fun T => .int T.left)) (eOwn 1)))
    (sRet (eVar 2)))) sSkip)
    (sSeq (sTset 0 (fun x T => { T with salt := x }) (e2 qAdd (eTget 0 (fun T => .int T.salt)) (eC (.int 1))))
    (sSeq (sSet 3 (e2 qMod (eCall qInt (aCons (e2 qAdd (e2 qMul (eTget 0 (fun T => .int T.seed)) (eC (.int 48271))) (e2 qMul (eTget 0 (fun T => .int T.salt)) (eC (.int 69621)))) aNil)) (eC (.int 2147483647))))
    (sSeq (sSet 3 (e2 qMod (eCall qInt (aCons (e2 qAdd (e2 qAdd (e2 qMul (eOwn 3) (eOwn 3)) (e2 qMul (eTget 0 (fun T => .int T.salt)) (eC (.int 40692)))) (eC (.int 12345))) aNil)) (eC (.int 2147483399))))
    (sRet (e2 qMod (eCall qInt (aCons (eOwn 3) aNil)) (eOwn 1))))))))
def p_law_take := bodyT 4 f_law_take
theorem ok_law_take {P : Program} {w : World} {K : PySem.W.Frag} {mg : Str → Option Value} {base : Heap} (F : FunAt K mg "_law_take" s_law_take) (m_int : mg "int" = none) (m_len : mg "len" = none) : Has P w K mg base "_law_take" ["tape", "many"] 1 (spT K 1 p_law_take) := by
  obtain ⟨f, fd, gm, F⟩ := F
  refine ⟨f, fd, gm, F.kp, F.binds (ps := ["tape", "many"]) (fun _ _ _ _ _ _ us hl => match us, hl with | [_, _], _ => rfl), ?_⟩
  exact fn_t (N := N_law_take) (b := f_law_take) F ⟨rfl, rfl, rfl, nd_law_take, rfl, by decide +kernel, by decide +kernel⟩ rfl (by decide) fun cdv A outer s H E hr =>
   (ss_cons (ss_if (sw_and (st_sc (sc_eq hr (se_tget 0 hr tk_left).sb se_int.sb)) (sw_and1 (st_sc (sc_lt (se_tget 0 hr tk_at).sb (se_len m_len (sab_cons (se_tget 0 hr tk_cells).sb sab_nil)).sb)))).st (ss_cons (ss_tset 0 hr tu_left (se_at (se_tget 0 hr tk_cells).sb (se_tget 0 hr tk_at).sb))
    (ss_one (ss_tset 0 hr tu_at (se_add (se_tget 0 hr tk_at).sb se_int.sb)))) ss_nil)
    (ss_cons (ss_if (st_sc (sc_gt (se_tget 0 hr tk_left).sb se_int.sb)) (ss_cons (ss_set (i := 2) nd_law_take (se_mod (se_int1 m_int (sab_cons (se_tget 0 hr tk_left).sb sab_nil)).sb (sbv 1)))
    (ss_cons (ss_tset 0 hr tu_left (se_div (se_tget 0 hr tk_left).sb (sbv 1)))
    (ss_one (ss_ret (sv 2))))) ss_nil)
    (ss_cons (ss_tset 0 hr tu_salt (se_add (se_tget 0 hr tk_salt).sb se_int.sb))
    (ss_cons (ss_set (i := 3) nd_law_take (se_mod (se_int1 m_int (sab_cons (se_add (se_mul (se_tget 0 hr tk_seed).sb se_int.sb).sb (se_mul (se_tget 0 hr tk_salt).sb se_int.sb).sb).sb sab_nil)).sb se_int.sb))
    (ss_cons (ss_set (i := 3) nd_law_take (se_mod (se_int1 m_int (sab_cons (se_add (se_add (se_mul (sbv 3) (sbv 3)).sb (se_mul (se_tget 0 hr tk_salt).sb se_int.sb).sb).sb se_int.sb).sb sab_nil)).sb se_int.sb))
    (ss_one (ss_ret (se_mod (se_int1 m_int (sab_cons (sbv 3) sab_nil)).sb (sbv 1)))))))))

/-! ### _law_tape -/
abbrev s_law_tape : Stmt := topS 46
abbrev N_law_tape : List Str := ["script", "cells", "seed", "cell"]
theorem nd_law_tape : N_law_tape.Nodup := by decide
theorem ok_law_tape {P : Program} {w : World} {K : PySem.W.Frag} {mg : Str → Option Value} {base : Heap} (F : FunAt K mg "_law_tape" s_law_tape) (m_abs : mg "abs" = none) (m_int : mg "int" = none) : Has P w K mg base "_law_tape" ["script"] 1 (spMk K) := by
  obtain ⟨f, fd, gm, F⟩ := F
  refine ⟨f, fd, gm, F.kp, F.binds (ps := ["script"]) (fun _ _ _ _ _ _ us hl => match us, hl with | [_], _ => rfl), ?_⟩
  exact fn_tape (N := N_law_tape) F ⟨rfl, rfl, rfl, nd_law_tape, rfl, by decide +kernel, by decide +kernel⟩ rfl rfl fun cdv A outer s H E hr =>
    pss_cons (ps_setLc (i := 1) (own := [("cell", 3)]) rfl nd_law_tape rfl rfl (sw_true rfl rfl rfl (by decide +kernel)) (pi_seq (pe_var rfl (.inl rfl))) (blkOk_by (by rfl)) (fun _ _ _ _ _ => (sg_name 3 nd_law_tape).pg) (fun _ _ _ _ _ => sts_nil.pt)
      (fun _ _ _ _ _ => (se_abs m_abs (sab_cons (se_int1 m_int (sab_cons (sbv 3) sab_nil)).sb sab_nil)).pe))
      (pss_cons (ss_set (i := 2) nd_law_tape se_int).ps (pss_cons (ss_fz 1 (ss_for PassesOwn.never rfl (si_seq (sv 1)) (sg_name 3 nd_law_tape) (ss_one (ss_set (i := 2) nd_law_tape (se_mod (se_int1 m_int (sab_cons (se_add (se_mul (sbv 2) se_int.sb).sb (sbv 3)).sb sab_nil)).sb se_int.sb))))).ps
        (pss_one (ps_ret (pe_disp (pps_cons pe_str (pe_var rfl (.inl rfl)) (pps_cons pe_str pe_int (pps_cons pe_str pe_int (pps_cons pe_str (pe_var rfl (.inl rfl)) (pps_cons pe_str pe_int pps_nil))))) rfl rfl (by decide) (by decide))))))

/-! ### primes_of -/
abbrev s_primes_of : Stmt := topS 14
abbrev N_primes_of : List Str := ["modulus", "p", "k"]
theorem nd_primes_of : N_primes_of.Nodup := by decide
def f_primes_of : FS :=
  (sRet (eCall qTuple (aCons (eLc (iR2 (eC (.int 2)) (e2 qAdd (eOwn 0) (eC (.int 1)))) (gSet 1) (tAndF (tBool (e2 qEq (e2 qMod (eOwn 0) (eOwn 1)) (eC (.int 0)))) (tTru (eCall qAll (aCons (eLc (iR2 (eC (.int 2)) (eVar 1)) (gSet 2) tTrue (e2 qNe (e2 qMod (eOwn 1) (eOwn 2)) (eC (.int 0))) [2]) aNil)))) (eVar 1) [1]) aNil)))
def p_primes_of := bodyP 3 f_primes_of
theorem ok_primes_of {P : Program} {w : World} {K : PySem.W.Frag} {mg : Str → Option Value} {base : Heap} (F : FunAt K mg "primes_of" s_primes_of) (m_all : mg "all" = none) (m_range : mg "range" = none) (m_tuple : mg "tuple" = none) : Has P w K mg base "primes_of" ["modulus"] 1 (spP K 1 p_primes_of) := by
  obtain ⟨f, fd, gm, F⟩ := F
  refine ⟨f, fd, gm, F.kp, F.binds (ps := ["modulus"]) (fun _ _ _ _ _ _ us hl => match us, hl with | [_], _ => rfl), ?_⟩
  exact fn_p (N := N_primes_of) (b := f_primes_of) F ⟨rfl, rfl, rfl, nd_primes_of, rfl, by decide +kernel, by decide +kernel⟩ (by decide) fun cdv A outer s H E hr =>
   (ss_one (ss_ret (se_tuple m_tuple (sab_cons (sn_lc (own := [("p", 1)]) rfl nd_primes_of (si_r2 m_range se_int (se_add (sbv 0) se_int.sb)) (blkOk_by (by rfl)) (fun _ _ _ _ _ => (sg_name 1 nd_primes_of)) (fun _ _ _ _ _ => (sts_one (sw_and (st_sc (sc_eq hr (se_mod (sbv 0) (sbv 1)).sb se_int.sb)) (sw_and1 (st_tru (se_all rfl m_all (sab_cons (sn_lc (own := [("k", 2)]) rfl nd_primes_of (si_r2 m_range se_int (sv 1)) (blkOk_by (by rfl)) (fun _ _ _ _ _ => (sg_name 2 nd_primes_of)) (fun _ _ _ _ _ => sts_nil) (fun _ _ _ _ _ => (se_sc (sc_ne hr (se_mod (sbv 1) (sbv 2)).sb se_int.sb)))).se.sb sab_nil)).sb))).st)) (fun _ _ _ _ _ => (sv 1))).se.sb sab_nil))))

/-! ### copies -/
abbrev s_copies : Stmt := topS 24
abbrev N_copies : List Str := ["modulus", "rule", "many", "far", "_", "found", "place", "factor"]
theorem nd_copies : N_copies.Nodup := by decide
def f_copies : FS :=
  (sSeq (sDrop (eCall (argc 2 p_check_linear) (aCons (eVar 0) (aCons (eVar 1) aNil))))
    (sSeq (sIf (tOrF (tBool (e2 qNe (eCall (argc 1 p_primes_of) (aCons (eVar 0) aNil)) (eTup (aCons (eVar 0) aNil)))) (tNotF (tBool (eCh (eC (.int 0)) (lCons qLe (eOwn 2) (lLast qLe (eC (.int 3)))))))) sNever sSkip)
    (sSeq (sSet 3 (eC (.int 1)))
    (sSeq (sFor (iR1 (eVar 2)) (gSet 4) (sAug 3 (i2 qMulI) (eVar 0)))
    (sSeq (sSet 5 (eCall qTuple (aCons (eLc (iSeq (eVar 1)) (gTupD 2 (gsCons (gSet 6) (gsCons (gSet 7) gsNil))) tTrue (eTup (aCons (e2 qMul (eOwn 6) (eOwn 3)) (aCons (eVar 7) aNil))) [6, 7]) aNil)))
    (sSeq (sDrop (eCall (argc 2 p_check_linear) (aCons (eVar 0) (aCons (eVar 5) aNil))))
    (sRet (eVar 5))))))))
def p_copies := bodyP 8 f_copies
theorem ok_copies {P : Program} {w : World} {K : PySem.W.Frag} {mg : Str → Option Value} {base : Heap} (F : FunAt K mg "copies" s_copies) (H_check_linear : Has P w K mg base "check_linear" ["modulus", "rule"] 1 (spP K 2 p_check_linear)) (H_primes_of : Has P w K mg base "primes_of" ["modulus"] 1 (spP K 1 p_primes_of)) (m_range : mg "range" = none) (m_tuple : mg "tuple" = none) : Has P w K mg base "copies" ["modulus", "rule", "many"] 2 (spP K 3 p_copies) := by
  obtain ⟨f, fd, gm, F⟩ := F
  refine ⟨f, fd, gm, F.kp, F.binds (ps := ["modulus", "rule", "many"]) (fun _ _ _ _ _ _ us hl => match us, hl with | [_, _, _], _ => rfl), ?_⟩
  exact fn_p (N := N_copies) (b := f_copies) F ⟨rfl, rfl, rfl, nd_copies, rfl, by decide +kernel, by decide +kernel⟩ (by decide) fun cdv A outer s H E hr =>
   (ss_cons (ss_expr (se_callH H_check_linear hr (by decide) (sa_cons (sv 0) (sa_cons (sv 1) sa_nil))))
    (ss_cons (ss_if (sw_or (st_sc (sc_ne hr (se_callH H_primes_of hr (by decide) (sa_cons (sv 0) sa_nil)).sb (se_tup (sa_cons (sv 0) sa_nil)).sb)) (sw_or1 (st_not (st_ch se_int.sb (slc_le (sbv 2) (sll_le se_int.sb)))))).st (ss_one ss_never) ss_nil)
    (ss_cons (ss_set (i := 3) nd_copies se_int)
    (ss_cons (ss_for PassesOwn.never rfl (si_r1 m_range (sv 2)) (sg_name 4 nd_copies) (ss_one (ss_augMul 3 nd_copies (sv 0))))
    (ss_cons (ss_set (i := 5) nd_copies (se_tuple m_tuple (sab_cons (sn_lc (own := [("place", 6), ("factor", 7)]) rfl nd_copies (si_seq (sv 1)) (blkOk_by (by rfl)) (fun _ _ _ _ _ => (sg_tup rfl (sgs_cons (sg_name 6 nd_copies) (sgs_cons (sg_name 7 nd_copies) sgs_nil)))) (fun _ _ _ _ _ => sts_nil) (fun _ _ _ _ _ => (se_tup (sa_cons (se_mul (sbv 6) (sbv 3)) (sa_cons (sv 7) sa_nil))))).se.sb sab_nil)))
    (ss_cons (ss_expr (se_callH H_check_linear hr (by decide) (sa_cons (sv 0) (sa_cons (sv 5) sa_nil))))
    (ss_one (ss_ret (sv 5)))))))))

/-! ### all_words -/
abbrev s_all_words : Stmt := topS 28
abbrev N_all_words : List Str := ["signs", "length", "rows", "_", "row", "sign"]
theorem nd_all_words : N_all_words.Nodup := by decide
def f_all_words : FS :=
  (sSeq (sNew 2 (eLst (aCons (eC (.str "")) aNil)))
    (sSeq (sFor (iR1 (eVar 1)) (gSet 3) (sFz 2 (sNew 2 (eLc2 (iSeq (eVar 2)) (gSet 4) tTrue (iR1 (eVar 0)) (gSet 5) tTrue (e2 qAdd (eOwn 4) (e2 qIx (eC (.str "0123")) (eOwn 5))) [4, 5] [5]))))
    (sFz 2 (sRet (eVar 2)))))
def p_all_words := bodyP 6 f_all_words
theorem ok_all_words {P : Program} {w : World} {K : PySem.W.Frag} {mg : Str → Option Value} {base : Heap} (F : FunAt K mg "all_words" s_all_words) (m_range : mg "range" = none) (g_DIGITS : ∃ t, mg "DIGITS" = some (.str "0123" t)) : Has P w K mg base "all_words" ["signs", "length"] 1 (spP K 2 p_all_words) := by
  obtain ⟨f, fd, gm, F⟩ := F
  refine ⟨f, fd, gm, F.kp, F.binds (ps := ["signs", "length"]) (fun _ _ _ _ _ _ us hl => match us, hl with | [_, _], _ => rfl), ?_⟩
  exact fn_p (N := N_all_words) (b := f_all_words) F ⟨rfl, rfl, rfl, nd_all_words, rfl, by decide +kernel, by decide +kernel⟩ (by decide) fun cdv A outer s H E hr =>
   (ss_cons (ss_new (i := 2) nd_all_words (sn_lst (sa_cons se_str sa_nil)))
    (ss_cons (ss_for PassesOwn.never rfl (si_r1 m_range (sv 1)) (sg_name 3 nd_all_words) (ss_one (ss_fz 2 (ss_newLc2 (i := 2) (own := [("row", 4), ("sign", 5)]) (vs1 := [5]) rfl nd_all_words (si_seq (sv 2)) (blkOk_by (by rfl)) (fun _ _ _ _ _ => (sg_name 4 nd_all_words)) (fun _ _ _ _ _ => sts_nil) (fun _ _ _ _ _ => (si_r1 m_range (sv 0))) (fun _ _ _ _ _ => (sg_name 5 nd_all_words)) (fun _ _ _ _ _ => sts_nil) (fun _ _ _ _ _ => (se_add (sbv 4) (se_at (se_gl (v := (.str "0123")) g_DIGITS.choose_spec ⟨_, rfl⟩ (fun _ _ _ => .str _)).sb (sbv 5)).sb)) (frg_set 4)))))
    (ss_one (ss_fz 2 (ss_ret (sv 2))))))

/-! ### power -/
abbrev s_power : Stmt := topS 32
abbrev N_power : List Str := ["base", "many", "found", "_"]
theorem nd_power : N_power.Nodup := by decide
def f_power : FS :=
  (sSeq (sSet 2 (eC (.int 1)))
    (sSeq (sFor (iR1 (eVar 1)) (gSet 3) (sAug 2 (i2 qMulI) (eVar 0)))
    (sRet (eVar 2))))
def p_power := bodyP 4 f_power
theorem ok_power {P : Program} {w : World} {K : PySem.W.Frag} {mg : Str → Option Value} {base : Heap} (F : FunAt K mg "power" s_power) (m_range : mg "range" = none) : Has P w K mg base "power" ["base", "many"] 1 (spP K 2 p_power) := by
  obtain ⟨f, fd, gm, F⟩ := F
  refine ⟨f, fd, gm, F.kp, F.binds (ps := ["base", "many"]) (fun _ _ _ _ _ _ us hl => match us, hl with | [_, _], _ => rfl), ?_⟩
  exact fn_p (N := N_power) (b := f_power) F ⟨rfl, rfl, rfl, nd_power, rfl, by decide +kernel, by decide +kernel⟩ (by decide) fun cdv A outer s H E hr =>
   (ss_cons (ss_set (i := 2) nd_power se_int)
    (ss_cons (ss_for PassesOwn.never rfl (si_r1 m_range (sv 1)) (sg_name 3 nd_power) (ss_one (ss_augMul 2 nd_power (sv 0))))
    (ss_one (ss_ret (sv 2)))))

/-! ### check_code -/
abbrev s_check_code : Stmt := topS 31
abbrev N_check_code : List Str := ["code", "signs", "outs", "width", "table", "sign"]
theorem nd_check_code : N_check_code.Nodup := by decide
def f_check_code : FS :=
  (sSeq (sAsgG (eVar 0) (gTupD 4 (gsCons (gSet 1) (gsCons (gSet 2) (gsCons (gSet 3) (gsCons (gSet 4) gsNil))))))
    (sSeq (sIf (tOrF (tNotF (tBool (eCh (eC (.int 1)) (lCons qLe (eOwn 1) (lLast qLe (eC (.int 4))))))) (tOrF (tNotF (tBool (eCh (eC (.int 1)) (lCons qLe (eOwn 2) (lLast qLe (eC (.int 4))))))) (tNotF (tBool (eCh (eC (.int 1)) (lCons qLe (eOwn 3) (lLast qLe (eC (.int 9))))))))) sNever sSkip)
    (sSeq (sIf (tOrF (tBool (e2 qNe (eCall qLen (aCons (eOwn 4) aNil)) (eCall (argc 2 p_power) (aCons (eVar 1) (aCons (eVar 3) aNil))))) (tBool (e2 qGt (eCall qLen (aCons (eOwn 4) aNil)) (eC (.int 1024))))) sNever sSkip)
    (sIf (tNotF (tTru (eCall qAll (aCons (eLc (iSeq (eVar 4)) (gSet 5) tTrue (e2 qIn2 (eOwn 5) (eCut (eC (.str "0123")) oNone (oSome (eVar 2)))) [5]) aNil)))) sNever sSkip))))
def p_check_code := bodyP 6 f_check_code
theorem ok_check_code {P : Program} {w : World} {K : PySem.W.Frag} {mg : Str → Option Value} {base : Heap} (F : FunAt K mg "check_code" s_check_code) (H_power : Has P w K mg base "power" ["base", "many"] 1 (spP K 2 p_power)) (m_all : mg "all" = none) (m_len : mg "len" = none) (g_DIGITS : ∃ t, mg "DIGITS" = some (.str "0123" t)) (g_MOST_TABLE : ∃ t, mg "MOST_TABLE" = some (.int 1024 t)) : Has P w K mg base "check_code" ["code"] 2 (spP K 1 p_check_code) := by
  obtain ⟨f, fd, gm, F⟩ := F
  refine ⟨f, fd, gm, F.kp, F.binds (ps := ["code"]) (fun _ _ _ _ _ _ us hl => match us, hl with | [_], _ => rfl), ?_⟩
  exact fn_p (N := N_check_code) (b := f_check_code) F ⟨rfl, rfl, rfl, nd_check_code, rfl, by decide +kernel, by decide +kernel⟩ (by decide) fun cdv A outer s H E hr =>
   (ss_cons (ss_asg (sv 0) (sg_tup rfl (sgs_cons (sg_name 1 nd_check_code) (sgs_cons (sg_name 2 nd_check_code) (sgs_cons (sg_name 3 nd_check_code) (sgs_cons (sg_name 4 nd_check_code) sgs_nil))))))
    (ss_cons (ss_if (sw_or (st_not (st_ch se_int.sb (slc_le (sbv 1) (sll_le se_int.sb)))) (sw_or (st_not (st_ch se_int.sb (slc_le (sbv 2) (sll_le se_int.sb)))) (sw_or1 (st_not (st_ch se_int.sb (slc_le (sbv 3) (sll_le se_int.sb))))))).st (ss_one ss_never) ss_nil)
    (ss_cons (ss_if (sw_or (st_sc (sc_ne hr (se_len m_len (sab_cons (sbv 4) sab_nil)).sb (se_callH H_power hr (by decide) (sa_cons (sv 1) (sa_cons (sv 3) sa_nil))).sb)) (sw_or1 (st_sc (sc_gt (se_len m_len (sab_cons (sbv 4) sab_nil)).sb (se_gl (v := (.int 1024)) g_MOST_TABLE.choose_spec ⟨_, rfl⟩ (fun _ _ _ => .int _)).sb)))).st (ss_one ss_never) ss_nil)
    (ss_one (ss_if (st_not (st_tru (se_all rfl m_all (sab_cons (sn_lc (own := [("sign", 5)]) rfl nd_check_code (si_seq (sv 4)) (blkOk_by (by rfl)) (fun _ _ _ _ _ => (sg_name 5 nd_check_code)) (fun _ _ _ _ _ => sts_nil) (fun _ _ _ _ _ => (se_sc (sc_in2 hr (sbv 5) (se_cut (se_gl (v := (.str "0123")) g_DIGITS.choose_spec ⟨_, rfl⟩ (fun _ _ _ => .str _)).sb so_none (so_some (sv 2))).sb)))).se.sb sab_nil)).sb)) (ss_one ss_never) ss_nil)))))

/-! ### check_rule -/
abbrev s_check_rule : Stmt := topS 38
abbrev N_check_rule : List Str := ["rule"]
theorem nd_check_rule : N_check_rule.Nodup := by decide
def f_check_rule : FS :=
  (sSeq (sDrop (eCall (argc 1 p_check_code) (aCons (eVar 0) aNil)))
    (sIf (tOrF (tBool (e2 qNe (e2 qIx (eOwn 0) (eC (.int 0))) (e2 qIx (eOwn 0) (eC (.int 1))))) (tBool (e2 qNe (e2 qMod (e2 qIx (eOwn 0) (eC (.int 2))) (eC (.int 2))) (eC (.int 1))))) sNever sSkip))
def p_check_rule := bodyP 1 f_check_rule
theorem ok_check_rule {P : Program} {w : World} {K : PySem.W.Frag} {mg : Str → Option Value} {base : Heap} (F : FunAt K mg "check_rule" s_check_rule) (H_check_code : Has P w K mg base "check_code" ["code"] 2 (spP K 1 p_check_code)) : Has P w K mg base "check_rule" ["rule"] 3 (spP K 1 p_check_rule) := by
  obtain ⟨f, fd, gm, F⟩ := F
  refine ⟨f, fd, gm, F.kp, F.binds (ps := ["rule"]) (fun _ _ _ _ _ _ us hl => match us, hl with | [_], _ => rfl), ?_⟩
  exact fn_p (N := N_check_rule) (b := f_check_rule) F ⟨rfl, rfl, rfl, nd_check_rule, rfl, by decide +kernel, by decide +kernel⟩ (by decide) fun cdv A outer s H E hr =>
   (ss_cons (ss_expr (se_callH H_check_code hr (by decide) (sa_cons (sv 0) sa_nil)))
    (ss_one (ss_if (sw_or (st_sc (sc_ne hr (se_at (sbv 0) se_int.sb).sb (se_at (sbv 0) se_int.sb).sb)) (sw_or1 (st_sc (sc_ne hr (se_mod (se_at (sbv 0) se_int.sb).sb se_int.sb).sb se_int.sb)))).st (ss_one ss_never) ss_nil)))

/-! ### check_ring -/
abbrev s_check_ring : Stmt := topS 37
abbrev N_check_ring : List Str := ["signs", "ring", "sign"]
theorem nd_check_ring : N_check_ring.Nodup := by decide
def f_check_ring : FS :=
  (sIf (tOrF (tNotF (tBool (eCh (eC (.int 1)) (lCons qLe (eCall qLen (aCons (eOwn 1) aNil)) (lLast qLe (eC (.int 24))))))) (tNotF (tTru (eCall qAll (aCons (eLc (iSeq (eVar 1)) (gSet 2) tTrue (e2 qIn2 (eOwn 2) (eCut (eC (.str "0123")) oNone (oSome (eVar 0)))) [2]) aNil))))) sNever sSkip)
def p_check_ring := bodyP 3 f_check_ring
theorem ok_check_ring {P : Program} {w : World} {K : PySem.W.Frag} {mg : Str → Option Value} {base : Heap} (F : FunAt K mg "check_ring" s_check_ring) (m_all : mg "all" = none) (m_len : mg "len" = none) (g_DIGITS : ∃ t, mg "DIGITS" = some (.str "0123" t)) (g_MOST_RING : ∃ t, mg "MOST_RING" = some (.int 24 t)) : Has P w K mg base "check_ring" ["signs", "ring"] 1 (spP K 2 p_check_ring) := by
  obtain ⟨f, fd, gm, F⟩ := F
  refine ⟨f, fd, gm, F.kp, F.binds (ps := ["signs", "ring"]) (fun _ _ _ _ _ _ us hl => match us, hl with | [_, _], _ => rfl), ?_⟩
  exact fn_p (N := N_check_ring) (b := f_check_ring) F ⟨rfl, rfl, rfl, nd_check_ring, rfl, by decide +kernel, by decide +kernel⟩ (by decide) fun cdv A outer s H E hr =>
   (ss_one (ss_if (sw_or (st_not (st_ch se_int.sb (slc_le (se_len m_len (sab_cons (sbv 1) sab_nil)).sb (sll_le (se_gl (v := (.int 24)) g_MOST_RING.choose_spec ⟨_, rfl⟩ (fun _ _ _ => .int _)).sb)))) (sw_or1 (st_not (st_tru (se_all rfl m_all (sab_cons (sn_lc (own := [("sign", 2)]) rfl nd_check_ring (si_seq (sv 1)) (blkOk_by (by rfl)) (fun _ _ _ _ _ => (sg_name 2 nd_check_ring)) (fun _ _ _ _ _ => sts_nil) (fun _ _ _ _ _ => (se_sc (sc_in2 hr (sbv 2) (se_cut (se_gl (v := (.str "0123")) g_DIGITS.choose_spec ⟨_, rfl⟩ (fun _ _ _ => .str _)).sb so_none (so_some (sv 0))).sb)))).se.sb sab_nil)).sb)))).st (ss_one ss_never) ss_nil))

/-! ### number_of -/
abbrev s_number_of : Stmt := topS 33
abbrev N_number_of : List Str := ["signs", "word", "found", "sign"]
theorem nd_number_of : N_number_of.Nodup := by decide
def f_number_of : FS :=
  (sSeq (sSet 2 (eC (.int 0)))
    (sSeq (sFor (iSeq (eVar 1)) (gSet 3) (sSet 2 (e2 qAdd (e2 qMul (eOwn 2) (eOwn 0)) (eCall qInt (aCons (eOwn 3) aNil)))))
    (sRet (eVar 2))))
def p_number_of := bodyP 4 f_number_of
theorem ok_number_of {P : Program} {w : World} {K : PySem.W.Frag} {mg : Str → Option Value} {base : Heap} (F : FunAt K mg "number_of" s_number_of) (m_int : mg "int" = none) : Has P w K mg base "number_of" ["signs", "word"] 1 (spP K 2 p_number_of) := by
  obtain ⟨f, fd, gm, F⟩ := F
  refine ⟨f, fd, gm, F.kp, F.binds (ps := ["signs", "word"]) (fun _ _ _ _ _ _ us hl => match us, hl with | [_, _], _ => rfl), ?_⟩
  exact fn_p (N := N_number_of) (b := f_number_of) F ⟨rfl, rfl, rfl, nd_number_of, rfl, by decide +kernel, by decide +kernel⟩ (by decide) fun cdv A outer s H E hr =>
   (ss_cons (ss_set (i := 2) nd_number_of se_int)
    (ss_cons (ss_for PassesOwn.never rfl (si_seq (sv 1)) (sg_name 3 nd_number_of) (ss_one (ss_set (i := 2) nd_number_of (se_add (se_mul (sbv 2) (sbv 0)).sb (se_int1 m_int (sab_cons (sbv 3) sab_nil)).sb))))
    (ss_one (ss_ret (sv 2)))))

/-! ### image -/
abbrev s_image : Stmt := topS 34
abbrev N_image : List Str := ["code", "word", "signs", "_", "width", "table", "sign", "k"]
theorem nd_image : N_image.Nodup := by decide
def f_image : FS :=
  (sSeq (sDrop (eCall (argc 1 p_check_code) (aCons (eVar 0) aNil)))
    (sSeq (sAsgG (eVar 0) (gTupD 4 (gsCons (gSet 2) (gsCons (gSet 3) (gsCons (gSet 4) (gsCons (gSet 5) gsNil))))))
    (sSeq (sIf (tNotF (tTru (eCall qAll (aCons (eLc (iSeq (eVar 1)) (gSet 6) tTrue (e2 qIn2 (eOwn 6) (eCut (eC (.str "0123")) oNone (oSome (eVar 2)))) [6]) aNil)))) sNever sSkip)
    (sRet (eMeth qJoin (eC (.str "")) (aCons (eLc (iR1 (e2 qAdd (e2 qSub (eCall qLen (aCons (eOwn 1) aNil)) (eOwn 4)) (eC (.int 1)))) (gSet 7) tTrue (e2 qIx (eOwn 5) (eCall (argc 2 p_number_of) (aCons (eVar 2) (aCons (eCut (eOwn 1) (oSome (eVar 7)) (oSome (e2 qAdd (eOwn 7) (eOwn 4)))) aNil)))) [7]) aNil))))))
def p_image := bodyP 8 f_image
theorem ok_image {P : Program} {w : World} {K : PySem.W.Frag} {mg : Str → Option Value} {base : Heap} (F : FunAt K mg "image" s_image) (H_check_code : Has P w K mg base "check_code" ["code"] 2 (spP K 1 p_check_code)) (H_number_of : Has P w K mg base "number_of" ["signs", "word"] 1 (spP K 2 p_number_of)) (m_all : mg "all" = none) (m_len : mg "len" = none) (m_range : mg "range" = none) (g_DIGITS : ∃ t, mg "DIGITS" = some (.str "0123" t)) : Has P w K mg base "image" ["code", "word"] 3 (spP K 2 p_image) := by
  obtain ⟨f, fd, gm, F⟩ := F
  refine ⟨f, fd, gm, F.kp, F.binds (ps := ["code", "word"]) (fun _ _ _ _ _ _ us hl => match us, hl with | [_, _], _ => rfl), ?_⟩
  exact fn_p (N := N_image) (b := f_image) F ⟨rfl, rfl, rfl, nd_image, rfl, by decide +kernel, by decide +kernel⟩ (by decide) fun cdv A outer s H E hr =>
   (ss_cons (ss_expr (se_callH H_check_code hr (by decide) (sa_cons (sv 0) sa_nil)))
    (ss_cons (ss_asg (sv 0) (sg_tup rfl (sgs_cons (sg_name 2 nd_image) (sgs_cons (sg_name 3 nd_image) (sgs_cons (sg_name 4 nd_image) (sgs_cons (sg_name 5 nd_image) sgs_nil))))))
    (ss_cons (ss_if (st_not (st_tru (se_all rfl m_all (sab_cons (sn_lc (own := [("sign", 6)]) rfl nd_image (si_seq (sv 1)) (blkOk_by (by rfl)) (fun _ _ _ _ _ => (sg_name 6 nd_image)) (fun _ _ _ _ _ => sts_nil) (fun _ _ _ _ _ => (se_sc (sc_in2 hr (sbv 6) (se_cut (se_gl (v := (.str "0123")) g_DIGITS.choose_spec ⟨_, rfl⟩ (fun _ _ _ => .str _)).sb so_none (so_some (sv 2))).sb)))).se.sb sab_nil)).sb)) (ss_one ss_never) ss_nil)
    (ss_one (ss_ret (se_join se_str.sb (sab_cons (sn_lc (own := [("k", 7)]) rfl nd_image (si_r1 m_range (se_add (se_sub (se_len m_len (sab_cons (sbv 1) sab_nil)).sb (sbv 4)).sb se_int.sb)) (blkOk_by (by rfl)) (fun _ _ _ _ _ => (sg_name 7 nd_image)) (fun _ _ _ _ _ => sts_nil) (fun _ _ _ _ _ => (se_at (sbv 5) (se_callH H_number_of hr (by decide) (sa_cons (sv 2) (sa_cons (se_cut (sbv 1) (so_some (sv 7)) (so_some (se_add (sbv 7) (sbv 4)))) sa_nil))).sb))).se.sb sab_nil)))))))

/-! ### step -/
abbrev s_step : Stmt := topS 40
abbrev N_step : List Str := ["rule", "ring", "half", "wide"]
theorem nd_step : N_step.Nodup := by decide
def f_step : FS :=
  (sSeq (sDrop (eCall (argc 1 p_check_rule) (aCons (eVar 0) aNil)))
    (sSeq (sDrop (eCall (argc 2 p_check_ring) (aCons (e2 qIx (eOwn 0) (eC (.int 0))) (aCons (eVar 1) aNil))))
    (sSeq (sSet 2 (e2 qDiv (e2 qIx (eOwn 0) (eC (.int 2))) (eC (.int 2))))
    (sSeq (sSet 3 (e2 qMul (eOwn 1) (e2 qAdd (e2 qDiv (eOwn 2) (eCall qLen (aCons (eOwn 1) aNil))) (eC (.int 1)))))
    (sRet (eCall (argc 2 p_image) (aCons (eVar 0) (aCons (e2 qAdd (e2 qAdd (eCut (eOwn 3) (oSome (e2 qSub (eCall qLen (aCons (eOwn 3) aNil)) (eOwn 2))) oNone) (eOwn 1)) (eCut (eOwn 3) oNone (oSome (eVar 2)))) aNil))))))))
def p_step := bodyP 4 f_step
theorem ok_step {P : Program} {w : World} {K : PySem.W.Frag} {mg : Str → Option Value} {base : Heap} (F : FunAt K mg "step" s_step) (H_check_ring : Has P w K mg base "check_ring" ["signs", "ring"] 1 (spP K 2 p_check_ring)) (H_check_rule : Has P w K mg base "check_rule" ["rule"] 3 (spP K 1 p_check_rule)) (H_image : Has P w K mg base "image" ["code", "word"] 3 (spP K 2 p_image)) (m_len : mg "len" = none) : Has P w K mg base "step" ["rule", "ring"] 4 (spP K 2 p_step) := by
  obtain ⟨f, fd, gm, F⟩ := F
  refine ⟨f, fd, gm, F.kp, F.binds (ps := ["rule", "ring"]) (fun _ _ _ _ _ _ us hl => match us, hl with | [_, _], _ => rfl), ?_⟩
  exact fn_p (N := N_step) (b := f_step) F ⟨rfl, rfl, rfl, nd_step, rfl, by decide +kernel, by decide +kernel⟩ (by decide) fun cdv A outer s H E hr =>
   (ss_cons (ss_expr (se_callH H_check_rule hr (by decide) (sa_cons (sv 0) sa_nil)))
    (ss_cons (ss_expr (se_callH H_check_ring hr (by decide) (sa_cons (se_at (sbv 0) se_int.sb) (sa_cons (sv 1) sa_nil))))
    (ss_cons (ss_set (i := 2) nd_step (se_div (se_at (sbv 0) se_int.sb).sb se_int.sb))
    (ss_cons (ss_set (i := 3) nd_step (se_mul (sbv 1) (se_add (se_div (sbv 2) (se_len m_len (sab_cons (sbv 1) sab_nil)).sb).sb se_int.sb).sb))
    (ss_one (ss_ret (se_callH H_image hr (by decide) (sa_cons (sv 0) (sa_cons (se_add (se_add (se_cut (sbv 3) (so_some (se_sub (se_len m_len (sab_cons (sbv 3) sab_nil)).sb (sbv 2))) so_none).sb (sbv 1)).sb (se_cut (sbv 3) so_none (so_some (sv 2))).sb) sa_nil)))))))))

/-! ### gardens -/
abbrev s_gardens : Stmt := topS 44
abbrev N_gardens : List Str := ["rule", "length", "rows", "ring"]
theorem nd_gardens : N_gardens.Nodup := by decide
def f_gardens : FS :=
  (sSeq (sDrop (eCall (argc 1 p_check_rule) (aCons (eVar 0) aNil)))
    (sSeq (sIf (tOrF (tNotF (tBool (eCh (eC (.int 1)) (lCons qLe (eOwn 1) (lLast qLe (eC (.int 12))))))) (tBool (e2 qGt (eCall (argc 2 p_power) (aCons (e2 qIx (eOwn 0) (eC (.int 0))) (aCons (eVar 1) aNil))) (eC (.int 4096))))) sNever sSkip)
    (sSeq (sSet 2 (eCall (argc 2 p_all_words) (aCons (e2 qIx (eOwn 0) (eC (.int 0))) (aCons (eVar 1) aNil))))
    (sRet (e2 qSub (eCall qLen (aCons (eOwn 2) aNil)) (eCall qLen (aCons (eDc (iSeq (eVar 2)) (gSet 3) tTrue (eCall (argc 2 p_step) (aCons (eVar 0) (aCons (eVar 3) aNil))) (eC (.bool true)) [3]) aNil)))))))
def p_gardens := bodyP 4 f_gardens
theorem ok_gardens {P : Program} {w : World} {K : PySem.W.Frag} {mg : Str → Option Value} {base : Heap} (F : FunAt K mg "gardens" s_gardens) (H_all_words : Has P w K mg base "all_words" ["signs", "length"] 1 (spP K 2 p_all_words)) (H_check_rule : Has P w K mg base "check_rule" ["rule"] 3 (spP K 1 p_check_rule)) (H_power : Has P w K mg base "power" ["base", "many"] 1 (spP K 2 p_power)) (H_step : Has P w K mg base "step" ["rule", "ring"] 4 (spP K 2 p_step)) (m_len : mg "len" = none) : Has P w K mg base "gardens" ["rule", "length"] 5 (spP K 2 p_gardens) := by
  obtain ⟨f, fd, gm, F⟩ := F
  refine ⟨f, fd, gm, F.kp, F.binds (ps := ["rule", "length"]) (fun _ _ _ _ _ _ us hl => match us, hl with | [_, _], _ => rfl), ?_⟩
  exact fn_p (N := N_gardens) (b := f_gardens) F ⟨rfl, rfl, rfl, nd_gardens, rfl, by decide +kernel, by decide +kernel⟩ (by decide) fun cdv A outer s H E hr =>
   (ss_cons (ss_expr (se_callH H_check_rule hr (by decide) (sa_cons (sv 0) sa_nil)))
    (ss_cons (ss_if (sw_or (st_not (st_ch se_int.sb (slc_le (sbv 1) (sll_le se_int.sb)))) (sw_or1 (st_sc (sc_gt (se_callH H_power hr (by decide) (sa_cons (se_at (sbv 0) se_int.sb) (sa_cons (sv 1) sa_nil))).sb se_int.sb)))).st (ss_one ss_never) ss_nil)
    (ss_cons (ss_set (i := 2) nd_gardens (se_callH H_all_words hr (by decide) (sa_cons (se_at (sbv 0) se_int.sb) (sa_cons (sv 1) sa_nil))))
    (ss_one (ss_ret (se_sub (se_len m_len (sab_cons (sbv 2) sab_nil)).sb (se_len m_len (sab_cons (sn_dc (own := [("ring", 3)]) rfl nd_gardens (si_seq (sv 2)) (blkOk_by (by rfl)) (fun _ _ _ _ _ => (sg_name 3 nd_gardens)) (fun _ _ _ _ _ => sts_nil) (fun _ _ _ _ _ => (se_callH H_step hr (by decide) (sa_cons (sv 0) (sa_cons (sv 3) sa_nil)))) (fun _ _ _ _ _ => se_bl)).se.sb sab_nil)).sb))))))

/-! ### tidy -/
abbrev s_tidy : Stmt := topS 9
abbrev N_tidy : List Str := ["modulus", "factors", "rows", "place", "factor"]
theorem nd_tidy : N_tidy.Nodup := by decide
def f_tidy : FS :=
  (sSeq (sNew 2 (eLc (iSeq (eCall qSortAll (aCons (eOwn 1) aNil))) (gSet 3) tTrue (eTup (aCons (eVar 3) (aCons (e2 qMod (e2 qDAt (eOwn 1) (eOwn 3)) (eOwn 0)) aNil))) [3]))
    (sFz 2 (sRet (eCall qTuple (aCons (eLc (iSeq (eVar 2)) (gTupD 2 (gsCons (gSet 3) (gsCons (gSet 4) gsNil))) (tBool (e2 qNe (eOwn 4) (eC (.int 0)))) (eTup (aCons (eVar 3) (aCons (eVar 4) aNil))) [3, 4]) aNil)))))
def p_tidy := bodyP 5 f_tidy
theorem ok_tidy {P : Program} {w : World} {K : PySem.W.Frag} {mg : Str → Option Value} {base : Heap} (F : FunAt K mg "tidy" s_tidy) (m_sorted : mg "sorted" = none) (m_tuple : mg "tuple" = none) : Has P w K mg base "tidy" ["modulus", "factors"] 1 (spP K 2 p_tidy) := by
  obtain ⟨f, fd, gm, F⟩ := F
  refine ⟨f, fd, gm, F.kp, F.binds (ps := ["modulus", "factors"]) (fun _ _ _ _ _ _ us hl => match us, hl with | [_, _], _ => rfl), ?_⟩
  exact fn_p (N := N_tidy) (b := f_tidy) F ⟨rfl, rfl, rfl, nd_tidy, rfl, by decide +kernel, by decide +kernel⟩ (by decide) fun cdv A outer s H E hr =>
   (ss_cons (ss_newLc (i := 2) (own := [("place", 3)]) rfl nd_tidy (si_seq (sn_sortAll rfl hr m_sorted (sab_cons (sbv 1) sab_nil)).se) (blkOk_by (by rfl)) (fun _ _ _ _ _ => (sg_name 3 nd_tidy)) (fun _ _ _ _ _ => sts_nil) (fun _ _ _ _ _ => (se_tup (sa_cons (sv 3) (sa_cons (se_mod (se_atD hr (sbv 1) (sbv 3)).sb (sbv 0)) sa_nil)))))
    (ss_one (ss_fz 2 (ss_ret (se_tuple m_tuple (sab_cons (sn_lc (own := [("place", 3), ("factor", 4)]) rfl nd_tidy (si_seq (sv 2)) (blkOk_by (by rfl)) (fun _ _ _ _ _ => (sg_tup rfl (sgs_cons (sg_name 3 nd_tidy) (sgs_cons (sg_name 4 nd_tidy) sgs_nil)))) (fun _ _ _ _ _ => (sts_one (st_sc (sc_ne hr (sbv 4) se_int.sb)))) (fun _ _ _ _ _ => (se_tup (sa_cons (sv 3) (sa_cons (sv 4) sa_nil))))).se.sb sab_nil))))))

/-! ### raw_product -/
abbrev s_raw_product : Stmt := topS 18
abbrev N_raw_product : List Str := ["modulus", "one", "other", "found", "a", "x", "b", "y"]
theorem nd_raw_product : N_raw_product.Nodup := by decide
def f_raw_product : FS :=
  (sSeq (sNew 3 eDict0)
    (sSeq (sFor (iSeq (eVar 1)) (gTupD 2 (gsCons (gSet 4) (gsCons (gSet 5) gsNil))) (sFor (iSeq (eVar 2)) (gTupD 2 (gsCons (gSet 6) (gsCons (gSet 7) gsNil))) (sPut 3 (e2 qAdd (eGet (eOwn 3) (e2 qAdd (eOwn 4) (eOwn 6)) (eC (.int 0))) (e2 qMul (eOwn 5) (eOwn 7))) (e2 qAdd (eOwn 4) (eOwn 6)))))
    (sFz 3 (sRet (eCall (argc 2 p_tidy) (aCons (eVar 0) (aCons (eVar 3) aNil)))))))
def p_raw_product := bodyP 8 f_raw_product
theorem ok_raw_product {P : Program} {w : World} {K : PySem.W.Frag} {mg : Str → Option Value} {base : Heap} (F : FunAt K mg "raw_product" s_raw_product) (H_tidy : Has P w K mg base "tidy" ["modulus", "factors"] 1 (spP K 2 p_tidy)) : Has P w K mg base "raw_product" ["modulus", "one", "other"] 2 (spP K 3 p_raw_product) := by
  obtain ⟨f, fd, gm, F⟩ := F
  refine ⟨f, fd, gm, F.kp, F.binds (ps := ["modulus", "one", "other"]) (fun _ _ _ _ _ _ us hl => match us, hl with | [_, _, _], _ => rfl), ?_⟩
  exact fn_p (N := N_raw_product) (b := f_raw_product) F ⟨rfl, rfl, rfl, nd_raw_product, rfl, by decide +kernel, by decide +kernel⟩ (by decide) fun cdv A outer s H E hr =>
   (ss_cons (ss_new (i := 3) nd_raw_product sn_dict0)
    (ss_cons (ss_for PassesOwn.never rfl (si_seq (sv 1)) (sg_tup rfl (sgs_cons (sg_name 4 nd_raw_product) (sgs_cons (sg_name 5 nd_raw_product) sgs_nil))) (ss_one (ss_for PassesOwn.never rfl (si_seq (sv 2)) (sg_tup rfl (sgs_cons (sg_name 6 nd_raw_product) (sgs_cons (sg_name 7 nd_raw_product) sgs_nil))) (ss_one (ss_put 3 hr (se_add (se_get hr (sbv 3) (se_add (sbv 4) (sbv 6)).sb se_int).sb (se_mul (sbv 5) (sbv 7)).sb) (se_add (sbv 4) (sbv 6)))))))
    (ss_one (ss_fz 3 (ss_ret (se_callH H_tidy hr (by decide) (sa_cons (sv 0) (sa_cons (sv 3) sa_nil))))))))

/-! ### turned_number -/
abbrev s_turned_number : Stmt := topS 19
abbrev N_turned_number : List Str := ["number", "modulus", "k"]
theorem nd_turned_number : N_turned_number.Nodup := by decide
def f_turned_number : FS :=
  (sSeq (sFor (iR1 (eVar 1)) (gSet 2) (sIf (tBool (e2 qEq (e2 qMod (e2 qMul (eOwn 0) (eOwn 2)) (eOwn 1)) (e2 qMod (eC (.int 1)) (eOwn 1)))) (sRet (eVar 2)) sSkip))
    sNever)
def p_turned_number := bodyP 3 f_turned_number
theorem ok_turned_number {P : Program} {w : World} {K : PySem.W.Frag} {mg : Str → Option Value} {base : Heap} (F : FunAt K mg "turned_number" s_turned_number) (m_range : mg "range" = none) : Has P w K mg base "turned_number" ["number", "modulus"] 1 (spP K 2 p_turned_number) := by
  obtain ⟨f, fd, gm, F⟩ := F
  refine ⟨f, fd, gm, F.kp, F.binds (ps := ["number", "modulus"]) (fun _ _ _ _ _ _ us hl => match us, hl with | [_, _], _ => rfl), ?_⟩
  exact fn_p (N := N_turned_number) (b := f_turned_number) F ⟨rfl, rfl, rfl, nd_turned_number, rfl, by decide +kernel, by decide +kernel⟩ (by decide) fun cdv A outer s H E hr =>
   (ss_cons (ss_for PassesOwn.never rfl (si_r1 m_range (sv 1)) (sg_name 2 nd_turned_number) (ss_one (ss_if (st_sc (sc_eq hr (se_mod (se_mul (sbv 0) (sbv 2)).sb (sbv 1)).sb (se_mod se_int.sb (sbv 1)).sb)) (ss_one (ss_ret (sv 2))) ss_nil)))
    (ss_one ss_never))

/-! ### inverse_part -/
abbrev s_inverse_part : Stmt := topS 17
abbrev N_inverse_part : List Str := ["part", "prime", "rule", "told", "place", "factor", "pair", "now", "both", "rest"]
theorem nd_inverse_part : N_inverse_part.Nodup := by decide
def f_inverse_part : FS :=
  (sSeq (sSet 3 (eCall (argc 2 p_tidy) (aCons (eVar 0) (aCons (eCall qDictT (aCons (eOwn 2) aNil)) aNil))))
    (sSeq (sAsgG (e2 qIx (eLc (iSeq (eVar 3)) (gSet 6) (tBool (e2 qNe (e2 qMod (e2 qIx (eOwn 6) (eC (.int 1))) (eOwn 1)) (eC (.int 0)))) (eVar 6) [6]) (eC (.int 0))) (gTupD 2 (gsCons (gSet 4) (gsCons (gSet 5) gsNil))))
    (sSeq (sSet 7 (eTup (aCons (eTup (aCons (Dv.e1 qNeg (eOwn 4)) (aCons (eCall (argc 2 p_turned_number) (aCons (eVar 5) (aCons (eVar 0) aNil))) aNil))) aNil)))
    (whL (tTru (eC (.bool true))) (sSeq (sSet 8 (eCall (argc 3 p_raw_product) (aCons (eVar 0) (aCons (eVar 3) (aCons (eVar 7) aNil)))))
    (sSeq (sIf (tBool (e2 qEq (eOwn 8) (eTup (aCons (eTup (aCons (eC (.int 0)) (aCons (eC (.int 1)) aNil))) aNil)))) (sRet (eVar 7)) sSkip)
    (sSeq (sNew 9 (eDc (iSeq (eVar 8)) (gTupD 2 (gsCons (gSet 4) (gsCons (gSet 5) gsNil))) tTrue (eVar 4) (Dv.e1 qNeg (eOwn 5)) [4, 5]))
    (sSeq (sPut 9 (e2 qAdd (eGet (eOwn 9) (eC (.int 0)) (eC (.int 0))) (eC (.int 2))) (eC (.int 0)))
    (sFz 9 (sSet 7 (eCall (argc 3 p_raw_product) (aCons (eVar 0) (aCons (eVar 7) (aCons (eCall (argc 2 p_tidy) (aCons (eVar 0) (aCons (eVar 9) aNil))) aNil)))))))))) 20))))
def p_inverse_part := bodyP 10 f_inverse_part
theorem ok_inverse_part {P : Program} {w : World} {K : PySem.W.Frag} {mg : Str → Option Value} {base : Heap} (F : FunAt K mg "inverse_part" s_inverse_part) (H_raw_product : Has P w K mg base "raw_product" ["modulus", "one", "other"] 2 (spP K 3 p_raw_product)) (H_tidy : Has P w K mg base "tidy" ["modulus", "factors"] 1 (spP K 2 p_tidy)) (H_turned_number : Has P w K mg base "turned_number" ["number", "modulus"] 1 (spP K 2 p_turned_number)) (m_dict : mg "dict" = none) : Has P w K mg base "inverse_part" ["part", "prime", "rule"] 3 (spP K 3 p_inverse_part) := by
  obtain ⟨f, fd, gm, F⟩ := F
  refine ⟨f, fd, gm, F.kp, F.binds (ps := ["part", "prime", "rule"]) (fun _ _ _ _ _ _ us hl => match us, hl with | [_, _, _], _ => rfl), ?_⟩
  exact fn_p (N := N_inverse_part) (b := f_inverse_part) F ⟨rfl, rfl, rfl, nd_inverse_part, rfl, by decide +kernel, by decide +kernel⟩ (by decide) fun cdv A outer s H E hr =>
   (ss_cons (ss_set (i := 3) nd_inverse_part (se_callH H_tidy hr (by decide) (sa_cons (sv 0) (sa_cons (sn_dictT rfl hr m_dict (sab_cons (sbv 2) sab_nil)).se sa_nil))))
    (ss_cons (ss_asg (se_at (sn_lc (own := [("pair", 6)]) rfl nd_inverse_part (si_seq (sv 3)) (blkOk_by (by rfl)) (fun _ _ _ _ _ => (sg_name 6 nd_inverse_part)) (fun _ _ _ _ _ => (sts_one (st_sc (sc_ne hr (se_mod (se_at (sbv 6) se_int.sb).sb (sbv 1)).sb se_int.sb)))) (fun _ _ _ _ _ => (sv 6))).se.sb se_int.sb) (sg_tup rfl (sgs_cons (sg_name 4 nd_inverse_part) (sgs_cons (sg_name 5 nd_inverse_part) sgs_nil))))
    (ss_cons (ss_set (i := 7) nd_inverse_part (se_tup (sa_cons (se_tup (sa_cons (se_neg (sbv 4)) (sa_cons (se_callH H_turned_number hr (by decide) (sa_cons (sv 5) (sa_cons (sv 0) sa_nil))) sa_nil))) sa_nil)))
    (ss_one (ss_while 20 PassesOwn.never (st_tru se_bl.sb) (ss_cons (ss_set (i := 8) nd_inverse_part (se_callH H_raw_product hr (by decide) (sa_cons (sv 0) (sa_cons (sv 3) (sa_cons (sv 7) sa_nil)))))
    (ss_cons (ss_if (st_sc (sc_eq hr (sbv 8) (se_tup (sa_cons (se_tup (sa_cons se_int (sa_cons se_int sa_nil))) sa_nil)).sb)) (ss_one (ss_ret (sv 7))) ss_nil)
    (ss_cons (ss_newDc (i := 9) (own := [("place", 4), ("factor", 5)]) rfl nd_inverse_part (si_seq (sv 8)) (blkOk_by (by rfl)) (fun _ _ _ _ _ => (sg_tup rfl (sgs_cons (sg_name 4 nd_inverse_part) (sgs_cons (sg_name 5 nd_inverse_part) sgs_nil)))) (fun _ _ _ _ _ => sts_nil) (fun _ _ _ _ _ => (sv 4)) (fun _ _ _ _ _ => (se_neg (sbv 5))))
    (ss_cons (ss_put 9 hr (se_add (se_get hr (sbv 9) se_int.sb se_int).sb se_int.sb) se_int)
    (ss_one (ss_fz 9 (ss_set (i := 7) nd_inverse_part (se_callH H_raw_product hr (by decide) (sa_cons (sv 0) (sa_cons (sv 7) (sa_cons (se_callH H_tidy hr (by decide) (sa_cons (sv 0) (sa_cons (sv 9) sa_nil))) sa_nil))))))))))))))))

/-! ### is_turnable -/
abbrev s_is_turnable : Stmt := topS 15
abbrev N_is_turnable : List Str := ["modulus", "rule", "p", "_", "factor"]
theorem nd_is_turnable : N_is_turnable.Nodup := by decide
def f_is_turnable : FS :=
  (sSeq (sDrop (eCall (argc 2 p_check_linear) (aCons (eVar 0) (aCons (eVar 1) aNil))))
    (sRet (eCall qAll (aCons (eLc (iSeq (eCall (argc 1 p_primes_of) (aCons (eVar 0) aNil))) (gSet 2) tTrue (e2 qEq (eCall qLen (aCons (eLc (iSeq (eVar 1)) (gTupD 2 (gsCons (gSet 3) (gsCons (gSet 4) gsNil))) (tBool (e2 qNe (e2 qMod (eOwn 4) (eOwn 2)) (eC (.int 0)))) (eC (.int 1)) [3, 4]) aNil)) (eC (.int 1))) [2]) aNil))))
def p_is_turnable := bodyP 5 f_is_turnable
theorem ok_is_turnable {P : Program} {w : World} {K : PySem.W.Frag} {mg : Str → Option Value} {base : Heap} (F : FunAt K mg "is_turnable" s_is_turnable) (H_check_linear : Has P w K mg base "check_linear" ["modulus", "rule"] 1 (spP K 2 p_check_linear)) (H_primes_of : Has P w K mg base "primes_of" ["modulus"] 1 (spP K 1 p_primes_of)) (m_all : mg "all" = none) (m_len : mg "len" = none) : Has P w K mg base "is_turnable" ["modulus", "rule"] 2 (spP K 2 p_is_turnable) := by
  obtain ⟨f, fd, gm, F⟩ := F
  refine ⟨f, fd, gm, F.kp, F.binds (ps := ["modulus", "rule"]) (fun _ _ _ _ _ _ us hl => match us, hl with | [_, _], _ => rfl), ?_⟩
  exact fn_p (N := N_is_turnable) (b := f_is_turnable) F ⟨rfl, rfl, rfl, nd_is_turnable, rfl, by decide +kernel, by decide +kernel⟩ (by decide) fun cdv A outer s H E hr =>
   (ss_cons (ss_expr (se_callH H_check_linear hr (by decide) (sa_cons (sv 0) (sa_cons (sv 1) sa_nil))))
    (ss_one (ss_ret (se_all rfl m_all (sab_cons (sn_lc (own := [("p", 2)]) rfl nd_is_turnable (si_seq (se_callH H_primes_of hr (by decide) (sa_cons (sv 0) sa_nil))) (blkOk_by (by rfl)) (fun _ _ _ _ _ => (sg_name 2 nd_is_turnable)) (fun _ _ _ _ _ => sts_nil) (fun _ _ _ _ _ => (se_sc (sc_eq hr (se_len m_len (sab_cons (sn_lc (own := [("_", 3), ("factor", 4)]) rfl nd_is_turnable (si_seq (sv 1)) (blkOk_by (by rfl)) (fun _ _ _ _ _ => (sg_tup rfl (sgs_cons (sg_name 3 nd_is_turnable) (sgs_cons (sg_name 4 nd_is_turnable) sgs_nil)))) (fun _ _ _ _ _ => (sts_one (st_sc (sc_ne hr (se_mod (sbv 4) (sbv 2)).sb se_int.sb)))) (fun _ _ _ _ _ => se_int)).se.sb sab_nil)).sb se_int.sb)))).se.sb sab_nil)))))

/-! ### inverse_rule -/
abbrev s_inverse_rule : Stmt := topS 16
abbrev N_inverse_rule : List Str := ["modulus", "rule", "found", "p", "part", "rest", "share", "place", "factor"]
theorem nd_inverse_rule : N_inverse_rule.Nodup := by decide
def f_inverse_rule : FS :=
  (sSeq (sIf (tNotF (tTru (eCall (argc 2 p_is_turnable) (aCons (eVar 0) (aCons (eVar 1) aNil))))) sNever sSkip)
    (sSeq (sNew 2 eDict0)
    (sSeq (sFor (iSeq (eCall (argc 1 p_primes_of) (aCons (eVar 0) aNil))) (gSet 3) (sSeq (sSet 4 (eVar 3))
    (sSeq (whL (tBool (e2 qEq (e2 qMod (eOwn 0) (e2 qMul (eOwn 4) (eOwn 3))) (eC (.int 0)))) (sAug 4 (i2 qMulI) (eVar 3)) 10)
    (sSeq (sSet 5 (e2 qDiv (eOwn 0) (eOwn 4)))
    (sSeq (sSet 6 (eIf (tBool (e2 qLt (eOwn 4) (eOwn 0))) (e2 qMul (eOwn 5) (eCall (argc 2 p_turned_number) (aCons (e2 qMod (eOwn 5) (eOwn 4)) (aCons (eVar 4) aNil)))) (eC (.int 1))))
    (sFor (iSeq (eCall (argc 3 p_inverse_part) (aCons (eVar 4) (aCons (eVar 3) (aCons (eVar 1) aNil))))) (gTupD 2 (gsCons (gSet 7) (gsCons (gSet 8) gsNil))) (sPut 2 (e2 qAdd (eGet (eOwn 2) (eOwn 7) (eC (.int 0))) (e2 qMul (eOwn 8) (eOwn 6))) (eVar 7))))))))
    (sSeq (sFz 2 (sSet 1 (eCall (argc 2 p_tidy) (aCons (eVar 0) (aCons (eVar 2) aNil)))))
    (sSeq (sDrop (eCall (argc 2 p_check_linear) (aCons (eVar 0) (aCons (eVar 1) aNil))))
    (sRet (eVar 1)))))))
def p_inverse_rule := bodyP 9 f_inverse_rule
theorem ok_inverse_rule {P : Program} {w : World} {K : PySem.W.Frag} {mg : Str → Option Value} {base : Heap} (F : FunAt K mg "inverse_rule" s_inverse_rule) (H_check_linear : Has P w K mg base "check_linear" ["modulus", "rule"] 1 (spP K 2 p_check_linear)) (H_inverse_part : Has P w K mg base "inverse_part" ["part", "prime", "rule"] 3 (spP K 3 p_inverse_part)) (H_is_turnable : Has P w K mg base "is_turnable" ["modulus", "rule"] 2 (spP K 2 p_is_turnable)) (H_primes_of : Has P w K mg base "primes_of" ["modulus"] 1 (spP K 1 p_primes_of)) (H_tidy : Has P w K mg base "tidy" ["modulus", "factors"] 1 (spP K 2 p_tidy)) (H_turned_number : Has P w K mg base "turned_number" ["number", "modulus"] 1 (spP K 2 p_turned_number)) : Has P w K mg base "inverse_rule" ["modulus", "rule"] 4 (spP K 2 p_inverse_rule) := by
  obtain ⟨f, fd, gm, F⟩ := F
  refine ⟨f, fd, gm, F.kp, F.binds (ps := ["modulus", "rule"]) (fun _ _ _ _ _ _ us hl => match us, hl with | [_, _], _ => rfl), ?_⟩
  exact fn_p (N := N_inverse_rule) (b := f_inverse_rule) F ⟨rfl, rfl, rfl, nd_inverse_rule, rfl, by decide +kernel, by decide +kernel⟩ (by decide) fun cdv A outer s H E hr =>
   (ss_cons (ss_if (st_not (st_tru (se_callH H_is_turnable hr (by decide) (sa_cons (sv 0) (sa_cons (sv 1) sa_nil))).sb)) (ss_one ss_never) ss_nil)
    (ss_cons (ss_new (i := 2) nd_inverse_rule sn_dict0)
    (ss_cons (ss_for PassesOwn.never rfl (si_seq (se_callH H_primes_of hr (by decide) (sa_cons (sv 0) sa_nil))) (sg_name 3 nd_inverse_rule) (ss_cons (ss_set (i := 4) nd_inverse_rule (sv 3))
    (ss_cons (ss_while 10 PassesOwn.never (st_sc (sc_eq hr (se_mod (sbv 0) (se_mul (sbv 4) (sbv 3)).sb).sb se_int.sb)) (ss_one (ss_augMul 4 nd_inverse_rule (sv 3))))
    (ss_cons (ss_set (i := 5) nd_inverse_rule (se_div (sbv 0) (sbv 4)))
    (ss_cons (ss_set (i := 6) nd_inverse_rule (se_if (st_sc (sc_lt (sbv 4) (sbv 0))) (se_mul (sbv 5) (se_callH H_turned_number hr (by decide) (sa_cons (se_mod (sbv 5) (sbv 4)) (sa_cons (sv 4) sa_nil))).sb) se_int))
    (ss_one (ss_for PassesOwn.never rfl (si_seq (se_callH H_inverse_part hr (by decide) (sa_cons (sv 4) (sa_cons (sv 3) (sa_cons (sv 1) sa_nil))))) (sg_tup rfl (sgs_cons (sg_name 7 nd_inverse_rule) (sgs_cons (sg_name 8 nd_inverse_rule) sgs_nil))) (ss_one (ss_put 2 hr (se_add (se_get hr (sbv 2) (sbv 7) se_int).sb (se_mul (sbv 8) (sbv 6)).sb) (sv 7))))))))))
    (ss_cons (ss_fz 2 (ss_set (i := 1) nd_inverse_rule (se_callH H_tidy hr (by decide) (sa_cons (sv 0) (sa_cons (sv 2) sa_nil)))))
    (ss_cons (ss_expr (se_callH H_check_linear hr (by decide) (sa_cons (sv 0) (sa_cons (sv 1) sa_nil))))
    (ss_one (ss_ret (sv 1))))))))

/-! ### is_back -/
abbrev s_is_back : Stmt := topS 43
abbrev N_is_back : List Str := ["rule", "length", "seen", "ring", "told"]
theorem nd_is_back : N_is_back.Nodup := by decide
def f_is_back : FS :=
  (sSeq (sDrop (eCall (argc 1 p_check_rule) (aCons (eVar 0) aNil)))
    (sSeq (sIf (tOrF (tNotF (tBool (eCh (eC (.int 1)) (lCons qLe (eOwn 1) (lLast qLe (eC (.int 12))))))) (tBool (e2 qGt (eCall (argc 2 p_power) (aCons (e2 qIx (eOwn 0) (eC (.int 0))) (aCons (eVar 1) aNil))) (eC (.int 4096))))) sNever sSkip)
    (sSeq (sNew 2 eDict0)
    (sSeq (sFor (iSeq (eCall (argc 2 p_all_words) (aCons (e2 qIx (eOwn 0) (eC (.int 0))) (aCons (eVar 1) aNil)))) (gSet 3) (sSeq (sSet 4 (eCall (argc 2 p_step) (aCons (eVar 0) (aCons (eVar 3) aNil))))
    (sSeq (sIf (tBool (e2 qIn2 (eOwn 4) (eOwn 2))) (sRet (eC (.bool false))) sSkip)
    (sPut 2 (eC (.bool true)) (eVar 4)))))
    (sRet (eC (.bool true)))))))
def p_is_back := bodyP 5 f_is_back
theorem ok_is_back {P : Program} {w : World} {K : PySem.W.Frag} {mg : Str → Option Value} {base : Heap} (F : FunAt K mg "is_back" s_is_back) (H_all_words : Has P w K mg base "all_words" ["signs", "length"] 1 (spP K 2 p_all_words)) (H_check_rule : Has P w K mg base "check_rule" ["rule"] 3 (spP K 1 p_check_rule)) (H_power : Has P w K mg base "power" ["base", "many"] 1 (spP K 2 p_power)) (H_step : Has P w K mg base "step" ["rule", "ring"] 4 (spP K 2 p_step)) : Has P w K mg base "is_back" ["rule", "length"] 5 (spP K 2 p_is_back) := by
  obtain ⟨f, fd, gm, F⟩ := F
  refine ⟨f, fd, gm, F.kp, F.binds (ps := ["rule", "length"]) (fun _ _ _ _ _ _ us hl => match us, hl with | [_, _], _ => rfl), ?_⟩
  exact fn_p (N := N_is_back) (b := f_is_back) F ⟨rfl, rfl, rfl, nd_is_back, rfl, by decide +kernel, by decide +kernel⟩ (by decide) fun cdv A outer s H E hr =>
   (ss_cons (ss_expr (se_callH H_check_rule hr (by decide) (sa_cons (sv 0) sa_nil)))
    (ss_cons (ss_if (sw_or (st_not (st_ch se_int.sb (slc_le (sbv 1) (sll_le se_int.sb)))) (sw_or1 (st_sc (sc_gt (se_callH H_power hr (by decide) (sa_cons (se_at (sbv 0) se_int.sb) (sa_cons (sv 1) sa_nil))).sb se_int.sb)))).st (ss_one ss_never) ss_nil)
    (ss_cons (ss_new (i := 2) nd_is_back sn_dict0)
    (ss_cons (ss_for PassesOwn.never rfl (si_seq (se_callH H_all_words hr (by decide) (sa_cons (se_at (sbv 0) se_int.sb) (sa_cons (sv 1) sa_nil)))) (sg_name 3 nd_is_back) (ss_cons (ss_set (i := 4) nd_is_back (se_callH H_step hr (by decide) (sa_cons (sv 0) (sa_cons (sv 3) sa_nil))))
    (ss_cons (ss_if (st_sc (sc_in2 hr (sbv 4) (sbv 2))) (ss_one (ss_ret se_bl)) ss_nil)
    (ss_one (ss_put 2 hr se_bl (sv 4))))))
    (ss_one (ss_ret se_bl))))))

/-! ### product_rule -/
abbrev s_product_rule : Stmt := topS 11
abbrev N_product_rule : List Str := ["modulus", "one", "other", "found", "a", "x", "b", "y", "rule"]
theorem nd_product_rule : N_product_rule.Nodup := by decide
def f_product_rule : FS :=
  (sSeq (sDrop (eCall (argc 2 p_check_linear) (aCons (eVar 0) (aCons (eVar 1) aNil))))
    (sSeq (sDrop (eCall (argc 2 p_check_linear) (aCons (eVar 0) (aCons (eVar 2) aNil))))
    (sSeq (sNew 3 eDict0)
    (sSeq (sFor (iSeq (eVar 1)) (gTupD 2 (gsCons (gSet 4) (gsCons (gSet 5) gsNil))) (sFor (iSeq (eVar 2)) (gTupD 2 (gsCons (gSet 6) (gsCons (gSet 7) gsNil))) (sPut 3 (e2 qAdd (eGet (eOwn 3) (e2 qAdd (eOwn 4) (eOwn 6)) (eC (.int 0))) (e2 qMul (eOwn 5) (eOwn 7))) (e2 qAdd (eOwn 4) (eOwn 6)))))
    (sSeq (sFz 3 (sSet 8 (eCall (argc 2 p_tidy) (aCons (eVar 0) (aCons (eVar 3) aNil)))))
    (sSeq (sDrop (eCall (argc 2 p_check_linear) (aCons (eVar 0) (aCons (eVar 8) aNil))))
    (sRet (eVar 8))))))))
def p_product_rule := bodyP 9 f_product_rule
theorem ok_product_rule {P : Program} {w : World} {K : PySem.W.Frag} {mg : Str → Option Value} {base : Heap} (F : FunAt K mg "product_rule" s_product_rule) (H_check_linear : Has P w K mg base "check_linear" ["modulus", "rule"] 1 (spP K 2 p_check_linear)) (H_tidy : Has P w K mg base "tidy" ["modulus", "factors"] 1 (spP K 2 p_tidy)) : Has P w K mg base "product_rule" ["modulus", "one", "other"] 2 (spP K 3 p_product_rule) := by
  obtain ⟨f, fd, gm, F⟩ := F
  refine ⟨f, fd, gm, F.kp, F.binds (ps := ["modulus", "one", "other"]) (fun _ _ _ _ _ _ us hl => match us, hl with | [_, _, _], _ => rfl), ?_⟩
  exact fn_p (N := N_product_rule) (b := f_product_rule) F ⟨rfl, rfl, rfl, nd_product_rule, rfl, by decide +kernel, by decide +kernel⟩ (by decide) fun cdv A outer s H E hr =>
   (ss_cons (ss_expr (se_callH H_check_linear hr (by decide) (sa_cons (sv 0) (sa_cons (sv 1) sa_nil))))
    (ss_cons (ss_expr (se_callH H_check_linear hr (by decide) (sa_cons (sv 0) (sa_cons (sv 2) sa_nil))))
    (ss_cons (ss_new (i := 3) nd_product_rule sn_dict0)
    (ss_cons (ss_for PassesOwn.never rfl (si_seq (sv 1)) (sg_tup rfl (sgs_cons (sg_name 4 nd_product_rule) (sgs_cons (sg_name 5 nd_product_rule) sgs_nil))) (ss_one (ss_for PassesOwn.never rfl (si_seq (sv 2)) (sg_tup rfl (sgs_cons (sg_name 6 nd_product_rule) (sgs_cons (sg_name 7 nd_product_rule) sgs_nil))) (ss_one (ss_put 3 hr (se_add (se_get hr (sbv 3) (se_add (sbv 4) (sbv 6)).sb se_int).sb (se_mul (sbv 5) (sbv 7)).sb) (se_add (sbv 4) (sbv 6)))))))
    (ss_cons (ss_fz 3 (ss_set (i := 8) nd_product_rule (se_callH H_tidy hr (by decide) (sa_cons (sv 0) (sa_cons (sv 3) sa_nil)))))
    (ss_cons (ss_expr (se_callH H_check_linear hr (by decide) (sa_cons (sv 0) (sa_cons (sv 8) sa_nil))))
    (ss_one (ss_ret (sv 8)))))))))

/-! ### power_rule -/
abbrev s_power_rule : Stmt := topS 12
abbrev N_power_rule : List Str := ["modulus", "rule", "many", "found", "_"]
theorem nd_power_rule : N_power_rule.Nodup := by decide
def f_power_rule : FS :=
  (sSeq (sIf (tNotF (tBool (eCh (eC (.int 0)) (lCons qLe (eOwn 2) (lLast qLe (eC (.int 40))))))) sNever sSkip)
    (sSeq (sSet 3 (eTup (aCons (eTup (aCons (eC (.int 0)) (aCons (eC (.int 1)) aNil))) aNil)))
    (sSeq (sFor (iR1 (eVar 2)) (gSet 4) (sSet 3 (eCall (argc 3 p_product_rule) (aCons (eVar 0) (aCons (eVar 3) (aCons (eVar 1) aNil))))))
    (sRet (eVar 3)))))
def p_power_rule := bodyP 5 f_power_rule
theorem ok_power_rule {P : Program} {w : World} {K : PySem.W.Frag} {mg : Str → Option Value} {base : Heap} (F : FunAt K mg "power_rule" s_power_rule) (H_product_rule : Has P w K mg base "product_rule" ["modulus", "one", "other"] 2 (spP K 3 p_product_rule)) (m_range : mg "range" = none) : Has P w K mg base "power_rule" ["modulus", "rule", "many"] 3 (spP K 3 p_power_rule) := by
  obtain ⟨f, fd, gm, F⟩ := F
  refine ⟨f, fd, gm, F.kp, F.binds (ps := ["modulus", "rule", "many"]) (fun _ _ _ _ _ _ us hl => match us, hl with | [_, _, _], _ => rfl), ?_⟩
  exact fn_p (N := N_power_rule) (b := f_power_rule) F ⟨rfl, rfl, rfl, nd_power_rule, rfl, by decide +kernel, by decide +kernel⟩ (by decide) fun cdv A outer s H E hr =>
   (ss_cons (ss_if (st_not (st_ch se_int.sb (slc_le (sbv 2) (sll_le se_int.sb)))) (ss_one ss_never) ss_nil)
    (ss_cons (ss_set (i := 3) nd_power_rule (se_tup (sa_cons (se_tup (sa_cons se_int (sa_cons se_int sa_nil))) sa_nil)))
    (ss_cons (ss_for PassesOwn.never rfl (si_r1 m_range (sv 2)) (sg_name 4 nd_power_rule) (ss_one (ss_set (i := 3) nd_power_rule (se_callH H_product_rule hr (by decide) (sa_cons (sv 0) (sa_cons (sv 3) (sa_cons (sv 1) sa_nil)))))))
    (ss_one (ss_ret (sv 3))))))

/-! ### lights -/
abbrev s_lights : Stmt := topS 25
abbrev N_lights : List Str := ["modulus", "rule", "many"]
theorem nd_lights : N_lights.Nodup := by decide
def f_lights : FS :=
  (sRet (eCall qLen (aCons (eCall (argc 3 p_power_rule) (aCons (eVar 0) (aCons (eVar 1) (aCons (eVar 2) aNil)))) aNil)))
def p_lights := bodyP 3 f_lights
theorem ok_lights {P : Program} {w : World} {K : PySem.W.Frag} {mg : Str → Option Value} {base : Heap} (F : FunAt K mg "lights" s_lights) (H_power_rule : Has P w K mg base "power_rule" ["modulus", "rule", "many"] 3 (spP K 3 p_power_rule)) (m_len : mg "len" = none) : Has P w K mg base "lights" ["modulus", "rule", "many"] 4 (spP K 3 p_lights) := by
  obtain ⟨f, fd, gm, F⟩ := F
  refine ⟨f, fd, gm, F.kp, F.binds (ps := ["modulus", "rule", "many"]) (fun _ _ _ _ _ _ us hl => match us, hl with | [_, _, _], _ => rfl), ?_⟩
  exact fn_p (N := N_lights) (b := f_lights) F ⟨rfl, rfl, rfl, nd_lights, rfl, by decide +kernel, by decide +kernel⟩ (by decide) fun cdv A outer s H E hr =>
   (ss_one (ss_ret (se_len m_len (sab_cons (se_callH H_power_rule hr (by decide) (sa_cons (sv 0) (sa_cons (sv 1) (sa_cons (sv 2) sa_nil)))).sb sab_nil))))

/-! ### on_ring -/
abbrev s_on_ring : Stmt := topS 20
abbrev N_on_ring : List Str := ["modulus", "rule", "size", "found", "place", "factor"]
theorem nd_on_ring : N_on_ring.Nodup := by decide
def f_on_ring : FS :=
  (sSeq (sDrop (eCall (argc 2 p_check_linear) (aCons (eVar 0) (aCons (eVar 1) aNil))))
    (sSeq (sIf (tNotF (tBool (eCh (eC (.int 1)) (lCons qLe (eOwn 2) (lLast qLe (eC (.int 12))))))) sNever sSkip)
    (sSeq (sNew 3 (e2 qRep (eLst (aCons (eC (.int 0)) aNil)) (eOwn 2)))
    (sSeq (sFor (iSeq (eVar 1)) (gTupD 2 (gsCons (gSet 4) (gsCons (gSet 5) gsNil))) (sPut 3 (e2 qMod (e2 qAdd (e2 qIx (eOwn 3) (e2 qMod (eOwn 4) (eOwn 2))) (eOwn 5)) (eOwn 0)) (e2 qMod (eOwn 4) (eOwn 2))))
    (sRet (eCall qTuple (aCons (eOwn 3) aNil)))))))
def p_on_ring := bodyP 6 f_on_ring
theorem ok_on_ring {P : Program} {w : World} {K : PySem.W.Frag} {mg : Str → Option Value} {base : Heap} (F : FunAt K mg "on_ring" s_on_ring) (H_check_linear : Has P w K mg base "check_linear" ["modulus", "rule"] 1 (spP K 2 p_check_linear)) (m_tuple : mg "tuple" = none) : Has P w K mg base "on_ring" ["modulus", "rule", "size"] 2 (spP K 3 p_on_ring) := by
  obtain ⟨f, fd, gm, F⟩ := F
  refine ⟨f, fd, gm, F.kp, F.binds (ps := ["modulus", "rule", "size"]) (fun _ _ _ _ _ _ us hl => match us, hl with | [_, _, _], _ => rfl), ?_⟩
  exact fn_p (N := N_on_ring) (b := f_on_ring) F ⟨rfl, rfl, rfl, nd_on_ring, rfl, by decide +kernel, by decide +kernel⟩ (by decide) fun cdv A outer s H E hr =>
   (ss_cons (ss_expr (se_callH H_check_linear hr (by decide) (sa_cons (sv 0) (sa_cons (sv 1) sa_nil))))
    (ss_cons (ss_if (st_not (st_ch se_int.sb (slc_le (sbv 2) (sll_le se_int.sb)))) (ss_one ss_never) ss_nil)
    (ss_cons (ss_new (i := 3) nd_on_ring (sn_rep (sn_lst (sa_cons se_int sa_nil)).se.sb (sbv 2)))
    (ss_cons (ss_for PassesOwn.never rfl (si_seq (sv 1)) (sg_tup rfl (sgs_cons (sg_name 4 nd_on_ring) (sgs_cons (sg_name 5 nd_on_ring) sgs_nil))) (ss_one (ss_put 3 hr (se_mod (se_add (se_at (sbv 3) (se_mod (sbv 4) (sbv 2)).sb).sb (sbv 5)).sb (sbv 0)) (se_mod (sbv 4) (sbv 2)))))
    (ss_one (ss_ret (se_tuple m_tuple (sab_cons (sbv 3) sab_nil))))))))

/-! ### ring_product -/
abbrev s_ring_product : Stmt := topS 21
abbrev N_ring_product : List Str := ["modulus", "one", "other", "size", "k", "i"]
theorem nd_ring_product : N_ring_product.Nodup := by decide
def f_ring_product : FS :=
  (sSeq (sSet 3 (eCall qLen (aCons (eOwn 1) aNil)))
    (sRet (eCall qTuple (aCons (eLc (iR1 (eVar 3)) (gSet 4) tTrue (e2 qMod (eCall qSum (aCons (eLc (iR1 (eVar 3)) (gSet 5) tTrue (e2 qMul (e2 qIx (eOwn 1) (eOwn 5)) (e2 qIx (eOwn 2) (e2 qMod (e2 qSub (eOwn 4) (eOwn 5)) (eOwn 3)))) [5]) aNil)) (eOwn 0)) [4]) aNil))))
def p_ring_product := bodyP 6 f_ring_product
theorem ok_ring_product {P : Program} {w : World} {K : PySem.W.Frag} {mg : Str → Option Value} {base : Heap} (F : FunAt K mg "ring_product" s_ring_product) (m_len : mg "len" = none) (m_range : mg "range" = none) (m_sum : mg "sum" = none) (m_tuple : mg "tuple" = none) : Has P w K mg base "ring_product" ["modulus", "one", "other"] 1 (spP K 3 p_ring_product) := by
  obtain ⟨f, fd, gm, F⟩ := F
  refine ⟨f, fd, gm, F.kp, F.binds (ps := ["modulus", "one", "other"]) (fun _ _ _ _ _ _ us hl => match us, hl with | [_, _, _], _ => rfl), ?_⟩
  exact fn_p (N := N_ring_product) (b := f_ring_product) F ⟨rfl, rfl, rfl, nd_ring_product, rfl, by decide +kernel, by decide +kernel⟩ (by decide) fun cdv A outer s H E hr =>
   (ss_cons (ss_set (i := 3) nd_ring_product (se_len m_len (sab_cons (sbv 1) sab_nil)))
    (ss_one (ss_ret (se_tuple m_tuple (sab_cons (sn_lc (own := [("k", 4)]) rfl nd_ring_product (si_r1 m_range (sv 3)) (blkOk_by (by rfl)) (fun _ _ _ _ _ => (sg_name 4 nd_ring_product)) (fun _ _ _ _ _ => sts_nil) (fun _ _ _ _ _ => (se_mod (se_sum rfl m_sum (sab_cons (sn_lc (own := [("i", 5)]) rfl nd_ring_product (si_r1 m_range (sv 3)) (blkOk_by (by rfl)) (fun _ _ _ _ _ => (sg_name 5 nd_ring_product)) (fun _ _ _ _ _ => sts_nil) (fun _ _ _ _ _ => (se_mul (se_at (sbv 1) (sbv 5)).sb (se_at (sbv 2) (se_mod (se_sub (sbv 4) (sbv 5)).sb (sbv 3)).sb).sb))).se.sb sab_nil)).sb (sbv 0)))).se.sb sab_nil)))))

/-! ### ring_round -/
abbrev s_ring_round : Stmt := topS 22
abbrev N_ring_round : List Str := ["modulus", "rule", "size", "factors", "now", "k", "seen"]
theorem nd_ring_round : N_ring_round.Nodup := by decide
def f_ring_round : FS :=
  (sSeq (sSet 3 (eCall (argc 3 p_on_ring) (aCons (eVar 0) (aCons (eVar 1) (aCons (eVar 2) aNil)))))
    (sSeq (sSet 4 (eCall qTuple (aCons (eLc (iR1 (eVar 2)) (gSet 5) tTrue (eIf (tBool (e2 qEq (eOwn 5) (eC (.int 0)))) (eC (.int 1)) (eC (.int 0))) [5]) aNil)))
    (sSeq (sNew 6 eDict0)
    (sSeq (whL (tBool (e2 qNotin2 (eOwn 4) (eOwn 6))) (sSeq (sIf (tBool (e2 qGt (eCall qLen (aCons (eOwn 6) aNil)) (eC (.int 20000)))) sNever sSkip)
    (sSeq (sPut 6 (eCall qLen (aCons (eOwn 6) aNil)) (eVar 4))
    (sSet 4 (eCall (argc 3 p_ring_product) (aCons (eVar 0) (aCons (eVar 4) (aCons (eVar 3) aNil))))))) 4000)
    (sRet (eTup (aCons (e2 qDAt (eOwn 6) (eOwn 4)) (aCons (e2 qSub (eCall qLen (aCons (eOwn 6) aNil)) (e2 qDAt (eOwn 6) (eOwn 4))) aNil))))))))
def p_ring_round := bodyP 7 f_ring_round
theorem ok_ring_round {P : Program} {w : World} {K : PySem.W.Frag} {mg : Str → Option Value} {base : Heap} (F : FunAt K mg "ring_round" s_ring_round) (H_on_ring : Has P w K mg base "on_ring" ["modulus", "rule", "size"] 2 (spP K 3 p_on_ring)) (H_ring_product : Has P w K mg base "ring_product" ["modulus", "one", "other"] 1 (spP K 3 p_ring_product)) (m_len : mg "len" = none) (m_range : mg "range" = none) (m_tuple : mg "tuple" = none) : Has P w K mg base "ring_round" ["modulus", "rule", "size"] 3 (spP K 3 p_ring_round) := by
  obtain ⟨f, fd, gm, F⟩ := F
  refine ⟨f, fd, gm, F.kp, F.binds (ps := ["modulus", "rule", "size"]) (fun _ _ _ _ _ _ us hl => match us, hl with | [_, _, _], _ => rfl), ?_⟩
  exact fn_p (N := N_ring_round) (b := f_ring_round) F ⟨rfl, rfl, rfl, nd_ring_round, rfl, by decide +kernel, by decide +kernel⟩ (by decide) fun cdv A outer s H E hr =>
   (ss_cons (ss_set (i := 3) nd_ring_round (se_callH H_on_ring hr (by decide) (sa_cons (sv 0) (sa_cons (sv 1) (sa_cons (sv 2) sa_nil)))))
    (ss_cons (ss_set (i := 4) nd_ring_round (se_tuple m_tuple (sab_cons (sn_lc (own := [("k", 5)]) rfl nd_ring_round (si_r1 m_range (sv 2)) (blkOk_by (by rfl)) (fun _ _ _ _ _ => (sg_name 5 nd_ring_round)) (fun _ _ _ _ _ => sts_nil) (fun _ _ _ _ _ => (se_if (st_sc (sc_eq hr (sbv 5) se_int.sb)) se_int se_int))).se.sb sab_nil)))
    (ss_cons (ss_new (i := 6) nd_ring_round sn_dict0)
    (ss_cons (ss_while 4000 PassesOwn.never (st_sc (sc_notin2 hr (sbv 4) (sbv 6))) (ss_cons (ss_if (st_sc (sc_gt (se_len m_len (sab_cons (sbv 6) sab_nil)).sb se_int.sb)) (ss_one ss_never) ss_nil)
    (ss_cons (ss_put 6 hr (se_len m_len (sab_cons (sbv 6) sab_nil)) (sv 4))
    (ss_one (ss_set (i := 4) nd_ring_round (se_callH H_ring_product hr (by decide) (sa_cons (sv 0) (sa_cons (sv 4) (sa_cons (sv 3) sa_nil)))))))))
    (ss_one (ss_ret (se_tup (sa_cons (se_atD hr (sbv 6) (sbv 4)) (sa_cons (se_sub (se_len m_len (sab_cons (sbv 6) sab_nil)).sb (se_atD hr (sbv 6) (sbv 4)).sb) sa_nil)))))))))

/-! ### ring_turnable -/
abbrev s_ring_turnable : Stmt := topS 23
abbrev N_ring_turnable : List Str := ["modulus", "rule", "size"]
theorem nd_ring_turnable : N_ring_turnable.Nodup := by decide
def f_ring_turnable : FS :=
  (sRet (e2 qEq (e2 qIx (eCall (argc 3 p_ring_round) (aCons (eVar 0) (aCons (eVar 1) (aCons (eVar 2) aNil)))) (eC (.int 0))) (eC (.int 0))))
def p_ring_turnable := bodyP 3 f_ring_turnable
theorem ok_ring_turnable {P : Program} {w : World} {K : PySem.W.Frag} {mg : Str → Option Value} {base : Heap} (F : FunAt K mg "ring_turnable" s_ring_turnable) (H_ring_round : Has P w K mg base "ring_round" ["modulus", "rule", "size"] 3 (spP K 3 p_ring_round)) : Has P w K mg base "ring_turnable" ["modulus", "rule", "size"] 4 (spP K 3 p_ring_turnable) := by
  obtain ⟨f, fd, gm, F⟩ := F
  refine ⟨f, fd, gm, F.kp, F.binds (ps := ["modulus", "rule", "size"]) (fun _ _ _ _ _ _ us hl => match us, hl with | [_, _, _], _ => rfl), ?_⟩
  exact fn_p (N := N_ring_turnable) (b := f_ring_turnable) F ⟨rfl, rfl, rfl, nd_ring_turnable, rfl, by decide +kernel, by decide +kernel⟩ (by decide) fun cdv A outer s H E hr =>
   (ss_one (ss_ret (se_sc (sc_eq hr (se_at (se_callH H_ring_round hr (by decide) (sa_cons (sv 0) (sa_cons (sv 1) (sa_cons (sv 2) sa_nil)))).sb se_int.sb).sb se_int.sb))))

/-! ### round_of -/
abbrev s_round_of : Stmt := topS 42
abbrev N_round_of : List Str := ["rule", "ring", "seen", "now"]
theorem nd_round_of : N_round_of.Nodup := by decide
def f_round_of : FS :=
  (sSeq (sNew 2 eDict0)
    (sSeq (sSet 3 (eVar 1))
    (sSeq (whL (tBool (e2 qNotin2 (eOwn 3) (eOwn 2))) (sSeq (sIf (tBool (e2 qGt (eCall qLen (aCons (eOwn 2) aNil)) (eC (.int 4000)))) sNever sSkip)
    (sSeq (sPut 2 (eCall qLen (aCons (eOwn 2) aNil)) (eVar 3))
    (sSet 3 (eCall (argc 2 p_step) (aCons (eVar 0) (aCons (eVar 3) aNil)))))) 4000)
    (sRet (eTup (aCons (e2 qDAt (eOwn 2) (eOwn 3)) (aCons (e2 qSub (eCall qLen (aCons (eOwn 2) aNil)) (e2 qDAt (eOwn 2) (eOwn 3))) aNil)))))))
def p_round_of := bodyP 4 f_round_of
theorem ok_round_of {P : Program} {w : World} {K : PySem.W.Frag} {mg : Str → Option Value} {base : Heap} (F : FunAt K mg "round_of" s_round_of) (H_step : Has P w K mg base "step" ["rule", "ring"] 4 (spP K 2 p_step)) (m_len : mg "len" = none) : Has P w K mg base "round_of" ["rule", "ring"] 5 (spP K 2 p_round_of) := by
  obtain ⟨f, fd, gm, F⟩ := F
  refine ⟨f, fd, gm, F.kp, F.binds (ps := ["rule", "ring"]) (fun _ _ _ _ _ _ us hl => match us, hl with | [_, _], _ => rfl), ?_⟩
  exact fn_p (N := N_round_of) (b := f_round_of) F ⟨rfl, rfl, rfl, nd_round_of, rfl, by decide +kernel, by decide +kernel⟩ (by decide) fun cdv A outer s H E hr =>
   (ss_cons (ss_new (i := 2) nd_round_of sn_dict0)
    (ss_cons (ss_set (i := 3) nd_round_of (sv 1))
    (ss_cons (ss_while 4000 PassesOwn.never (st_sc (sc_notin2 hr (sbv 3) (sbv 2))) (ss_cons (ss_if (st_sc (sc_gt (se_len m_len (sab_cons (sbv 2) sab_nil)).sb se_int.sb)) (ss_one ss_never) ss_nil)
    (ss_cons (ss_put 2 hr (se_len m_len (sab_cons (sbv 2) sab_nil)) (sv 3))
    (ss_one (ss_set (i := 3) nd_round_of (se_callH H_step hr (by decide) (sa_cons (sv 0) (sa_cons (sv 3) sa_nil))))))))
    (ss_one (ss_ret (se_tup (sa_cons (se_atD hr (sbv 2) (sbv 3)) (sa_cons (se_sub (se_len m_len (sab_cons (sbv 2) sab_nil)).sb (se_atD hr (sbv 2) (sbv 3)).sb) sa_nil))))))))

/-! ### rule_by_number -/
abbrev s_rule_by_number : Stmt := topS 39
abbrev N_rule_by_number : List Str := ["number", "k"]
theorem nd_rule_by_number : N_rule_by_number.Nodup := by decide
def f_rule_by_number : FS :=
  (sSeq (sIf (tNotF (tBool (eCh (eC (.int 0)) (lCons qLe (eOwn 0) (lLast qLt (eC (.int 256))))))) sNever sSkip)
    (sRet (eTup (aCons (eC (.int 2)) (aCons (eC (.int 2)) (aCons (eC (.int 3)) (aCons (eMeth qJoin (eC (.str "")) (aCons (eLc (iR1 (eC (.int 8))) (gSet 1) tTrue (e2 qIx (eC (.str "0123")) (e2 qAnd1 (e2 qShr (eOwn 0) (eOwn 1)) (eC (.int 1)))) [1]) aNil)) aNil)))))))
def p_rule_by_number := bodyP 2 f_rule_by_number
theorem ok_rule_by_number {P : Program} {w : World} {K : PySem.W.Frag} {mg : Str → Option Value} {base : Heap} (F : FunAt K mg "rule_by_number" s_rule_by_number) (m_range : mg "range" = none) (g_DIGITS : ∃ t, mg "DIGITS" = some (.str "0123" t)) : Has P w K mg base "rule_by_number" ["number"] 1 (spP K 1 p_rule_by_number) := by
  obtain ⟨f, fd, gm, F⟩ := F
  refine ⟨f, fd, gm, F.kp, F.binds (ps := ["number"]) (fun _ _ _ _ _ _ us hl => match us, hl with | [_], _ => rfl), ?_⟩
  exact fn_p (N := N_rule_by_number) (b := f_rule_by_number) F ⟨rfl, rfl, rfl, nd_rule_by_number, rfl, by decide +kernel, by decide +kernel⟩ (by decide) fun cdv A outer s H E hr =>
   (ss_cons (ss_if (st_not (st_ch se_int.sb (slc_le (sbv 0) (sll_lt se_int.sb)))) (ss_one ss_never) ss_nil)
    (ss_one (ss_ret (se_tup (sa_cons se_int (sa_cons se_int (sa_cons se_int (sa_cons (se_join se_str.sb (sab_cons (sn_lc (own := [("k", 1)]) rfl nd_rule_by_number (si_r1 m_range se_int) (blkOk_by (by rfl)) (fun _ _ _ _ _ => (sg_name 1 nd_rule_by_number)) (fun _ _ _ _ _ => sts_nil) (fun _ _ _ _ _ => (se_at (se_gl (v := (.str "0123")) g_DIGITS.choose_spec ⟨_, rfl⟩ (fun _ _ _ => .str _)).sb (se_and1 (se_shr (sbv 0) (sbv 1)).sb se_int.sb).sb))).se.sb sab_nil)) sa_nil))))))))

/-! ### steps -/
abbrev s_steps : Stmt := topS 41
abbrev N_steps : List Str := ["rule", "ring", "many", "_"]
theorem nd_steps : N_steps.Nodup := by decide
def f_steps : FS :=
  (sSeq (sIf (tNotF (tBool (eCh (eC (.int 0)) (lCons qLe (eOwn 2) (lLast qLe (eC (.int 2000))))))) sNever sSkip)
    (sSeq (sDrop (eCall (argc 1 p_check_rule) (aCons (eVar 0) aNil)))
    (sSeq (sDrop (eCall (argc 2 p_check_ring) (aCons (e2 qIx (eOwn 0) (eC (.int 0))) (aCons (eVar 1) aNil))))
    (sSeq (sFor (iR1 (eVar 2)) (gSet 3) (sSet 1 (eCall (argc 2 p_step) (aCons (eVar 0) (aCons (eVar 1) aNil)))))
    (sRet (eVar 1))))))
def p_steps := bodyP 4 f_steps
theorem ok_steps {P : Program} {w : World} {K : PySem.W.Frag} {mg : Str → Option Value} {base : Heap} (F : FunAt K mg "steps" s_steps) (H_check_ring : Has P w K mg base "check_ring" ["signs", "ring"] 1 (spP K 2 p_check_ring)) (H_check_rule : Has P w K mg base "check_rule" ["rule"] 3 (spP K 1 p_check_rule)) (H_step : Has P w K mg base "step" ["rule", "ring"] 4 (spP K 2 p_step)) (m_range : mg "range" = none) : Has P w K mg base "steps" ["rule", "ring", "many"] 5 (spP K 3 p_steps) := by
  obtain ⟨f, fd, gm, F⟩ := F
  refine ⟨f, fd, gm, F.kp, F.binds (ps := ["rule", "ring", "many"]) (fun _ _ _ _ _ _ us hl => match us, hl with | [_, _, _], _ => rfl), ?_⟩
  exact fn_p (N := N_steps) (b := f_steps) F ⟨rfl, rfl, rfl, nd_steps, rfl, by decide +kernel, by decide +kernel⟩ (by decide) fun cdv A outer s H E hr =>
   (ss_cons (ss_if (st_not (st_ch se_int.sb (slc_le (sbv 2) (sll_le se_int.sb)))) (ss_one ss_never) ss_nil)
    (ss_cons (ss_expr (se_callH H_check_rule hr (by decide) (sa_cons (sv 0) sa_nil)))
    (ss_cons (ss_expr (se_callH H_check_ring hr (by decide) (sa_cons (se_at (sbv 0) se_int.sb) (sa_cons (sv 1) sa_nil))))
    (ss_cons (ss_for PassesOwn.never rfl (si_r1 m_range (sv 2)) (sg_name 3 nd_steps) (ss_one (ss_set (i := 1) nd_steps (se_callH H_step hr (by decide) (sa_cons (sv 0) (sa_cons (sv 1) sa_nil))))))
    (ss_one (ss_ret (sv 1)))))))

/-! ### sum_rule -/
abbrev s_sum_rule : Stmt := topS 10
abbrev N_sum_rule : List Str := ["modulus", "one", "other", "found", "place", "factor"]
theorem nd_sum_rule : N_sum_rule.Nodup := by decide
def f_sum_rule : FS :=
  (sSeq (sDrop (eCall (argc 2 p_check_linear) (aCons (eVar 0) (aCons (eVar 1) aNil))))
    (sSeq (sDrop (eCall (argc 2 p_check_linear) (aCons (eVar 0) (aCons (eVar 2) aNil))))
    (sSeq (sNew 3 (eCall qDictT (aCons (eOwn 1) aNil)))
    (sSeq (sFor (iSeq (eVar 2)) (gTupD 2 (gsCons (gSet 4) (gsCons (gSet 5) gsNil))) (sPut 3 (e2 qAdd (eGet (eOwn 3) (eOwn 4) (eC (.int 0))) (eOwn 5)) (eVar 4)))
    (sFz 3 (sRet (eCall (argc 2 p_tidy) (aCons (eVar 0) (aCons (eVar 3) aNil)))))))))
def p_sum_rule := bodyP 6 f_sum_rule
theorem ok_sum_rule {P : Program} {w : World} {K : PySem.W.Frag} {mg : Str → Option Value} {base : Heap} (F : FunAt K mg "sum_rule" s_sum_rule) (H_check_linear : Has P w K mg base "check_linear" ["modulus", "rule"] 1 (spP K 2 p_check_linear)) (H_tidy : Has P w K mg base "tidy" ["modulus", "factors"] 1 (spP K 2 p_tidy)) (m_dict : mg "dict" = none) : Has P w K mg base "sum_rule" ["modulus", "one", "other"] 2 (spP K 3 p_sum_rule) := by
  obtain ⟨f, fd, gm, F⟩ := F
  refine ⟨f, fd, gm, F.kp, F.binds (ps := ["modulus", "one", "other"]) (fun _ _ _ _ _ _ us hl => match us, hl with | [_, _, _], _ => rfl), ?_⟩
  exact fn_p (N := N_sum_rule) (b := f_sum_rule) F ⟨rfl, rfl, rfl, nd_sum_rule, rfl, by decide +kernel, by decide +kernel⟩ (by decide) fun cdv A outer s H E hr =>
   (ss_cons (ss_expr (se_callH H_check_linear hr (by decide) (sa_cons (sv 0) (sa_cons (sv 1) sa_nil))))
    (ss_cons (ss_expr (se_callH H_check_linear hr (by decide) (sa_cons (sv 0) (sa_cons (sv 2) sa_nil))))
    (ss_cons (ss_new (i := 3) nd_sum_rule (sn_dictT rfl hr m_dict (sab_cons (sbv 1) sab_nil)))
    (ss_cons (ss_for PassesOwn.never rfl (si_seq (sv 2)) (sg_tup rfl (sgs_cons (sg_name 4 nd_sum_rule) (sgs_cons (sg_name 5 nd_sum_rule) sgs_nil))) (ss_one (ss_put 3 hr (se_add (se_get hr (sbv 3) (sbv 4) se_int).sb (sbv 5)) (sv 4))))
    (ss_one (ss_fz 3 (ss_ret (se_callH H_tidy hr (by decide) (sa_cons (sv 0) (sa_cons (sv 3) sa_nil))))))))))

/-! ### law -/
abbrev s_law : Stmt := topS 50
abbrev N_law : List Str := ("script" :: "tape" :: "near" :: "size" :: "part" :: "left" :: "tail" :: "turn" :: "small" :: "rule" :: "ring" :: "k" :: "one" :: "mine" :: "modulus" :: "factors" :: "some" :: "whole" :: "wide" :: "numbers" :: "after" :: "a" :: "where" :: "now" :: "far" :: "other" :: "both" :: "b" :: "left_one" :: "right_one" :: "four" :: "back" :: "row" :: [])
theorem nd_law : N_law.Nodup := by decide
def f_law_1 : FS :=
  (sSet 2 (eTup (aCons (eTup (aCons (e2 qSub (eC (.int 0)) (eC (.int 1))) (aCons (eC (.int 1)) aNil))) (aCons (eTup (aCons (eC (.int 1)) (aCons (eC (.int 1)) aNil))) aNil))))
def f_law_2 : FS :=
  (sSet 3 (e2 qAdd (eC (.int 1)) (eCallT 1 1 p_law_take (aCons (eC (.int 12)) aNil))))
def f_law_3 : FS :=
  (sPar 4 5 (eC (.int 1)) (eVar 3))
def f_law_4 : FS :=
  (whL (tBool (e2 qEq (e2 qMod (eCall qInt (aCons (eOwn 5) aNil)) (eC (.int 2))) (eC (.int 0)))) (sPar 4 5 (e2 qMul (eC (.int 2)) (eOwn 4)) (e2 qDiv (eOwn 5) (eC (.int 2)))) 10)
def f_law_5 : FS :=
  (sAsgG (eCall (argc 3 p_ring_round) (aCons (eC (.int 2)) (aCons (eVar 2) (aCons (eVar 3) aNil)))) (gTupD 2 (gsCons (gSet 6) (gsCons (gSet 7) gsNil))))
def f_law_6 : FS :=
  (sIf (tOrF (tBool (e2 qNe (eOwn 6) (eIf (tBool (e2 qEq (eOwn 4) (eC (.int 1)))) (eC (.int 1)) (e2 qDiv (eOwn 4) (eC (.int 2)))))) (tAndF (tBool (e2 qEq (eOwn 5) (eC (.int 1)))) (tBool (e2 qNe (eOwn 7) (eC (.int 1)))))) (sRet (eC (.bool false))) sSkip)
def f_law_7 : FS :=
  (sFor (iSeq (eTup (aCons (eC (.int 3)) (aCons (eC (.int 5)) (aCons (eC (.int 6)) aNil))))) (gSet 8) (sIf (tBool (e2 qNe (e2 qIx (eCall (argc 3 p_ring_round) (aCons (eC (.int 2)) (aCons (eVar 2) (aCons (e2 qMul (eC (.int 2)) (eOwn 8)) aNil)))) (eC (.int 1))) (e2 qMul (eC (.int 2)) (e2 qIx (eCall (argc 3 p_ring_round) (aCons (eC (.int 2)) (aCons (eVar 2) (aCons (eVar 8) aNil)))) (eC (.int 1)))))) (sRet (eC (.bool false))) sSkip))
def f_law_8 : FS :=
  (sSet 9 (eCall (argc 1 p_rule_by_number) (aCons (eC (.int 90)) aNil)))
def f_law_9 : FS :=
  (sSet 10 (eMeth qJoin (eC (.str "")) (aCons (eLc (iR1 (eVar 3)) (gSet 11) tTrue (eCall qStr (aCons (eCallT 1 1 p_law_take (aCons (eC (.int 2)) aNil)) aNil)) [11]) aNil)))
def f_law_10 : FS :=
  (sSet 12 (eCall (argc 2 p_round_of) (aCons (eVar 9) (aCons (e2 qAdd (eC (.str "1")) (e2 qMul (eC (.str "0")) (e2 qSub (eOwn 3) (eC (.int 1))))) aNil))))
def f_law_11 : FS :=
  (sSet 13 (eCall (argc 2 p_round_of) (aCons (eVar 9) (aCons (eVar 10) aNil))))
def f_law_12 : FS :=
  (sIf (tOrF (tBool (e2 qNe (eOwn 12) (eTup (aCons (eVar 6) (aCons (eVar 7) aNil))))) (tOrF (tBool (e2 qGt (e2 qIx (eOwn 13) (eC (.int 0))) (eOwn 6))) (tBool (e2 qNe (e2 qMod (eCall qInt (aCons (eOwn 7) aNil)) (e2 qIx (eOwn 13) (eC (.int 1)))) (eC (.int 0)))))) (sRet (eC (.bool false))) sSkip)
def f_law_13 : FS :=
  (sIf (tOrF (tBool (e2 qNe (eCall (argc 2 p_gardens) (aCons (eVar 9) (aCons (eVar 3) aNil))) (e2 qSub (eCall (argc 2 p_law_power) (aCons (eC (.int 2)) (aCons (eVar 3) aNil))) (eCall (argc 2 p_law_power) (aCons (eC (.int 2)) (aCons (e2 qSub (eOwn 3) (eIf (tBool (e2 qEq (eOwn 4) (eC (.int 1)))) (eC (.int 1)) (eC (.int 2)))) aNil)))))) (tTru (eCall (argc 2 p_is_back) (aCons (eVar 9) (aCons (eVar 3) aNil))))) (sRet (eC (.bool false))) sSkip)
def f_law_14 : FS :=
  (sSet 14 (e2 qAdd (eC (.int 2)) (eCallT 1 1 p_law_take (aCons (eC (.int 2)) aNil))))
def f_law_15 : FS :=
  (sNew 15 (eLc (iR1 (eC (.int 3))) (gSet 11) tTrue (eCallT 1 1 p_law_take (aCons (eVar 14) aNil)) [11]))
def f_law_16 : FS :=
  (sSet 16 (eCall qTuple (aCons (eLc (iR1 (eC (.int 3))) (gSet 11) (tBool (e2 qGt (e2 qIx (eOwn 15) (eOwn 11)) (eC (.int 0)))) (eTup (aCons (e2 qSub (eOwn 11) (eC (.int 1))) (aCons (e2 qIx (eOwn 15) (eOwn 11)) aNil))) [11]) aNil)))
def f_law_17 : FS :=
  (sSet 17 (e2 qMod (eCall qInt (aCons (eCall qSum (aCons (eOwn 15) aNil)) aNil)) (eOwn 14)))
def f_law_18 : FS :=
  (sSet 18 (e2 qIx (eTup (aCons (eC (.int 4)) (aCons (eC (.int 8)) (aCons (eC (.int 3)) (aCons (eC (.int 9)) aNil))))) (e2 qAdd (e2 qMul (eC (.int 2)) (e2 qSub (eOwn 14) (eC (.int 2)))) (eCallT 1 1 p_law_take (aCons (eC (.int 2)) aNil)))))
def f_law_19 : FS :=
  (sSet 19 (eCall qTuple (aCons (eLc (iR1 (eVar 18)) (gSet 11) tTrue (eCallT 1 1 p_law_take (aCons (eVar 14) aNil)) [11]) aNil)))
def f_law_20 : FS :=
  (sSet 20 (eCall (argc 4 p_law_steps) (aCons (eVar 14) (aCons (eVar 16) (aCons (eVar 19) (aCons (eVar 18) aNil))))))
def f_law_21 : FS :=
  (sIf (tOrF (tBool (e2 qNe (eOwn 20) (eCall qTuple (aCons (eLc (iSeq (eVar 19)) (gSet 21) tTrue (e2 qMod (eCall qInt (aCons (e2 qMul (eOwn 17) (eOwn 21)) aNil)) (eOwn 14)) [21]) aNil)))) (tBool (e2 qNe (eCall (argc 3 p_ring_turnable) (aCons (eVar 14) (aCons (eVar 16) (aCons (eVar 18) aNil)))) (e2 qNe (eOwn 17) (eC (.int 0)))))) (sRet (eC (.bool false))) sSkip)
def f_law_22 : FS :=
  (sSet 22 (eCall (argc 3 p_on_ring) (aCons (eVar 14) (aCons (eVar 16) (aCons (eVar 18) aNil)))))
def f_law_23 : FS :=
  (sSet 23 (eCall qTuple (aCons (eLc (iR1 (eVar 18)) (gSet 11) tTrue (eCall qInt (aCons (e2 qEq (eOwn 11) (eC (.int 0))) aNil)) [11]) aNil)))
def f_law_24 : FS :=
  (sFor (iR1 (eC (.int 4))) (gSet 11) (sSeq (sIf (tBool (e2 qNe (eOwn 23) (eCall (argc 3 p_on_ring) (aCons (eVar 14) (aCons (eCall (argc 3 p_power_rule) (aCons (eVar 14) (aCons (eVar 16) (aCons (eVar 11) aNil)))) (aCons (eVar 18) aNil)))))) (sRet (eC (.bool false))) sSkip)
    (sSet 23 (eCall (argc 3 p_ring_product) (aCons (eVar 14) (aCons (eVar 23) (aCons (eVar 22) aNil)))))))
def f_law_25 : FS :=
  (sSet 24 (eCall (argc 3 p_copies) (aCons (eVar 14) (aCons (eVar 16) (aCons (eC (.int 2)) aNil)))))
def f_law_26 : FS :=
  (sIf (tOrF (tBool (e2 qNe (eOwn 24) (eCall (argc 3 p_power_rule) (aCons (eVar 14) (aCons (eVar 16) (aCons (e2 qMul (eOwn 14) (eOwn 14)) aNil)))))) (tBool (e2 qNe (eCall (argc 3 p_lights) (aCons (eVar 14) (aCons (eVar 16) (aCons (eVar 14) aNil)))) (eCall qLen (aCons (eOwn 16) aNil))))) (sRet (eC (.bool false))) sSkip)
def f_law_27 : FS :=
  (sSet 25 (eCall qTuple (aCons (eLc (iR1 (e2 qAdd (eC (.int 1)) (eCallT 1 1 p_law_take (aCons (eC (.int 3)) aNil)))) (gSet 11) tTrue (eTup (aCons (e2 qSub (eOwn 11) (eC (.int 2))) (aCons (eC (.int 1)) aNil))) [11]) aNil)))
def f_law_28 : FS :=
  (sSet 26 (eCall (argc 3 p_sum_rule) (aCons (eVar 14) (aCons (eVar 16) (aCons (eVar 25) aNil)))))
def f_law_29 : FS :=
  (sIf (tBool (e2 qNe (eCall (argc 3 p_linear_step) (aCons (eVar 14) (aCons (eVar 26) (aCons (eVar 19) aNil)))) (eCall qTuple (aCons (eLc (iSeq (eLZ (aCons (eCall (argc 3 p_linear_step) (aCons (eVar 14) (aCons (eVar 16) (aCons (eVar 19) aNil)))) (aCons (eCall (argc 3 p_linear_step) (aCons (eVar 14) (aCons (eVar 25) (aCons (eVar 19) aNil)))) aNil)))) (gTupD 2 (gsCons (gSet 21) (gsCons (gSet 27) gsNil))) tTrue (e2 qMod (eCall qInt (aCons (e2 qAdd (eOwn 21) (eOwn 27)) aNil)) (eOwn 14)) [21, 27]) aNil)))) (sRet (eC (.bool false))) sSkip)
def f_law_30 : FS :=
  (sPar 28 29 (eCall (argc 3 p_product_rule) (aCons (eVar 14) (aCons (eCall (argc 3 p_sum_rule) (aCons (eVar 14) (aCons (eVar 16) (aCons (eVar 25) aNil)))) (aCons (eVar 16) aNil)))) (eCall (argc 3 p_sum_rule) (aCons (eVar 14) (aCons (eCall (argc 3 p_product_rule) (aCons (eVar 14) (aCons (eVar 16) (aCons (eVar 16) aNil)))) (aCons (eCall (argc 3 p_product_rule) (aCons (eVar 14) (aCons (eVar 25) (aCons (eVar 16) aNil)))) aNil)))))
def f_law_31 : FS :=
  (sIf (tBool (e2 qNe (eOwn 28) (eOwn 29))) (sRet (eC (.bool false))) sSkip)
def f_law_32 : FS :=
  (sSet 30 (eIf (tBool (e2 qEq (eCallT 1 1 p_law_take (aCons (eC (.int 2)) aNil)) (eC (.int 0)))) (eTup (aCons (eTup (aCons (eC (.int 0)) (aCons (eC (.int 1)) aNil))) (aCons (eTup (aCons (e2 qSub (eCallT 1 1 p_law_take (aCons (eC (.int 5)) aNil)) (eC (.int 2))) (aCons (eC (.int 2)) aNil))) aNil))) (eTup (aCons (eTup (aCons (e2 qSub (eC (.int 0)) (eC (.int 1))) (aCons (eC (.int 2)) aNil))) (aCons (eTup (aCons (eC (.int 1)) (aCons (eC (.int 3)) aNil))) aNil)))))
def f_law_33 : FS :=
  (sSet 30 (eCall qTuple (aCons (eSortI (eCall qDictT (aCons (eOwn 30) aNil))) aNil)))
def f_law_34 : FS :=
  (sIf (tTru (eCall (argc 2 p_is_turnable) (aCons (eC (.int 4)) (aCons (eVar 30) aNil)))) (sSeq (sSet 31 (eCall (argc 2 p_inverse_rule) (aCons (eC (.int 4)) (aCons (eVar 30) aNil))))
    (sSeq (sIf (tOrF (tBool (e2 qNe (eCall (argc 3 p_product_rule) (aCons (eC (.int 4)) (aCons (eVar 30) (aCons (eVar 31) aNil)))) (eTup (aCons (eTup (aCons (eC (.int 0)) (aCons (eC (.int 1)) aNil))) aNil)))) (tOrF (tBool (e2 qNe (eCall (argc 3 p_ring_round) (aCons (eC (.int 4)) (aCons (eVar 30) (aCons (eC (.int 6)) aNil)))) (eCall (argc 3 p_ring_round) (aCons (eC (.int 4)) (aCons (eVar 31) (aCons (eC (.int 6)) aNil)))))) (tBool (e2 qNe (e2 qIx (eCall (argc 3 p_ring_round) (aCons (eC (.int 4)) (aCons (eVar 30) (aCons (eC (.int 6)) aNil)))) (eC (.int 0))) (eC (.int 0)))))) (sRet (eC (.bool false))) sSkip)
    (sSeq (sSet 32 (eCall qTuple (aCons (eLc (iR1 (eC (.int 6))) (gSet 11) tTrue (eCallT 1 1 p_law_take (aCons (eC (.int 4)) aNil)) [11]) aNil)))
    (sIf (tBool (e2 qNe (eCall (argc 3 p_linear_step) (aCons (eC (.int 4)) (aCons (eVar 31) (aCons (eCall (argc 3 p_linear_step) (aCons (eC (.int 4)) (aCons (eVar 30) (aCons (eVar 32) aNil)))) aNil)))) (eOwn 32))) (sRet (eC (.bool false))) sSkip)))) sSkip)
def f_law_35 : FS :=
  (sRet (e2 qEq (eCall (argc 3 p_steps) (aCons (eVar 9) (aCons (eVar 10) (aCons (e2 qAdd (eOwn 6) (eOwn 7)) aNil)))) (eCall (argc 3 p_steps) (aCons (eVar 9) (aCons (eVar 10) (aCons (eVar 6) aNil))))))
def f_law : FS :=
  (sSeq f_law_1
    (sSeq f_law_2
    (sSeq f_law_3
    (sSeq f_law_4
    (sSeq f_law_5
    (sSeq f_law_6
    (sSeq f_law_7
    (sSeq f_law_8
    (sSeq f_law_9
    (sSeq f_law_10
    (sSeq f_law_11
    (sSeq f_law_12
    (sSeq f_law_13
    (sSeq f_law_14
    (sSeq f_law_15
    (sSeq f_law_16
    (sSeq f_law_17
    (sSeq f_law_18
    (sSeq f_law_19
    (sSeq f_law_20
    (sSeq f_law_21
    (sSeq f_law_22
    (sSeq f_law_23
    (sSeq f_law_24
    (sSeq f_law_25
    (sSeq f_law_26
    (sSeq f_law_27
    (sSeq f_law_28
    (sSeq f_law_29
    (sSeq f_law_30
    (sSeq f_law_31
    (sSeq f_law_32
    (sSeq f_law_33
    (sSeq f_law_34
    f_law_35))))))))))))))))))))))))))))))))))
theorem ok_law {P : Program} {w : World} {K : PySem.W.Frag} {mg : Str → Option Value} {base : Heap} {f : Addr} {fd : FuncData} (F : Fun K "law" "law" s_law f fd) (H_law_power : Has P w K mg base "_law_power" ["base", "many"] 1 (spP K 2 p_law_power)) (H_law_steps : Has P w K mg base "_law_steps" ["modulus", "rule", "ring", "many"] 3 (spP K 4 p_law_steps)) (H_law_take : Has P w K mg base "_law_take" ["tape", "many"] 1 (spT K 1 p_law_take)) (H_law_tape : Has P w K mg base "_law_tape" ["script"] 1 (spMk K)) (H_copies : Has P w K mg base "copies" ["modulus", "rule", "many"] 2 (spP K 3 p_copies)) (H_gardens : Has P w K mg base "gardens" ["rule", "length"] 5 (spP K 2 p_gardens)) (H_inverse_rule : Has P w K mg base "inverse_rule" ["modulus", "rule"] 4 (spP K 2 p_inverse_rule)) (H_is_back : Has P w K mg base "is_back" ["rule", "length"] 5 (spP K 2 p_is_back)) (H_is_turnable : Has P w K mg base "is_turnable" ["modulus", "rule"] 2 (spP K 2 p_is_turnable)) (H_lights : Has P w K mg base "lights" ["modulus", "rule", "many"] 4 (spP K 3 p_lights)) (H_linear_step : Has P w K mg base "linear_step" ["modulus", "rule", "ring"] 2 (spP K 3 p_linear_step)) (H_on_ring : Has P w K mg base "on_ring" ["modulus", "rule", "size"] 2 (spP K 3 p_on_ring)) (H_power_rule : Has P w K mg base "power_rule" ["modulus", "rule", "many"] 3 (spP K 3 p_power_rule)) (H_product_rule : Has P w K mg base "product_rule" ["modulus", "one", "other"] 2 (spP K 3 p_product_rule)) (H_ring_product : Has P w K mg base "ring_product" ["modulus", "one", "other"] 1 (spP K 3 p_ring_product)) (H_ring_round : Has P w K mg base "ring_round" ["modulus", "rule", "size"] 3 (spP K 3 p_ring_round)) (H_ring_turnable : Has P w K mg base "ring_turnable" ["modulus", "rule", "size"] 4 (spP K 3 p_ring_turnable)) (H_round_of : Has P w K mg base "round_of" ["rule", "ring"] 5 (spP K 2 p_round_of)) (H_rule_by_number : Has P w K mg base "rule_by_number" ["number"] 1 (spP K 1 p_rule_by_number)) (H_steps : Has P w K mg base "steps" ["rule", "ring", "many"] 5 (spP K 3 p_steps)) (H_sum_rule : Has P w K mg base "sum_rule" ["modulus", "one", "other"] 2 (spP K 3 p_sum_rule)) (m_dict : mg "dict" = none) (m_int : mg "int" = none) (m_len : mg "len" = none) (m_list : mg "list" = none) (m_range : mg "range" = none) (m_sorted : mg "sorted" = none) (m_str : mg "str" = none) (m_sum : mg "sum" = none) (m_tuple : mg "tuple" = none) (m_zip : mg "zip" = none) (hm : ∀ ns : List Int, ns.length ≤ 63 → ∃ T', f_law ((List.replicate 33 .un).set 1 .tp) (mkTape ns) = some (.rt (.bool true), T')) : FnOk P w K mg base CX0 6 f fd ["script"] (spLaw K) :=
  fn_law (N := N_law) F ⟨rfl, rfl, rfl, nd_law, rfl, by decide +kernel, by decide +kernel⟩ (by decide) rfl hm fun cdv A outer s H E hr =>
    pss_cons (ps_set (i := 1) nd_law rfl (by first | exact .inl rfl | exact .inr rfl) (pe_callMk (N := 0) H_law_tape hr (by decide) (pa_cons (pe_var rfl (.inl rfl)) pa_nil)))
    (SSs.ps (ss_cons (ss_set (i := 2) nd_law (se_tup (sa_cons (se_tup (sa_cons (se_sub se_int.sb se_int.sb) (sa_cons se_int sa_nil))) (sa_cons (se_tup (sa_cons se_int (sa_cons se_int sa_nil))) sa_nil))))
    (ss_cons (ss_set (i := 3) nd_law (se_add se_int.sb (se_callTH 1 H_law_take hr (by decide) (sa_cons se_int sa_nil)).sb))
    (ss_cons (ss_par (i := 4) (j := 5) rfl nd_law se_int (sv 3))
    (ss_cons (ss_while 10 PassesOwn.never (st_sc (sc_eq hr (se_mod (se_int1 m_int (sab_cons (sbv 5) sab_nil)).sb se_int.sb).sb se_int.sb)) (ss_one (ss_par (i := 4) (j := 5) rfl nd_law (se_mul se_int.sb (sbv 4)) (se_div (sbv 5) se_int.sb))))
    (ss_cons (ss_asg (se_callH H_ring_round hr (by decide) (sa_cons se_int (sa_cons (sv 2) (sa_cons (sv 3) sa_nil)))) (sg_tup rfl (sgs_cons (sg_name 6 nd_law) (sgs_cons (sg_name 7 nd_law) sgs_nil))))
    (ss_cons (ss_if (sw_or (st_sc (sc_ne hr (sbv 6) (se_if (st_sc (sc_eq hr (sbv 4) se_int.sb)) se_int (se_div (sbv 4) se_int.sb)).sb)) (sw_or1 (sw_and (st_sc (sc_eq hr (sbv 5) se_int.sb)) (sw_and1 (st_sc (sc_ne hr (sbv 7) se_int.sb)))).st)).st (ss_one (ss_ret se_bl)) ss_nil)
    (ss_cons (ss_for PassesOwn.never rfl (si_seq (se_tup (sa_cons se_int (sa_cons se_int (sa_cons se_int sa_nil))))) (sg_name 8 nd_law) (ss_one (ss_if (st_sc (sc_ne hr (se_at (se_callH H_ring_round hr (by decide) (sa_cons se_int (sa_cons (sv 2) (sa_cons (se_mul se_int.sb (sbv 8)) sa_nil)))).sb se_int.sb).sb (se_mul se_int.sb (se_at (se_callH H_ring_round hr (by decide) (sa_cons se_int (sa_cons (sv 2) (sa_cons (sv 8) sa_nil)))).sb se_int.sb).sb).sb)) (ss_one (ss_ret se_bl)) ss_nil)))
    (ss_cons (ss_set (i := 9) nd_law (se_callH H_rule_by_number hr (by decide) (sa_cons se_int sa_nil)))
    (ss_cons (ss_set (i := 10) nd_law (se_join se_str.sb (sab_cons (sn_lc (own := [("k", 11)]) rfl nd_law (si_r1 m_range (sv 3)) (blkOk_by (by rfl)) (fun _ _ _ _ _ => (sg_name 11 nd_law)) (fun _ _ _ _ _ => sts_nil) (fun _ _ _ _ _ => (se_str1 m_str (sab_cons (se_callTH 1 H_law_take hr (by decide) (sa_cons se_int sa_nil)).sb sab_nil)))).se.sb sab_nil)))
    (ss_cons (ss_set (i := 12) nd_law (se_callH H_round_of hr (by decide) (sa_cons (sv 9) (sa_cons (se_add se_str.sb (se_mul se_str.sb (se_sub (sbv 3) se_int.sb).sb).sb) sa_nil))))
    (ss_cons (ss_set (i := 13) nd_law (se_callH H_round_of hr (by decide) (sa_cons (sv 9) (sa_cons (sv 10) sa_nil))))
    (ss_cons (ss_if (sw_or (st_sc (sc_ne hr (sbv 12) (se_tup (sa_cons (sv 6) (sa_cons (sv 7) sa_nil))).sb)) (sw_or (st_sc (sc_gt (se_at (sbv 13) se_int.sb).sb (sbv 6))) (sw_or1 (st_sc (sc_ne hr (se_mod (se_int1 m_int (sab_cons (sbv 7) sab_nil)).sb (se_at (sbv 13) se_int.sb).sb).sb se_int.sb))))).st (ss_one (ss_ret se_bl)) ss_nil)
    (ss_cons (ss_if (sw_or (st_sc (sc_ne hr (se_callH H_gardens hr (by decide) (sa_cons (sv 9) (sa_cons (sv 3) sa_nil))).sb (se_sub (se_callH H_law_power hr (by decide) (sa_cons se_int (sa_cons (sv 3) sa_nil))).sb (se_callH H_law_power hr (by decide) (sa_cons se_int (sa_cons (se_sub (sbv 3) (se_if (st_sc (sc_eq hr (sbv 4) se_int.sb)) se_int se_int).sb) sa_nil))).sb).sb)) (sw_or1 (st_tru (se_callH H_is_back hr (by decide) (sa_cons (sv 9) (sa_cons (sv 3) sa_nil))).sb))).st (ss_one (ss_ret se_bl)) ss_nil)
    (ss_cons (ss_set (i := 14) nd_law (se_add se_int.sb (se_callTH 1 H_law_take hr (by decide) (sa_cons se_int sa_nil)).sb))
    (ss_cons (ss_new (i := 15) nd_law (sn_lc (own := [("k", 11)]) rfl nd_law (si_r1 m_range se_int) (blkOk_by (by rfl)) (fun _ _ _ _ _ => (sg_name 11 nd_law)) (fun _ _ _ _ _ => sts_nil) (fun _ _ _ _ _ => (se_callTH 1 H_law_take hr (by decide) (sa_cons (sv 14) sa_nil)))))
    (ss_cons (ss_set (i := 16) nd_law (se_tuple m_tuple (sab_cons (sn_lc (own := [("k", 11)]) rfl nd_law (si_r1 m_range se_int) (blkOk_by (by rfl)) (fun _ _ _ _ _ => (sg_name 11 nd_law)) (fun _ _ _ _ _ => (sts_one (st_sc (sc_gt (se_at (sbv 15) (sbv 11)).sb se_int.sb)))) (fun _ _ _ _ _ => (se_tup (sa_cons (se_sub (sbv 11) se_int.sb) (sa_cons (se_at (sbv 15) (sbv 11)) sa_nil))))).se.sb sab_nil)))
    (ss_cons (ss_set (i := 17) nd_law (se_mod (se_int1 m_int (sab_cons (se_sum rfl m_sum (sab_cons (sbv 15) sab_nil)).sb sab_nil)).sb (sbv 14)))
    (ss_cons (ss_set (i := 18) nd_law (se_at (se_tup (sa_cons se_int (sa_cons se_int (sa_cons se_int (sa_cons se_int sa_nil))))).sb (se_add (se_mul se_int.sb (se_sub (sbv 14) se_int.sb).sb).sb (se_callTH 1 H_law_take hr (by decide) (sa_cons se_int sa_nil)).sb).sb))
    (ss_cons (ss_set (i := 19) nd_law (se_tuple m_tuple (sab_cons (sn_lc (own := [("k", 11)]) rfl nd_law (si_r1 m_range (sv 18)) (blkOk_by (by rfl)) (fun _ _ _ _ _ => (sg_name 11 nd_law)) (fun _ _ _ _ _ => sts_nil) (fun _ _ _ _ _ => (se_callTH 1 H_law_take hr (by decide) (sa_cons (sv 14) sa_nil)))).se.sb sab_nil)))
    (ss_cons (ss_set (i := 20) nd_law (se_callH H_law_steps hr (by decide) (sa_cons (sv 14) (sa_cons (sv 16) (sa_cons (sv 19) (sa_cons (sv 18) sa_nil))))))
    (ss_cons (ss_if (sw_or (st_sc (sc_ne hr (sbv 20) (se_tuple m_tuple (sab_cons (sn_lc (own := [("a", 21)]) rfl nd_law (si_seq (sv 19)) (blkOk_by (by rfl)) (fun _ _ _ _ _ => (sg_name 21 nd_law)) (fun _ _ _ _ _ => sts_nil) (fun _ _ _ _ _ => (se_mod (se_int1 m_int (sab_cons (se_mul (sbv 17) (sbv 21)).sb sab_nil)).sb (sbv 14)))).se.sb sab_nil)).sb)) (sw_or1 (st_sc (sc_ne hr (se_callH H_ring_turnable hr (by decide) (sa_cons (sv 14) (sa_cons (sv 16) (sa_cons (sv 18) sa_nil)))).sb (se_sc (sc_ne hr (sbv 17) se_int.sb)).sb)))).st (ss_one (ss_ret se_bl)) ss_nil)
    (ss_cons (ss_set (i := 22) nd_law (se_callH H_on_ring hr (by decide) (sa_cons (sv 14) (sa_cons (sv 16) (sa_cons (sv 18) sa_nil)))))
    (ss_cons (ss_set (i := 23) nd_law (se_tuple m_tuple (sab_cons (sn_lc (own := [("k", 11)]) rfl nd_law (si_r1 m_range (sv 18)) (blkOk_by (by rfl)) (fun _ _ _ _ _ => (sg_name 11 nd_law)) (fun _ _ _ _ _ => sts_nil) (fun _ _ _ _ _ => (se_int1 m_int (sab_cons (se_sc (sc_eq hr (sbv 11) se_int.sb)).sb sab_nil)))).se.sb sab_nil)))
    (ss_cons (ss_for PassesOwn.never rfl (si_r1 m_range se_int) (sg_name 11 nd_law) (ss_cons (ss_if (st_sc (sc_ne hr (sbv 23) (se_callH H_on_ring hr (by decide) (sa_cons (sv 14) (sa_cons (se_callH H_power_rule hr (by decide) (sa_cons (sv 14) (sa_cons (sv 16) (sa_cons (sv 11) sa_nil)))) (sa_cons (sv 18) sa_nil)))).sb)) (ss_one (ss_ret se_bl)) ss_nil)
    (ss_one (ss_set (i := 23) nd_law (se_callH H_ring_product hr (by decide) (sa_cons (sv 14) (sa_cons (sv 23) (sa_cons (sv 22) sa_nil))))))))
    (ss_cons (ss_set (i := 24) nd_law (se_callH H_copies hr (by decide) (sa_cons (sv 14) (sa_cons (sv 16) (sa_cons se_int sa_nil)))))
    (ss_cons (ss_if (sw_or (st_sc (sc_ne hr (sbv 24) (se_callH H_power_rule hr (by decide) (sa_cons (sv 14) (sa_cons (sv 16) (sa_cons (se_mul (sbv 14) (sbv 14)) sa_nil)))).sb)) (sw_or1 (st_sc (sc_ne hr (se_callH H_lights hr (by decide) (sa_cons (sv 14) (sa_cons (sv 16) (sa_cons (sv 14) sa_nil)))).sb (se_len m_len (sab_cons (sbv 16) sab_nil)).sb)))).st (ss_one (ss_ret se_bl)) ss_nil)
    (ss_cons (ss_set (i := 25) nd_law (se_tuple m_tuple (sab_cons (sn_lc (own := [("k", 11)]) rfl nd_law (si_r1 m_range (se_add se_int.sb (se_callTH 1 H_law_take hr (by decide) (sa_cons se_int sa_nil)).sb)) (blkOk_by (by rfl)) (fun _ _ _ _ _ => (sg_name 11 nd_law)) (fun _ _ _ _ _ => sts_nil) (fun _ _ _ _ _ => (se_tup (sa_cons (se_sub (sbv 11) se_int.sb) (sa_cons se_int sa_nil))))).se.sb sab_nil)))
    (ss_cons (ss_set (i := 26) nd_law (se_callH H_sum_rule hr (by decide) (sa_cons (sv 14) (sa_cons (sv 16) (sa_cons (sv 25) sa_nil)))))
    (ss_cons (ss_if (st_sc (sc_ne hr (se_callH H_linear_step hr (by decide) (sa_cons (sv 14) (sa_cons (sv 26) (sa_cons (sv 19) sa_nil)))).sb (se_tuple m_tuple (sab_cons (sn_lc (own := [("a", 21), ("b", 27)]) rfl nd_law (si_seq (sn_listZip rfl m_list m_zip (sa_cons (se_callH H_linear_step hr (by decide) (sa_cons (sv 14) (sa_cons (sv 16) (sa_cons (sv 19) sa_nil)))) (sa_cons (se_callH H_linear_step hr (by decide) (sa_cons (sv 14) (sa_cons (sv 25) (sa_cons (sv 19) sa_nil)))) sa_nil))).se) (blkOk_by (by rfl)) (fun _ _ _ _ _ => (sg_tup rfl (sgs_cons (sg_name 21 nd_law) (sgs_cons (sg_name 27 nd_law) sgs_nil)))) (fun _ _ _ _ _ => sts_nil) (fun _ _ _ _ _ => (se_mod (se_int1 m_int (sab_cons (se_add (sbv 21) (sbv 27)).sb sab_nil)).sb (sbv 14)))).se.sb sab_nil)).sb)) (ss_one (ss_ret se_bl)) ss_nil)
    (ss_cons (ss_par (i := 28) (j := 29) rfl nd_law (se_callH H_product_rule hr (by decide) (sa_cons (sv 14) (sa_cons (se_callH H_sum_rule hr (by decide) (sa_cons (sv 14) (sa_cons (sv 16) (sa_cons (sv 25) sa_nil)))) (sa_cons (sv 16) sa_nil)))) (se_callH H_sum_rule hr (by decide) (sa_cons (sv 14) (sa_cons (se_callH H_product_rule hr (by decide) (sa_cons (sv 14) (sa_cons (sv 16) (sa_cons (sv 16) sa_nil)))) (sa_cons (se_callH H_product_rule hr (by decide) (sa_cons (sv 14) (sa_cons (sv 25) (sa_cons (sv 16) sa_nil)))) sa_nil)))))
    (ss_cons (ss_if (st_sc (sc_ne hr (sbv 28) (sbv 29))) (ss_one (ss_ret se_bl)) ss_nil)
    (ss_cons (ss_set (i := 30) nd_law (se_if (st_sc (sc_eq hr (se_callTH 1 H_law_take hr (by decide) (sa_cons se_int sa_nil)).sb se_int.sb)) (se_tup (sa_cons (se_tup (sa_cons se_int (sa_cons se_int sa_nil))) (sa_cons (se_tup (sa_cons (se_sub (se_callTH 1 H_law_take hr (by decide) (sa_cons se_int sa_nil)).sb se_int.sb) (sa_cons se_int sa_nil))) sa_nil))) (se_tup (sa_cons (se_tup (sa_cons (se_sub se_int.sb se_int.sb) (sa_cons se_int sa_nil))) (sa_cons (se_tup (sa_cons se_int (sa_cons se_int sa_nil))) sa_nil)))))
    (ss_cons (ss_set (i := 30) nd_law (se_tuple m_tuple (sab_cons (sn_sortItems rfl hr m_sorted (sn_dictT rfl hr m_dict (sab_cons (sbv 30) sab_nil)).se.sb).se.sb sab_nil)))
    (ss_cons (ss_if (st_tru (se_callH H_is_turnable hr (by decide) (sa_cons se_int (sa_cons (sv 30) sa_nil))).sb) (ss_cons (ss_set (i := 31) nd_law (se_callH H_inverse_rule hr (by decide) (sa_cons se_int (sa_cons (sv 30) sa_nil))))
    (ss_cons (ss_if (sw_or (st_sc (sc_ne hr (se_callH H_product_rule hr (by decide) (sa_cons se_int (sa_cons (sv 30) (sa_cons (sv 31) sa_nil)))).sb (se_tup (sa_cons (se_tup (sa_cons se_int (sa_cons se_int sa_nil))) sa_nil)).sb)) (sw_or (st_sc (sc_ne hr (se_callH H_ring_round hr (by decide) (sa_cons se_int (sa_cons (sv 30) (sa_cons se_int sa_nil)))).sb (se_callH H_ring_round hr (by decide) (sa_cons se_int (sa_cons (sv 31) (sa_cons se_int sa_nil)))).sb)) (sw_or1 (st_sc (sc_ne hr (se_at (se_callH H_ring_round hr (by decide) (sa_cons se_int (sa_cons (sv 30) (sa_cons se_int sa_nil)))).sb se_int.sb).sb se_int.sb))))).st (ss_one (ss_ret se_bl)) ss_nil)
    (ss_cons (ss_set (i := 32) nd_law (se_tuple m_tuple (sab_cons (sn_lc (own := [("k", 11)]) rfl nd_law (si_r1 m_range se_int) (blkOk_by (by rfl)) (fun _ _ _ _ _ => (sg_name 11 nd_law)) (fun _ _ _ _ _ => sts_nil) (fun _ _ _ _ _ => (se_callTH 1 H_law_take hr (by decide) (sa_cons se_int sa_nil)))).se.sb sab_nil)))
    (ss_one (ss_if (st_sc (sc_ne hr (se_callH H_linear_step hr (by decide) (sa_cons se_int (sa_cons (sv 31) (sa_cons (se_callH H_linear_step hr (by decide) (sa_cons se_int (sa_cons (sv 30) (sa_cons (sv 32) sa_nil)))) sa_nil)))).sb (sbv 32))) (ss_one (ss_ret se_bl)) ss_nil))))) ss_nil)
    (ss_one (ss_ret (se_sc (sc_eq hr (se_callH H_steps hr (by decide) (sa_cons (sv 9) (sa_cons (sv 10) (sa_cons (se_add (sbv 6) (sbv 7)) sa_nil)))).sb (se_callH H_steps hr (by decide) (sa_cons (sv 9) (sa_cons (sv 10) (sa_cons (sv 6) sa_nil)))).sb)))))))))))))))))))))))))))))))))))))))
theorem all_mk {l : PySem.W.OpenLaw} {w : World} {K : PySem.W.Frag} {h : Heap} {mg : Str → Option Value} {fa : Addr} (X : K.In h) (G : h.Ns mainGlobals mg) (hfa : mg "law" = some (.ref fa)) {a_0 : Addr} {oc_0 kV_0 dc_0 pm_0 cd_0 ct_0 : Value} {od_0 an_0 : Option Addr} {sl_0 : Array (Option Value)} (x1_0 : PySem.W.nsIn K mainGlobals "_law_power" = some (some (.ref a_0))) (x2_0 : K.lookup a_0 = some ⟨oc_0, od_0, .func (PySem.W.fnOf "_law_power" "_law_power" (defArgs s_law_power) (defBody s_law_power) (defScope s_law_power) .none kV_0 dc_0 pm_0 an_0 cd_0 ct_0), sl_0⟩) (x3_0 : PySem.W.codeIn K cd_0 "_law_power" = true) (x4_0 : PySem.W.keepIn K (.ref a_0) = true) {a_1 : Addr} {oc_1 kV_1 dc_1 pm_1 cd_1 ct_1 : Value} {od_1 an_1 : Option Addr} {sl_1 : Array (Option Value)} (x1_1 : PySem.W.nsIn K mainGlobals "check_linear" = some (some (.ref a_1))) (x2_1 : K.lookup a_1 = some ⟨oc_1, od_1, .func (PySem.W.fnOf "check_linear" "check_linear" (defArgs s_check_linear) (defBody s_check_linear) (defScope s_check_linear) .none kV_1 dc_1 pm_1 an_1 cd_1 ct_1), sl_1⟩) (x3_1 : PySem.W.codeIn K cd_1 "check_linear" = true) (x4_1 : PySem.W.keepIn K (.ref a_1) = true) {a_2 : Addr} {oc_2 kV_2 dc_2 pm_2 cd_2 ct_2 : Value} {od_2 an_2 : Option Addr} {sl_2 : Array (Option Value)} (x1_2 : PySem.W.nsIn K mainGlobals "linear_step" = some (some (.ref a_2))) (x2_2 : K.lookup a_2 = some ⟨oc_2, od_2, .func (PySem.W.fnOf "linear_step" "linear_step" (defArgs s_linear_step) (defBody s_linear_step) (defScope s_linear_step) .none kV_2 dc_2 pm_2 an_2 cd_2 ct_2), sl_2⟩) (x3_2 : PySem.W.codeIn K cd_2 "linear_step" = true) (x4_2 : PySem.W.keepIn K (.ref a_2) = true) {a_3 : Addr} {oc_3 kV_3 dc_3 pm_3 cd_3 ct_3 : Value} {od_3 an_3 : Option Addr} {sl_3 : Array (Option Value)} (x1_3 : PySem.W.nsIn K mainGlobals "_law_steps" = some (some (.ref a_3))) (x2_3 : K.lookup a_3 = some ⟨oc_3, od_3, .func (PySem.W.fnOf "_law_steps" "_law_steps" (defArgs s_law_steps) (defBody s_law_steps) (defScope s_law_steps) .none kV_3 dc_3 pm_3 an_3 cd_3 ct_3), sl_3⟩) (x3_3 : PySem.W.codeIn K cd_3 "_law_steps" = true) (x4_3 : PySem.W.keepIn K (.ref a_3) = true) {a_4 : Addr} {oc_4 kV_4 dc_4 pm_4 cd_4 ct_4 : Value} {od_4 an_4 : Option Addr} {sl_4 : Array (Option Value)} (x1_4 : PySem.W.nsIn K mainGlobals "_law_take" = some (some (.ref a_4))) (x2_4 : K.lookup a_4 = some ⟨oc_4, od_4, .func (PySem.W.fnOf "_law_take" "_law_take" (defArgs s_law_take) (defBody s_law_take) (defScope s_law_take) .none kV_4 dc_4 pm_4 an_4 cd_4 ct_4), sl_4⟩) (x3_4 : PySem.W.codeIn K cd_4 "_law_take" = true) (x4_4 : PySem.W.keepIn K (.ref a_4) = true) {a_5 : Addr} {oc_5 kV_5 dc_5 pm_5 cd_5 ct_5 : Value} {od_5 an_5 : Option Addr} {sl_5 : Array (Option Value)} (x1_5 : PySem.W.nsIn K mainGlobals "_law_tape" = some (some (.ref a_5))) (x2_5 : K.lookup a_5 = some ⟨oc_5, od_5, .func (PySem.W.fnOf "_law_tape" "_law_tape" (defArgs s_law_tape) (defBody s_law_tape) (defScope s_law_tape) .none kV_5 dc_5 pm_5 an_5 cd_5 ct_5), sl_5⟩) (x3_5 : PySem.W.codeIn K cd_5 "_law_tape" = true) (x4_5 : PySem.W.keepIn K (.ref a_5) = true) {a_6 : Addr} {oc_6 kV_6 dc_6 pm_6 cd_6 ct_6 : Value} {od_6 an_6 : Option Addr} {sl_6 : Array (Option Value)} (x1_6 : PySem.W.nsIn K mainGlobals "primes_of" = some (some (.ref a_6))) (x2_6 : K.lookup a_6 = some ⟨oc_6, od_6, .func (PySem.W.fnOf "primes_of" "primes_of" (defArgs s_primes_of) (defBody s_primes_of) (defScope s_primes_of) .none kV_6 dc_6 pm_6 an_6 cd_6 ct_6), sl_6⟩) (x3_6 : PySem.W.codeIn K cd_6 "primes_of" = true) (x4_6 : PySem.W.keepIn K (.ref a_6) = true) {a_7 : Addr} {oc_7 kV_7 dc_7 pm_7 cd_7 ct_7 : Value} {od_7 an_7 : Option Addr} {sl_7 : Array (Option Value)} (x1_7 : PySem.W.nsIn K mainGlobals "copies" = some (some (.ref a_7))) (x2_7 : K.lookup a_7 = some ⟨oc_7, od_7, .func (PySem.W.fnOf "copies" "copies" (defArgs s_copies) (defBody s_copies) (defScope s_copies) .none kV_7 dc_7 pm_7 an_7 cd_7 ct_7), sl_7⟩) (x3_7 : PySem.W.codeIn K cd_7 "copies" = true) (x4_7 : PySem.W.keepIn K (.ref a_7) = true) {a_8 : Addr} {oc_8 kV_8 dc_8 pm_8 cd_8 ct_8 : Value} {od_8 an_8 : Option Addr} {sl_8 : Array (Option Value)} (x1_8 : PySem.W.nsIn K mainGlobals "all_words" = some (some (.ref a_8))) (x2_8 : K.lookup a_8 = some ⟨oc_8, od_8, .func (PySem.W.fnOf "all_words" "all_words" (defArgs s_all_words) (defBody s_all_words) (defScope s_all_words) .none kV_8 dc_8 pm_8 an_8 cd_8 ct_8), sl_8⟩) (x3_8 : PySem.W.codeIn K cd_8 "all_words" = true) (x4_8 : PySem.W.keepIn K (.ref a_8) = true) {a_9 : Addr} {oc_9 kV_9 dc_9 pm_9 cd_9 ct_9 : Value} {od_9 an_9 : Option Addr} {sl_9 : Array (Option Value)} (x1_9 : PySem.W.nsIn K mainGlobals "power" = some (some (.ref a_9))) (x2_9 : K.lookup a_9 = some ⟨oc_9, od_9, .func (PySem.W.fnOf "power" "power" (defArgs s_power) (defBody s_power) (defScope s_power) .none kV_9 dc_9 pm_9 an_9 cd_9 ct_9), sl_9⟩) (x3_9 : PySem.W.codeIn K cd_9 "power" = true) (x4_9 : PySem.W.keepIn K (.ref a_9) = true) {a_10 : Addr} {oc_10 kV_10 dc_10 pm_10 cd_10 ct_10 : Value} {od_10 an_10 : Option Addr} {sl_10 : Array (Option Value)} (x1_10 : PySem.W.nsIn K mainGlobals "check_code" = some (some (.ref a_10))) (x2_10 : K.lookup a_10 = some ⟨oc_10, od_10, .func (PySem.W.fnOf "check_code" "check_code" (defArgs s_check_code) (defBody s_check_code) (defScope s_check_code) .none kV_10 dc_10 pm_10 an_10 cd_10 ct_10), sl_10⟩) (x3_10 : PySem.W.codeIn K cd_10 "check_code" = true) (x4_10 : PySem.W.keepIn K (.ref a_10) = true) {a_11 : Addr} {oc_11 kV_11 dc_11 pm_11 cd_11 ct_11 : Value} {od_11 an_11 : Option Addr} {sl_11 : Array (Option Value)} (x1_11 : PySem.W.nsIn K mainGlobals "check_rule" = some (some (.ref a_11))) (x2_11 : K.lookup a_11 = some ⟨oc_11, od_11, .func (PySem.W.fnOf "check_rule" "check_rule" (defArgs s_check_rule) (defBody s_check_rule) (defScope s_check_rule) .none kV_11 dc_11 pm_11 an_11 cd_11 ct_11), sl_11⟩) (x3_11 : PySem.W.codeIn K cd_11 "check_rule" = true) (x4_11 : PySem.W.keepIn K (.ref a_11) = true) {a_12 : Addr} {oc_12 kV_12 dc_12 pm_12 cd_12 ct_12 : Value} {od_12 an_12 : Option Addr} {sl_12 : Array (Option Value)} (x1_12 : PySem.W.nsIn K mainGlobals "check_ring" = some (some (.ref a_12))) (x2_12 : K.lookup a_12 = some ⟨oc_12, od_12, .func (PySem.W.fnOf "check_ring" "check_ring" (defArgs s_check_ring) (defBody s_check_ring) (defScope s_check_ring) .none kV_12 dc_12 pm_12 an_12 cd_12 ct_12), sl_12⟩) (x3_12 : PySem.W.codeIn K cd_12 "check_ring" = true) (x4_12 : PySem.W.keepIn K (.ref a_12) = true) {a_13 : Addr} {oc_13 kV_13 dc_13 pm_13 cd_13 ct_13 : Value} {od_13 an_13 : Option Addr} {sl_13 : Array (Option Value)} (x1_13 : PySem.W.nsIn K mainGlobals "number_of" = some (some (.ref a_13))) (x2_13 : K.lookup a_13 = some ⟨oc_13, od_13, .func (PySem.W.fnOf "number_of" "number_of" (defArgs s_number_of) (defBody s_number_of) (defScope s_number_of) .none kV_13 dc_13 pm_13 an_13 cd_13 ct_13), sl_13⟩) (x3_13 : PySem.W.codeIn K cd_13 "number_of" = true) (x4_13 : PySem.W.keepIn K (.ref a_13) = true) {a_14 : Addr} {oc_14 kV_14 dc_14 pm_14 cd_14 ct_14 : Value} {od_14 an_14 : Option Addr} {sl_14 : Array (Option Value)} (x1_14 : PySem.W.nsIn K mainGlobals "image" = some (some (.ref a_14))) (x2_14 : K.lookup a_14 = some ⟨oc_14, od_14, .func (PySem.W.fnOf "image" "image" (defArgs s_image) (defBody s_image) (defScope s_image) .none kV_14 dc_14 pm_14 an_14 cd_14 ct_14), sl_14⟩) (x3_14 : PySem.W.codeIn K cd_14 "image" = true) (x4_14 : PySem.W.keepIn K (.ref a_14) = true) {a_15 : Addr} {oc_15 kV_15 dc_15 pm_15 cd_15 ct_15 : Value} {od_15 an_15 : Option Addr} {sl_15 : Array (Option Value)} (x1_15 : PySem.W.nsIn K mainGlobals "step" = some (some (.ref a_15))) (x2_15 : K.lookup a_15 = some ⟨oc_15, od_15, .func (PySem.W.fnOf "step" "step" (defArgs s_step) (defBody s_step) (defScope s_step) .none kV_15 dc_15 pm_15 an_15 cd_15 ct_15), sl_15⟩) (x3_15 : PySem.W.codeIn K cd_15 "step" = true) (x4_15 : PySem.W.keepIn K (.ref a_15) = true) {a_16 : Addr} {oc_16 kV_16 dc_16 pm_16 cd_16 ct_16 : Value} {od_16 an_16 : Option Addr} {sl_16 : Array (Option Value)} (x1_16 : PySem.W.nsIn K mainGlobals "gardens" = some (some (.ref a_16))) (x2_16 : K.lookup a_16 = some ⟨oc_16, od_16, .func (PySem.W.fnOf "gardens" "gardens" (defArgs s_gardens) (defBody s_gardens) (defScope s_gardens) .none kV_16 dc_16 pm_16 an_16 cd_16 ct_16), sl_16⟩) (x3_16 : PySem.W.codeIn K cd_16 "gardens" = true) (x4_16 : PySem.W.keepIn K (.ref a_16) = true) {a_17 : Addr} {oc_17 kV_17 dc_17 pm_17 cd_17 ct_17 : Value} {od_17 an_17 : Option Addr} {sl_17 : Array (Option Value)} (x1_17 : PySem.W.nsIn K mainGlobals "tidy" = some (some (.ref a_17))) (x2_17 : K.lookup a_17 = some ⟨oc_17, od_17, .func (PySem.W.fnOf "tidy" "tidy" (defArgs s_tidy) (defBody s_tidy) (defScope s_tidy) .none kV_17 dc_17 pm_17 an_17 cd_17 ct_17), sl_17⟩) (x3_17 : PySem.W.codeIn K cd_17 "tidy" = true) (x4_17 : PySem.W.keepIn K (.ref a_17) = true) {a_18 : Addr} {oc_18 kV_18 dc_18 pm_18 cd_18 ct_18 : Value} {od_18 an_18 : Option Addr} {sl_18 : Array (Option Value)} (x1_18 : PySem.W.nsIn K mainGlobals "raw_product" = some (some (.ref a_18))) (x2_18 : K.lookup a_18 = some ⟨oc_18, od_18, .func (PySem.W.fnOf "raw_product" "raw_product" (defArgs s_raw_product) (defBody s_raw_product) (defScope s_raw_product) .none kV_18 dc_18 pm_18 an_18 cd_18 ct_18), sl_18⟩) (x3_18 : PySem.W.codeIn K cd_18 "raw_product" = true) (x4_18 : PySem.W.keepIn K (.ref a_18) = true) {a_19 : Addr} {oc_19 kV_19 dc_19 pm_19 cd_19 ct_19 : Value} {od_19 an_19 : Option Addr} {sl_19 : Array (Option Value)} (x1_19 : PySem.W.nsIn K mainGlobals "turned_number" = some (some (.ref a_19))) (x2_19 : K.lookup a_19 = some ⟨oc_19, od_19, .func (PySem.W.fnOf "turned_number" "turned_number" (defArgs s_turned_number) (defBody s_turned_number) (defScope s_turned_number) .none kV_19 dc_19 pm_19 an_19 cd_19 ct_19), sl_19⟩) (x3_19 : PySem.W.codeIn K cd_19 "turned_number" = true) (x4_19 : PySem.W.keepIn K (.ref a_19) = true) {a_20 : Addr} {oc_20 kV_20 dc_20 pm_20 cd_20 ct_20 : Value} {od_20 an_20 : Option Addr} {sl_20 : Array (Option Value)} (x1_20 : PySem.W.nsIn K mainGlobals "inverse_part" = some (some (.ref a_20))) (x2_20 : K.lookup a_20 = some ⟨oc_20, od_20, .func (PySem.W.fnOf "inverse_part" "inverse_part" (defArgs s_inverse_part) (defBody s_inverse_part) (defScope s_inverse_part) .none kV_20 dc_20 pm_20 an_20 cd_20 ct_20), sl_20⟩) (x3_20 : PySem.W.codeIn K cd_20 "inverse_part" = true) (x4_20 : PySem.W.keepIn K (.ref a_20) = true) {a_21 : Addr} {oc_21 kV_21 dc_21 pm_21 cd_21 ct_21 : Value} {od_21 an_21 : Option Addr} {sl_21 : Array (Option Value)} (x1_21 : PySem.W.nsIn K mainGlobals "is_turnable" = some (some (.ref a_21))) (x2_21 : K.lookup a_21 = some ⟨oc_21, od_21, .func (PySem.W.fnOf "is_turnable" "is_turnable" (defArgs s_is_turnable) (defBody s_is_turnable) (defScope s_is_turnable) .none kV_21 dc_21 pm_21 an_21 cd_21 ct_21), sl_21⟩) (x3_21 : PySem.W.codeIn K cd_21 "is_turnable" = true) (x4_21 : PySem.W.keepIn K (.ref a_21) = true) {a_22 : Addr} {oc_22 kV_22 dc_22 pm_22 cd_22 ct_22 : Value} {od_22 an_22 : Option Addr} {sl_22 : Array (Option Value)} (x1_22 : PySem.W.nsIn K mainGlobals "inverse_rule" = some (some (.ref a_22))) (x2_22 : K.lookup a_22 = some ⟨oc_22, od_22, .func (PySem.W.fnOf "inverse_rule" "inverse_rule" (defArgs s_inverse_rule) (defBody s_inverse_rule) (defScope s_inverse_rule) .none kV_22 dc_22 pm_22 an_22 cd_22 ct_22), sl_22⟩) (x3_22 : PySem.W.codeIn K cd_22 "inverse_rule" = true) (x4_22 : PySem.W.keepIn K (.ref a_22) = true) {a_23 : Addr} {oc_23 kV_23 dc_23 pm_23 cd_23 ct_23 : Value} {od_23 an_23 : Option Addr} {sl_23 : Array (Option Value)} (x1_23 : PySem.W.nsIn K mainGlobals "is_back" = some (some (.ref a_23))) (x2_23 : K.lookup a_23 = some ⟨oc_23, od_23, .func (PySem.W.fnOf "is_back" "is_back" (defArgs s_is_back) (defBody s_is_back) (defScope s_is_back) .none kV_23 dc_23 pm_23 an_23 cd_23 ct_23), sl_23⟩) (x3_23 : PySem.W.codeIn K cd_23 "is_back" = true) (x4_23 : PySem.W.keepIn K (.ref a_23) = true) {a_24 : Addr} {oc_24 kV_24 dc_24 pm_24 cd_24 ct_24 : Value} {od_24 an_24 : Option Addr} {sl_24 : Array (Option Value)} (x1_24 : PySem.W.nsIn K mainGlobals "product_rule" = some (some (.ref a_24))) (x2_24 : K.lookup a_24 = some ⟨oc_24, od_24, .func (PySem.W.fnOf "product_rule" "product_rule" (defArgs s_product_rule) (defBody s_product_rule) (defScope s_product_rule) .none kV_24 dc_24 pm_24 an_24 cd_24 ct_24), sl_24⟩) (x3_24 : PySem.W.codeIn K cd_24 "product_rule" = true) (x4_24 : PySem.W.keepIn K (.ref a_24) = true) {a_25 : Addr} {oc_25 kV_25 dc_25 pm_25 cd_25 ct_25 : Value} {od_25 an_25 : Option Addr} {sl_25 : Array (Option Value)} (x1_25 : PySem.W.nsIn K mainGlobals "power_rule" = some (some (.ref a_25))) (x2_25 : K.lookup a_25 = some ⟨oc_25, od_25, .func (PySem.W.fnOf "power_rule" "power_rule" (defArgs s_power_rule) (defBody s_power_rule) (defScope s_power_rule) .none kV_25 dc_25 pm_25 an_25 cd_25 ct_25), sl_25⟩) (x3_25 : PySem.W.codeIn K cd_25 "power_rule" = true) (x4_25 : PySem.W.keepIn K (.ref a_25) = true) {a_26 : Addr} {oc_26 kV_26 dc_26 pm_26 cd_26 ct_26 : Value} {od_26 an_26 : Option Addr} {sl_26 : Array (Option Value)} (x1_26 : PySem.W.nsIn K mainGlobals "lights" = some (some (.ref a_26))) (x2_26 : K.lookup a_26 = some ⟨oc_26, od_26, .func (PySem.W.fnOf "lights" "lights" (defArgs s_lights) (defBody s_lights) (defScope s_lights) .none kV_26 dc_26 pm_26 an_26 cd_26 ct_26), sl_26⟩) (x3_26 : PySem.W.codeIn K cd_26 "lights" = true) (x4_26 : PySem.W.keepIn K (.ref a_26) = true) {a_27 : Addr} {oc_27 kV_27 dc_27 pm_27 cd_27 ct_27 : Value} {od_27 an_27 : Option Addr} {sl_27 : Array (Option Value)} (x1_27 : PySem.W.nsIn K mainGlobals "on_ring" = some (some (.ref a_27))) (x2_27 : K.lookup a_27 = some ⟨oc_27, od_27, .func (PySem.W.fnOf "on_ring" "on_ring" (defArgs s_on_ring) (defBody s_on_ring) (defScope s_on_ring) .none kV_27 dc_27 pm_27 an_27 cd_27 ct_27), sl_27⟩) (x3_27 : PySem.W.codeIn K cd_27 "on_ring" = true) (x4_27 : PySem.W.keepIn K (.ref a_27) = true) {a_28 : Addr} {oc_28 kV_28 dc_28 pm_28 cd_28 ct_28 : Value} {od_28 an_28 : Option Addr} {sl_28 : Array (Option Value)} (x1_28 : PySem.W.nsIn K mainGlobals "ring_product" = some (some (.ref a_28))) (x2_28 : K.lookup a_28 = some ⟨oc_28, od_28, .func (PySem.W.fnOf "ring_product" "ring_product" (defArgs s_ring_product) (defBody s_ring_product) (defScope s_ring_product) .none kV_28 dc_28 pm_28 an_28 cd_28 ct_28), sl_28⟩) (x3_28 : PySem.W.codeIn K cd_28 "ring_product" = true) (x4_28 : PySem.W.keepIn K (.ref a_28) = true) {a_29 : Addr} {oc_29 kV_29 dc_29 pm_29 cd_29 ct_29 : Value} {od_29 an_29 : Option Addr} {sl_29 : Array (Option Value)} (x1_29 : PySem.W.nsIn K mainGlobals "ring_round" = some (some (.ref a_29))) (x2_29 : K.lookup a_29 = some ⟨oc_29, od_29, .func (PySem.W.fnOf "ring_round" "ring_round" (defArgs s_ring_round) (defBody s_ring_round) (defScope s_ring_round) .none kV_29 dc_29 pm_29 an_29 cd_29 ct_29), sl_29⟩) (x3_29 : PySem.W.codeIn K cd_29 "ring_round" = true) (x4_29 : PySem.W.keepIn K (.ref a_29) = true) {a_30 : Addr} {oc_30 kV_30 dc_30 pm_30 cd_30 ct_30 : Value} {od_30 an_30 : Option Addr} {sl_30 : Array (Option Value)} (x1_30 : PySem.W.nsIn K mainGlobals "ring_turnable" = some (some (.ref a_30))) (x2_30 : K.lookup a_30 = some ⟨oc_30, od_30, .func (PySem.W.fnOf "ring_turnable" "ring_turnable" (defArgs s_ring_turnable) (defBody s_ring_turnable) (defScope s_ring_turnable) .none kV_30 dc_30 pm_30 an_30 cd_30 ct_30), sl_30⟩) (x3_30 : PySem.W.codeIn K cd_30 "ring_turnable" = true) (x4_30 : PySem.W.keepIn K (.ref a_30) = true) {a_31 : Addr} {oc_31 kV_31 dc_31 pm_31 cd_31 ct_31 : Value} {od_31 an_31 : Option Addr} {sl_31 : Array (Option Value)} (x1_31 : PySem.W.nsIn K mainGlobals "round_of" = some (some (.ref a_31))) (x2_31 : K.lookup a_31 = some ⟨oc_31, od_31, .func (PySem.W.fnOf "round_of" "round_of" (defArgs s_round_of) (defBody s_round_of) (defScope s_round_of) .none kV_31 dc_31 pm_31 an_31 cd_31 ct_31), sl_31⟩) (x3_31 : PySem.W.codeIn K cd_31 "round_of" = true) (x4_31 : PySem.W.keepIn K (.ref a_31) = true) {a_32 : Addr} {oc_32 kV_32 dc_32 pm_32 cd_32 ct_32 : Value} {od_32 an_32 : Option Addr} {sl_32 : Array (Option Value)} (x1_32 : PySem.W.nsIn K mainGlobals "rule_by_number" = some (some (.ref a_32))) (x2_32 : K.lookup a_32 = some ⟨oc_32, od_32, .func (PySem.W.fnOf "rule_by_number" "rule_by_number" (defArgs s_rule_by_number) (defBody s_rule_by_number) (defScope s_rule_by_number) .none kV_32 dc_32 pm_32 an_32 cd_32 ct_32), sl_32⟩) (x3_32 : PySem.W.codeIn K cd_32 "rule_by_number" = true) (x4_32 : PySem.W.keepIn K (.ref a_32) = true) {a_33 : Addr} {oc_33 kV_33 dc_33 pm_33 cd_33 ct_33 : Value} {od_33 an_33 : Option Addr} {sl_33 : Array (Option Value)} (x1_33 : PySem.W.nsIn K mainGlobals "steps" = some (some (.ref a_33))) (x2_33 : K.lookup a_33 = some ⟨oc_33, od_33, .func (PySem.W.fnOf "steps" "steps" (defArgs s_steps) (defBody s_steps) (defScope s_steps) .none kV_33 dc_33 pm_33 an_33 cd_33 ct_33), sl_33⟩) (x3_33 : PySem.W.codeIn K cd_33 "steps" = true) (x4_33 : PySem.W.keepIn K (.ref a_33) = true) {a_34 : Addr} {oc_34 kV_34 dc_34 pm_34 cd_34 ct_34 : Value} {od_34 an_34 : Option Addr} {sl_34 : Array (Option Value)} (x1_34 : PySem.W.nsIn K mainGlobals "sum_rule" = some (some (.ref a_34))) (x2_34 : K.lookup a_34 = some ⟨oc_34, od_34, .func (PySem.W.fnOf "sum_rule" "sum_rule" (defArgs s_sum_rule) (defBody s_sum_rule) (defScope s_sum_rule) .none kV_34 dc_34 pm_34 an_34 cd_34 ct_34), sl_34⟩) (x3_34 : PySem.W.codeIn K cd_34 "sum_rule" = true) (x4_34 : PySem.W.keepIn K (.ref a_34) = true) {a_35 : Addr} {oc_35 kV_35 dc_35 pm_35 cd_35 ct_35 : Value} {od_35 an_35 : Option Addr} {sl_35 : Array (Option Value)} (x1_35 : PySem.W.nsIn K mainGlobals "law" = some (some (.ref a_35))) (x2_35 : K.lookup a_35 = some ⟨oc_35, od_35, .func (PySem.W.fnOf "law" "law" (defArgs s_law) (defBody s_law) (defScope s_law) .none kV_35 dc_35 pm_35 an_35 cd_35 ct_35), sl_35⟩) (x3_35 : PySem.W.codeIn K cd_35 "law" = true) (x4_35 : PySem.W.keepIn K (.ref a_35) = true) (z_abs : PySem.W.nsIn K mainGlobals "abs" = some none) (z_all : PySem.W.nsIn K mainGlobals "all" = some none) (z_dict : PySem.W.nsIn K mainGlobals "dict" = some none) (z_int : PySem.W.nsIn K mainGlobals "int" = some none) (z_len : PySem.W.nsIn K mainGlobals "len" = some none) (z_list : PySem.W.nsIn K mainGlobals "list" = some none) (z_range : PySem.W.nsIn K mainGlobals "range" = some none) (z_sorted : PySem.W.nsIn K mainGlobals "sorted" = some none) (z_str : PySem.W.nsIn K mainGlobals "str" = some none) (z_sum : PySem.W.nsIn K mainGlobals "sum" = some none) (z_tuple : PySem.W.nsIn K mainGlobals "tuple" = some none) (z_zip : PySem.W.nsIn K mainGlobals "zip" = some none) {t_DIGITS : Tok} (u_DIGITS : PySem.W.nsIn K mainGlobals "DIGITS" = some (some (.str "0123" t_DIGITS))) {t_MOST_MODULUS : Tok} (u_MOST_MODULUS : PySem.W.nsIn K mainGlobals "MOST_MODULUS" = some (some (.int 12 t_MOST_MODULUS))) {t_MOST_RING : Tok} (u_MOST_RING : PySem.W.nsIn K mainGlobals "MOST_RING" = some (some (.int 24 t_MOST_RING))) {t_MOST_SPREAD : Tok} (u_MOST_SPREAD : PySem.W.nsIn K mainGlobals "MOST_SPREAD" = some (some (.int 40 t_MOST_SPREAD))) {t_MOST_TABLE : Tok} (u_MOST_TABLE : PySem.W.nsIn K mainGlobals "MOST_TABLE" = some (some (.int 1024 t_MOST_TABLE))) (hm : ∀ ns : List Int, ns.length ≤ 63 → ∃ T', f_law ((List.replicate 33 .un).set 1 .tp) (mkTape ns) = some (.rt (.bool true), T')) :
    ∃ fd : FuncData, (∀ (s : Shared) (v : Value), BindsTo s fd ⟨[v], []⟩ [("script", v)]) ∧ ∀ base : Heap, K.In base → base.Ns mainGlobals mg → FnOk l.prog w K mg base CX0 6 fa fd ["script"] (spLaw K) := by
  have m_abs : mg "abs" = none := PySem.W.mg_none_of X G z_abs
  have m_all : mg "all" = none := PySem.W.mg_none_of X G z_all
  have m_dict : mg "dict" = none := PySem.W.mg_none_of X G z_dict
  have m_int : mg "int" = none := PySem.W.mg_none_of X G z_int
  have m_len : mg "len" = none := PySem.W.mg_none_of X G z_len
  have m_list : mg "list" = none := PySem.W.mg_none_of X G z_list
  have m_range : mg "range" = none := PySem.W.mg_none_of X G z_range
  have m_sorted : mg "sorted" = none := PySem.W.mg_none_of X G z_sorted
  have m_str : mg "str" = none := PySem.W.mg_none_of X G z_str
  have m_sum : mg "sum" = none := PySem.W.mg_none_of X G z_sum
  have m_tuple : mg "tuple" = none := PySem.W.mg_none_of X G z_tuple
  have m_zip : mg "zip" = none := PySem.W.mg_none_of X G z_zip
  have g_DIGITS : ∃ t, mg "DIGITS" = some (.str "0123" t) := ⟨_, PySem.W.mg_of X G u_DIGITS⟩
  have g_MOST_MODULUS : ∃ t, mg "MOST_MODULUS" = some (.int 12 t) := ⟨_, PySem.W.mg_of X G u_MOST_MODULUS⟩
  have g_MOST_RING : ∃ t, mg "MOST_RING" = some (.int 24 t) := ⟨_, PySem.W.mg_of X G u_MOST_RING⟩
  have g_MOST_SPREAD : ∃ t, mg "MOST_SPREAD" = some (.int 40 t) := ⟨_, PySem.W.mg_of X G u_MOST_SPREAD⟩
  have g_MOST_TABLE : ∃ t, mg "MOST_TABLE" = some (.int 1024 t) := ⟨_, PySem.W.mg_of X G u_MOST_TABLE⟩
  have e := hfa.symm.trans (PySem.W.mg_of X G x1_35)
  cases e
  refine ⟨PySem.W.fnOf "law" "law" (defArgs s_law) (defBody s_law) (defScope s_law) .none kV_35 dc_35 pm_35 an_35 cd_35 ct_35, fun s v => .of_eq rfl, fun base _ _ => ?_⟩
  have H_law_power := ok_law_power (P := l.prog) (w := w) (base := base) (funAt_mk X G x1_0 x2_0 x3_0 x4_0) m_range
  have H_check_linear := ok_check_linear (P := l.prog) (w := w) (base := base) (funAt_mk X G x1_1 x2_1 x3_1 x4_1) m_all m_zip g_MOST_MODULUS g_MOST_SPREAD
  have H_linear_step := ok_linear_step (P := l.prog) (w := w) (base := base) (funAt_mk X G x1_2 x2_2 x3_2 x4_2) H_check_linear m_all m_len m_range m_sum m_tuple
  have H_law_steps := ok_law_steps (P := l.prog) (w := w) (base := base) (funAt_mk X G x1_3 x2_3 x3_3 x4_3) H_linear_step m_range
  have H_law_take := ok_law_take (P := l.prog) (w := w) (base := base) (funAt_mk X G x1_4 x2_4 x3_4 x4_4) m_int m_len
  have H_law_tape := ok_law_tape (P := l.prog) (w := w) (base := base) (funAt_mk X G x1_5 x2_5 x3_5 x4_5) m_abs m_int
  have H_primes_of := ok_primes_of (P := l.prog) (w := w) (base := base) (funAt_mk X G x1_6 x2_6 x3_6 x4_6) m_all m_range m_tuple
  have H_copies := ok_copies (P := l.prog) (w := w) (base := base) (funAt_mk X G x1_7 x2_7 x3_7 x4_7) H_check_linear H_primes_of m_range m_tuple
  have H_all_words := ok_all_words (P := l.prog) (w := w) (base := base) (funAt_mk X G x1_8 x2_8 x3_8 x4_8) m_range g_DIGITS
  have H_power := ok_power (P := l.prog) (w := w) (base := base) (funAt_mk X G x1_9 x2_9 x3_9 x4_9) m_range
  have H_check_code := ok_check_code (P := l.prog) (w := w) (base := base) (funAt_mk X G x1_10 x2_10 x3_10 x4_10) H_power m_all m_len g_DIGITS g_MOST_TABLE
  have H_check_rule := ok_check_rule (P := l.prog) (w := w) (base := base) (funAt_mk X G x1_11 x2_11 x3_11 x4_11) H_check_code
  have H_check_ring := ok_check_ring (P := l.prog) (w := w) (base := base) (funAt_mk X G x1_12 x2_12 x3_12 x4_12) m_all m_len g_DIGITS g_MOST_RING
  have H_number_of := ok_number_of (P := l.prog) (w := w) (base := base) (funAt_mk X G x1_13 x2_13 x3_13 x4_13) m_int
  have H_image := ok_image (P := l.prog) (w := w) (base := base) (funAt_mk X G x1_14 x2_14 x3_14 x4_14) H_check_code H_number_of m_all m_len m_range g_DIGITS
  have H_step := ok_step (P := l.prog) (w := w) (base := base) (funAt_mk X G x1_15 x2_15 x3_15 x4_15) H_check_ring H_check_rule H_image m_len
  have H_gardens := ok_gardens (P := l.prog) (w := w) (base := base) (funAt_mk X G x1_16 x2_16 x3_16 x4_16) H_all_words H_check_rule H_power H_step m_len
  have H_tidy := ok_tidy (P := l.prog) (w := w) (base := base) (funAt_mk X G x1_17 x2_17 x3_17 x4_17) m_sorted m_tuple
  have H_raw_product := ok_raw_product (P := l.prog) (w := w) (base := base) (funAt_mk X G x1_18 x2_18 x3_18 x4_18) H_tidy
  have H_turned_number := ok_turned_number (P := l.prog) (w := w) (base := base) (funAt_mk X G x1_19 x2_19 x3_19 x4_19) m_range
  have H_inverse_part := ok_inverse_part (P := l.prog) (w := w) (base := base) (funAt_mk X G x1_20 x2_20 x3_20 x4_20) H_raw_product H_tidy H_turned_number m_dict
  have H_is_turnable := ok_is_turnable (P := l.prog) (w := w) (base := base) (funAt_mk X G x1_21 x2_21 x3_21 x4_21) H_check_linear H_primes_of m_all m_len
  have H_inverse_rule := ok_inverse_rule (P := l.prog) (w := w) (base := base) (funAt_mk X G x1_22 x2_22 x3_22 x4_22) H_check_linear H_inverse_part H_is_turnable H_primes_of H_tidy H_turned_number
  have H_is_back := ok_is_back (P := l.prog) (w := w) (base := base) (funAt_mk X G x1_23 x2_23 x3_23 x4_23) H_all_words H_check_rule H_power H_step
  have H_product_rule := ok_product_rule (P := l.prog) (w := w) (base := base) (funAt_mk X G x1_24 x2_24 x3_24 x4_24) H_check_linear H_tidy
  have H_power_rule := ok_power_rule (P := l.prog) (w := w) (base := base) (funAt_mk X G x1_25 x2_25 x3_25 x4_25) H_product_rule m_range
  have H_lights := ok_lights (P := l.prog) (w := w) (base := base) (funAt_mk X G x1_26 x2_26 x3_26 x4_26) H_power_rule m_len
  have H_on_ring := ok_on_ring (P := l.prog) (w := w) (base := base) (funAt_mk X G x1_27 x2_27 x3_27 x4_27) H_check_linear m_tuple
  have H_ring_product := ok_ring_product (P := l.prog) (w := w) (base := base) (funAt_mk X G x1_28 x2_28 x3_28 x4_28) m_len m_range m_sum m_tuple
  have H_ring_round := ok_ring_round (P := l.prog) (w := w) (base := base) (funAt_mk X G x1_29 x2_29 x3_29 x4_29) H_on_ring H_ring_product m_len m_range m_tuple
  have H_ring_turnable := ok_ring_turnable (P := l.prog) (w := w) (base := base) (funAt_mk X G x1_30 x2_30 x3_30 x4_30) H_ring_round
  have H_round_of := ok_round_of (P := l.prog) (w := w) (base := base) (funAt_mk X G x1_31 x2_31 x3_31 x4_31) H_step m_len
  have H_rule_by_number := ok_rule_by_number (P := l.prog) (w := w) (base := base) (funAt_mk X G x1_32 x2_32 x3_32 x4_32) m_range g_DIGITS
  have H_steps := ok_steps (P := l.prog) (w := w) (base := base) (funAt_mk X G x1_33 x2_33 x3_33 x4_33) H_check_ring H_check_rule H_step m_range
  have H_sum_rule := ok_sum_rule (P := l.prog) (w := w) (base := base) (funAt_mk X G x1_34 x2_34 x3_34 x4_34) H_check_linear H_tidy m_dict
  exact ok_law (fun_mk x2_35 x3_35 x4_35) H_law_power H_law_steps H_law_take H_law_tape H_copies H_gardens H_inverse_rule H_is_back H_is_turnable H_lights H_linear_step H_on_ring H_power_rule H_product_rule H_ring_product H_ring_round H_ring_turnable H_round_of H_rule_by_number H_steps H_sum_rule m_dict m_int m_len m_list m_range m_sorted m_str m_sum m_tuple m_zip hm
end Dv

/-! KA: draws. -/
namespace Dv
open PySem
/-- what every draw gives: a number below m, and a tape that can be drawn from again -/
theorem take_ok (T : Tp) (h0 : 0 ≤ T.idx) (m : Nat) (hm : 1 ≤ m) (hm2 : m ≤ 1000000) : ∃ (r : Nat) (T' : Tp), r < m ∧ 0 ≤ T'.idx ∧ p_law_take [.int (m : Nat)] T = some (.int (r : Nat), T') := by
  -- the rest, from any tape
  have rest : ∀ (T : Tp), 0 ≤ T.idx → ∃ (r : Nat) (T' : Tp), r < m ∧ 0 ≤ T'.idx ∧ (sSeq (sIf (tBool (e2 qGt (eTget 0 (fun T => .int T.left)) (eC (.int 0)))) (sSeq (sSet 2 (e2 qMod (eCall qInt (aCons (eTget 0 (fun T => .int T.left)) aNil)) (eOwn 1)))
      (sSeq (sTset 0 (fun x T => { T with left := x }) (e2 qDiv (eTget 0 (fun T => .int T.left)) (eOwn 1)))
      (sRet (eVar 2)))) sSkip)
      (sSeq (sTset 0 (fun x T => { T with salt := x }) (e2 qAdd (eTget 0 (fun T => .int T.salt)) (eC (.int 1))))
      (sSeq (sSet 3 (e2 qMod (eCall qInt (aCons (e2 qAdd (e2 qMul (eTget 0 (fun T => .int T.seed)) (eC (.int 48271))) (e2 qMul (eTget 0 (fun T => .int T.salt)) (eC (.int 69621)))) aNil)) (eC (.int 2147483647))))
      (sSeq (sSet 3 (e2 qMod (eCall qInt (aCons (e2 qAdd (e2 qAdd (e2 qMul (eOwn 3) (eOwn 3)) (e2 qMul (eTget 0 (fun T => .int T.salt)) (eC (.int 40692)))) (eC (.int 12345))) aNil)) (eC (.int 2147483399))))
      (sRet (e2 qMod (eCall qInt (aCons (eOwn 3) aNil)) (eOwn 1))))))) [.tp, .fr (.int (m : Nat)), .un, .un] T = some (.rt (.int (r : Nat)), T') := fun T h0 => by
    have hmi : (0 : Int) < ((m : Nat) : Int) := by omega
    by_cases hl : 0 < T.left
    · have e : T.left % ((m : Nat) : Int) = (((T.left % ((m : Nat) : Int)).toNat : Nat) : Int) := (Int.toNat_of_nonneg (Int.emod_nonneg _ (by omega))).symm
      have hlt := Int.emod_lt_of_pos T.left hmi
      refine ⟨(T.left % ((m : Nat) : Int)).toNat, { T with left := T.left / ((m : Nat) : Int) }, by omega, h0, seq_rt (if_t (T1 := T) (bool_of (e2_of (x := .int T.left) (y := .int 0) rfl rfl (q_gt_t hl)))
        (seq_nx (ρ1 := [.tp, .fr (.int (m : Nat)), .fr (.int (((T.left % ((m : Nat) : Int)).toNat : Nat) : Int)), .un]) (T1 := T) (set_of (d := .int (((T.left % ((m : Nat) : Int)).toNat : Nat) : Int)) (e2_of (x := .int T.left) (y := .int (m : Nat)) (T1 := T) (call_of (a_one rfl) rfl) rfl ((q_mod hmi).trans (by rw [← e]))))
        (seq_nx (ρ1 := [.tp, .fr (.int (m : Nat)), .fr (.int (((T.left % ((m : Nat) : Int)).toNat : Nat) : Int)), .un]) (T1 := { T with left := T.left / ((m : Nat) : Int) }) ?_ (ret_of rfl))))⟩
      have e5 : e2 qDiv (eTget 0 (fun T => .int T.left)) (eOwn 1) [.tp, .fr (.int (m : Nat)), .fr (.int (((T.left % ((m : Nat) : Int)).toNat : Nat) : Int)), .un] T = some (.int (T.left / ((m : Nat) : Int)), T) := e2_of (T1 := T) rfl rfl (q_div hmi (by omega))
      exact tset_of e5 rfl
    · let T1 : Tp := { T with salt := T.salt + 1 }
      let m1 : Int := (T.seed * 48271 + (T.salt + 1) * 69621) % 2147483647
      let m2 : Int := (m1 * m1 + (T.salt + 1) * 40692 + 12345) % 2147483399
      have b1 : m1.natAbs < 18446744073709551616 := by
        have h1 := Int.emod_nonneg (T.seed * 48271 + (T.salt + 1) * 69621) (show (2147483647 : Int) ≠ 0 by decide)
        have h2 := Int.emod_lt_of_pos (T.seed * 48271 + (T.salt + 1) * 69621) (show (0 : Int) < 2147483647 by decide)
        show ((T.seed * 48271 + (T.salt + 1) * 69621) % 2147483647).natAbs < _
        omega
      have e : m2 % ((m : Nat) : Int) = (((m2 % ((m : Nat) : Int)).toNat : Nat) : Int) := (Int.toNat_of_nonneg (Int.emod_nonneg _ (by omega))).symm
      have hlt := Int.emod_lt_of_pos m2 hmi
      have e5 : e2 qAdd (eTget 0 (fun T => .int T.salt)) (eC (.int 1)) [.tp, .fr (.int (m : Nat)), .un, .un] T = some (.int (T.salt + 1), T) := rfl
      refine ⟨(m2 % ((m : Nat) : Int)).toNat, T1, by omega, h0, seq_nx (ρ1 := [.tp, .fr (.int (m : Nat)), .un, .un]) (T1 := T) (if_f (T1 := T) (bool_of (e2_of (x := .int T.left) (y := .int 0) rfl rfl (q_gt_f hl))) rfl)
        (seq_nx (ρ1 := [.tp, .fr (.int (m : Nat)), .un, .un]) (T1 := T1) (tset_of e5 rfl)
        (seq_nx (ρ1 := [.tp, .fr (.int (m : Nat)), .un, .fr (.int m1)]) (T1 := T1) (set_of (d := .int m1) (e2_of (x := .int (T.seed * 48271 + (T.salt + 1) * 69621)) (y := .int 2147483647) (T1 := T1) (call_of (ds := [.int (T.seed * 48271 + (T.salt + 1) * 69621)]) (T1 := T1) (a_one (e2_of (x := .int (T.seed * 48271)) (y := .int ((T.salt + 1) * 69621)) (T1 := T1) (e2_of (T1 := T1) rfl rfl (q_mul (by decide))) (e2_of (T1 := T1) rfl rfl (q_mul (by decide))) rfl)) rfl) rfl (q_mod (by decide))))
        (seq_nx (ρ1 := [.tp, .fr (.int (m : Nat)), .un, .fr (.int m2)]) (T1 := T1) (set_of (d := .int m2) (e2_of (x := .int (m1 * m1 + (T.salt + 1) * 40692 + 12345)) (y := .int 2147483399) (T1 := T1) (call_of (ds := [.int (m1 * m1 + (T.salt + 1) * 40692 + 12345)]) (T1 := T1) (a_one (e2_of (x := .int (m1 * m1 + (T.salt + 1) * 40692)) (T1 := T1) (e2_of (x := .int (m1 * m1)) (y := .int ((T.salt + 1) * 40692)) (T1 := T1) (e2_of (T1 := T1) rfl rfl (q_mul b1)) (e2_of (T1 := T1) rfl rfl (q_mul (by decide))) rfl) rfl rfl)) rfl) rfl (q_mod (by decide))))
        (ret_of (e2_of (x := .int m2) (y := .int (m : Nat)) (T1 := T1) (call_of (a_one rfl) rfl) rfl ((q_mod hmi).trans (by rw [← e])))))))⟩
  -- the first test
  by_cases hz : T.left = 0
  · by_cases hi : T.idx < ((T.cells.length : Nat) : Int)
    · obtain ⟨k, hk⟩ : ∃ k : Nat, T.idx = (k : Int) := ⟨T.idx.toNat, by omega⟩
      have hkl : k < T.cells.length := by omega
      let T1 : Tp := { T with left := T.cells[k], idx := T.idx + 1 }
      obtain ⟨r, T', h1, h2, h3⟩ := rest T1 (by show 0 ≤ T.idx + 1; omega)
      refine ⟨r, T', h1, h2, bodyT_rt (seq_nx (ρ1 := [.tp, .fr (.int (m : Nat)), .un, .un]) (T1 := T1) (if_t (T1 := T) ?_ (seq_nx (ρ1 := [.tp, .fr (.int (m : Nat)), .un, .un]) (T1 := { T with left := T.cells[k] }) ?_ ?_)) h3)⟩
      · refine (and_t (T1 := T) (bool_of (e2_of (x := .int T.left) (y := .int 0) rfl rfl (q_eq_t hz)))).trans ?_
        exact bool_of (e2_of (x := .int T.idx) (y := .int ((T.cells.length : Nat) : Int)) (T1 := T) rfl (call_of (ds := [.list (T.cells.map .int)]) (T1 := T) rfl (by show some (PyData.int ((T.cells.map PyData.int).length : Nat)) = _; rw [List.length_map])) (q_lt_t hi))
      · have e5 : e2 qIx (eTget 0 (fun T => .list (T.cells.map .int))) (eTget 0 (fun T => .int T.idx)) [.tp, .fr (.int (m : Nat)), .un, .un] T = some (.int T.cells[k], T) := e2_of (x := .list (T.cells.map .int)) (y := .int ((k : Nat) : Int)) (T1 := T) rfl (by show some (PyData.int T.idx, T) = _; rw [hk]) (by
          show atD (T.cells.map PyData.int) ((k : Nat) : Int) = _
          rw [at_nat (by rw [List.length_map]; exact hkl), List.getElem_map])
        exact tset_of e5 rfl
      · rfl
    · obtain ⟨r, T', h1, h2, h3⟩ := rest T h0
      refine ⟨r, T', h1, h2, bodyT_rt (seq_nx (ρ1 := [.tp, .fr (.int (m : Nat)), .un, .un]) (T1 := T) (if_f (T1 := T) ?_ rfl) h3)⟩
      refine (and_t (T1 := T) (bool_of (e2_of (x := .int T.left) (y := .int 0) rfl rfl (q_eq_t hz)))).trans ?_
      exact bool_of (e2_of (x := .int T.idx) (y := .int ((T.cells.length : Nat) : Int)) (T1 := T) rfl (call_of (ds := [.list (T.cells.map .int)]) (T1 := T) rfl (by show some (PyData.int ((T.cells.map PyData.int).length : Nat)) = _; rw [List.length_map])) (q_lt_f hi))
  · obtain ⟨r, T', h1, h2, h3⟩ := rest T h0
    exact ⟨r, T', h1, h2, bodyT_rt (seq_nx (ρ1 := [.tp, .fr (.int (m : Nat)), .un, .un]) (T1 := T) (if_f (T1 := T) (and_f (T1 := T) (bool_of (e2_of (x := .int T.left) (y := .int 0) rfl rfl (q_eq_f hz)))) rfl) h3)⟩
/-- a draw within an expression -/
theorem takeE {T : Tp} (h0 : 0 ≤ T.idx) {m : Nat} (hm : 1 ≤ m) (hm2 : m ≤ 1000000) {ρ : Rho} {fa : FE} {i : Nat} (ht : ρ[i]? = some .tp) (ha : fa ρ T = some (.int (m : Nat), T)) : ∃ (r : Nat) (T' : Tp), r < m ∧ 0 ≤ T'.idx ∧ eCallT i 1 p_law_take (aCons fa aNil) ρ T = some (.int (r : Nat), T') := by
  obtain ⟨r, T', h1, h2, h3⟩ := take_ok T h0 m hm hm2
  exact ⟨r, T', h1, h2, callT_of ht (a_one ha) rfl h3⟩

end Dv

/-! KB: rule 90 on rings. -/
namespace Dv
open PySem
def bw (f : Nat → Bool) (n : Nat) : List Nat := (List.range n).map fun k => 48 + (f k).toNat
def bs (f : Nat → Bool) (n : Nat) : D := .str (S (bw f n))
theorem bw_len (f : Nat → Bool) (n : Nat) : (bw f n).length = n := by unfold bw; rw [List.length_map, List.length_range]
def r90 : D := .tuple [.int 2, .int 2, .int 3, .str (S [48, 49, 48, 49, 49, 48, 49, 48])]
theorem rule90 : p_rule_by_number [.int 90] = some r90 := by kernel_rfl
theorem code90 : p_check_code [r90] = some .none := by kernel_rfl
theorem chk90 : p_check_rule [r90] = some .none := by kernel_rfl
theorem all_bits {fa : FE} {fe : FE} {ρ : Rho} {j n : Nat} {f : Nat → Bool} (ha : fa ρ T0 = some (bs f n, T0)) (hn : n ≤ 1000) (h : ∀ b : Bool, fe ((wipeR ρ [j]).set j (.fr (.str (S [48 + b.toNat])))) T0 = some (.bool true, T0)) :
    eCall qAll (aCons (eLc (iSeq fa) (gSet j) tTrue fe [j]) aNil) ρ T0 = some (.bool true, T0) := by
  refine call_of (ds := [.list ((List.range n).map fun _ => .bool true)]) (T1 := T0) (a_one (lc_of (ds := (List.range n).map fun k => .str (S [48 + (f k).toNat])) (ys := (List.range n).map fun _ => .bool true) (T1 := T0) (T2 := T0) (seq_i ha ?_) (lcL_map fun k _ => ⟨_, rfl, rfl, h (f k)⟩) (by rw [List.length_map, List.length_range]; omega))) ?_
  · show some ((bw f n).map fun c => PyData.str (S [c])) = _
    unfold bw
    rw [List.map_map]; rfl
  · show (match boolsD ((List.range n).map fun _ => PyData.bool true) with | none => none | some bs => some (PyData.bool (bs.all id))) = _
    rw [boolsD_map (fun _ => true)]
    show some (PyData.bool _) = _
    rw [show ((List.range n).map fun _ => true).all id = true from List.all_eq_true.mpr fun x hx => by obtain ⟨_, _, rfl⟩ := List.mem_map.mp hx; rfl]
theorem ring_ok (f : Nat → Bool) {n : Nat} (h1 : 1 ≤ n) (h2 : n ≤ 24) : p_check_ring [.int 2, bs f n] = some .none := by
  refine bodyP_nx (ρ1 := frame 3 [.fr (.int 2), .fr (bs f n)]) (T1 := T0) (if_f (T1 := T0) ((or_f (T1 := T0) (not_of (b := true) (bool_of (ch_of (x := .int 1) (T1 := T0) rfl (lc_t (y := .int (n : Nat)) (T1 := T0) (call_of (ds := [bs f n]) (T1 := T0) rfl ?_) (q_le_t (by omega)) (lc_last (y := .int 24) rfl (q_le_t (by omega)))))))).trans (not_of (b := true) (tru_of (d := .bool true) (all_bits (f := f) (n := n) rfl (by omega) fun b => ?_) rfl))) rfl)
  · rw [show bs f n = .str (S (bw f n)) from rfl, q_len (by rw [bw_len]; omega), bw_len]
  · cases b <;> rfl
theorem num3 (a b c : Bool) : p_number_of [.int 2, .str (S [48 + a.toNat, 48 + b.toNat, 48 + c.toNat])] = some (.int ((4 * a.toNat + 2 * b.toNat + c.toNat : Nat) : Int)) := by
  cases a <;> cases b <;> cases c <;> kernel_rfl
theorem tab3 (a b c : Bool) : qIx (.str (S [48, 49, 48, 49, 49, 48, 49, 48])) (.int ((4 * a.toNat + 2 * b.toNat + c.toNat : Nat) : Int)) = some (.str (S [48 + (a ^^ c).toNat])) := by
  cases a <;> cases b <;> cases c <;> kernel_rfl
theorem cut3 (g : Nat → Bool) {n k : Nat} (h : k < n) (hn : n ≤ 1000) : qCut (bs g (n + 2)) (some ((k : Nat) : Int)) (some (((k : Nat) : Int) + 3)) = some (.str (S [48 + (g k).toNat, 48 + (g (k + 1)).toNat, 48 + (g (k + 2)).toNat])) := by
  rw [show bs g (n + 2) = .str (S (bw g (n + 2))) from rfl, q_cut (by rw [bw_len]; omega), show (((k : Nat) : Int) + 3) = ((k + 3 : Nat) : Int) by omega, cut_nn _ (by omega) (by rw [bw_len]; omega)]
  congr 3
  have e : ∀ i, i < 3 → ((bw g (n + 2)).drop k)[i]? = some (48 + (g (k + i)).toNat) := fun i hi => by
    rw [List.getElem?_drop]
    unfold bw
    rw [List.getElem?_map, List.getElem?_range (by omega)]; rfl
  apply List.ext_getElem?
  intro i
  rw [List.getElem?_take]
  have e0 := e 0 (by omega); have e1 := e 1 (by omega); have e2 := e 2 (by omega)
  rw [Nat.add_zero] at e0
  match i with
  | 0 => rw [if_pos (by omega), e0]; rfl
  | 1 => rw [if_pos (by omega), e1]; rfl
  | 2 => rw [if_pos (by omega), e2]; rfl
  | i + 3 => rw [if_neg (by omega)]; rfl
theorem image90 (g : Nat → Bool) {n : Nat} (hn : n ≤ 22) : p_image [r90, bs g (n + 2)] = some (bs (fun k => g k ^^ g (k + 2)) n) := by
  refine bodyP_rt (T1 := T0) (seq_nx (T1 := T0) (drop_of (d := .none) (callP_of (ds := [r90]) (T1 := T0) rfl rfl code90)) (seq_nx (T1 := T0) (asg_of (d := r90) (T1 := T0) rfl (gtup_of rfl rfl)) (seq_nx (T1 := T0) (if_f (T1 := T0) (not_of (b := true) (tru_of (d := .bool true) (all_bits (f := g) (n := n + 2) rfl (by omega) fun b => ?_) rfl)) rfl) (ret_of (meth_of (x := .str (S [])) (T1 := T0) rfl (a_one (lc_of (ds := (List.range n).map fun k => .int ((k : Nat) : Int)) (ys := (List.range n).map fun k => .str (S [48 + (g k ^^ g (k + 2)).toNat])) (T1 := T0) (T2 := T0) ?_ (lcL_map fun k hk => ⟨_, rfl, rfl, ?_⟩) (by rw [List.length_map, List.length_range]; omega))) (q_join1 (fun k => 48 + (g k ^^ g (k + 2)).toNat) (List.range n) (by rw [List.length_range]; omega)))))))
  · cases b <;> rfl
  · refine (r1_of (k := ((n : Nat) : Int)) (e2_of (x := .int (((n : Nat) : Int) - 1)) (y := .int 1) (T1 := T0) (e2_of (x := .int (((n + 2 : Nat) : Nat) : Int)) (y := .int 3) (T1 := T0) (call_of (ds := [bs g (n + 2)]) (T1 := T0) rfl ?_) rfl ?_) rfl ?_) (ok62_nat (by omega))).trans ?_
    · rw [show bs g (n + 2) = .str (S (bw g (n + 2))) from rfl, q_len (by rw [bw_len]; omega), bw_len]
    · show some (PyData.int _) = _
      congr 2; omega
    · show some (PyData.int _) = _
      congr 2; omega
    · rw [Int.toNat_natCast, rngD0]
  · exact e2_of (x := .str (S [48, 49, 48, 49, 49, 48, 49, 48])) (T1 := T0) rfl (callP_of (ds := [.int 2, .str (S [48 + (g k).toNat, 48 + (g (k + 1)).toNat, 48 + (g (k + 2)).toNat])]) (T1 := T0) (a_cons (T1 := T0) rfl (a_one (cut_of (x := bs g (n + 2)) (T1 := T0) (T2 := T0) rfl (o_of (k := ((k : Nat) : Int)) rfl) (o_of (k := ((k : Nat) : Int) + 3) rfl) (cut3 g (List.mem_range.mp hk) (by omega))))) rfl (num3 _ _ _)) (tab3 _ _ _)
def roundG (f : Nat → Bool) (n k : Nat) : Bool := if k = 0 then f (n - 1) else if k = n + 1 then f 0 else f (k - 1)
theorem bw_around (f : Nat → Bool) {n : Nat} (h : 1 ≤ n) : [48 + (f (n - 1)).toNat] ++ bw f n ++ [48 + (f 0).toNat] = bw (roundG f n) (n + 2) := by
  apply List.ext_getElem
  · simp only [List.length_append, bw_len, List.length_cons, List.length_nil]; omega
  · intro i h1 h2
    have hi : i < n + 2 := by rw [bw_len] at h2; exact h2
    have e : (bw (roundG f n) (n + 2))[i] = 48 + (roundG f n i).toNat := by simp only [bw, List.getElem_map, List.getElem_range]
    rw [e]
    unfold roundG
    by_cases h0 : i = 0
    · subst h0
      rfl
    · rw [if_neg h0]
      by_cases hl : i = n + 1
      · subst hl
        rw [if_pos rfl, List.getElem_append_right (by simp only [List.length_append, bw_len, List.length_cons, List.length_nil]; omega)]
        simp only [List.length_append, bw_len, List.length_cons, List.length_nil]
        have : n + 1 - (0 + 1 + n) = 0 := by omega
        simp [this]
      · rw [if_neg hl, List.getElem_append_left (by simp only [List.length_append, bw_len, List.length_cons, List.length_nil]; omega), List.getElem_append_right (by simp only [List.length_cons, List.length_nil]; omega)]
        simp only [bw, List.getElem_map, List.getElem_range]
        rfl
theorem step90 (f : Nat → Bool) {n : Nat} (h1 : 1 ≤ n) (h2 : n ≤ 22) : p_step [r90, bs f n] = some (bs (fun k => roundG f n k ^^ roundG f n (k + 2)) n) := by
  -- how often the ring is laid side by side
  obtain ⟨c, hc1, hc2, hq⟩ : ∃ c : Nat, 1 ≤ c ∧ c ≤ 2 ∧ (1 : Int) / ((n : Nat) : Int) + 1 = ((c : Nat) : Int) := by
    by_cases e : n = 1
    · subst e; exact ⟨2, by decide, by decide, rfl⟩
    · refine ⟨1, by decide, by decide, ?_⟩
      rw [Int.ediv_eq_zero_of_lt (by omega) (by omega)]; rfl
  let wd := (List.replicate c (bw f n)).flatten
  have lw : wd.length = c * n := by
    show ((List.replicate c (bw f n)).flatten).length = _
    rw [List.length_flatten, List.map_replicate, bw_len, List.sum_replicate_nat]
  have first : wd[0]? = some (48 + (f 0).toNat) := by
    obtain ⟨k, rfl⟩ : ∃ k, c = k + 1 := ⟨c - 1, by omega⟩
    show ((List.replicate (k + 1) (bw f n)).flatten)[0]? = _
    rw [List.replicate_succ, List.flatten_cons, List.getElem?_append_left (by rw [bw_len]; omega)]
    unfold bw
    rw [List.getElem?_map, List.getElem?_range (by omega)]; rfl
  have last : wd[c * n - 1]? = some (48 + (f (n - 1)).toNat) := by
    obtain ⟨k, rfl⟩ : ∃ k, c = k + 1 := ⟨c - 1, by omega⟩
    show ((List.replicate (k + 1) (bw f n)).flatten)[(k + 1) * n - 1]? = _
    have ek : (k + 1) * n - 1 = k * n + (n - 1) := by rw [Nat.succ_mul]; omega
    rw [List.replicate_succ', List.flatten_append, List.getElem?_append_right (by rw [List.length_flatten, List.map_replicate, bw_len, List.sum_replicate_nat, ek]; omega), List.length_flatten, List.map_replicate, bw_len, List.sum_replicate_nat, ek, show k * n + (n - 1) - k * n = n - 1 by omega, List.flatten_cons, List.flatten_nil, List.append_nil]
    unfold bw
    rw [List.getElem?_map, List.getElem?_range (by omega)]; rfl
  have hcn : c * n ≤ 2 * 22 := Nat.mul_le_mul hc2 h2
  have hcp : 1 ≤ c * n := Nat.mul_le_mul hc1 h1
  have hm : qMul (bs f n) (.int ((c : Nat) : Int)) = some (.str (S wd)) := by
    show qMulS (S (bw f n)) ((c : Nat) : Int) = _
    unfold qMulS
    rw [if_pos (by
      rw [Bool.and_eq_true, Bool.and_eq_true, decide_eq_true_eq, decide_eq_true_eq, len_S, bw_len, Int.toNat_natCast]
      refine ⟨⟨by omega, by omega⟩, ble24 ?_⟩
      rw [Nat.mul_comm]; omega), Int.toNat_natCast]
    rfl
  have c1 : cutD wd (some (((c * n : Nat) : Int) - 1)) none = [48 + (f (n - 1)).toNat] := by
    rw [show (((c * n : Nat) : Int) - 1) = ((c * n - 1 : Nat) : Int) by omega, cut_from]
    apply List.ext_getElem?
    intro i
    rw [List.getElem?_drop]
    match i with
    | 0 => exact last
    | i + 1 => rw [List.getElem?_eq_none (by omega)]; rfl
  have c2 : cutD wd none (some 1) = [48 + (f 0).toNat] := by
    rw [show (1 : Int) = ((1 : Nat) : Int) from rfl, cut_to]
    apply List.ext_getElem?
    intro i
    rw [List.getElem?_take]
    match i with
    | 0 => rw [if_pos (by omega), first]; rfl
    | i + 1 => rw [if_neg (by omega)]; rfl
  have hln : qLen [bs f n] = some (.int ((n : Nat) : Int)) := by
    rw [show bs f n = .str (S (bw f n)) from rfl, q_len (by rw [bw_len]; omega), bw_len]
  have hlw : qLen [.str (S wd)] = some (.int ((c * n : Nat) : Int)) := by rw [q_len (by omega), lw]
  refine bodyP_rt (T1 := T0) (seq_nx (T1 := T0) (drop_of (d := .none) (callP_of (ds := [r90]) (T1 := T0) rfl rfl chk90)) (seq_nx (T1 := T0) (drop_of (d := .none) (callP_of (ds := [.int 2, bs f n]) (T1 := T0) rfl rfl (ring_ok f h1 (by omega)))) (seq_nx (T1 := T0) (set_of (d := .int 1) rfl) (seq_nx (T1 := T0) (set_of (d := .str (S wd)) (e2_of (x := bs f n) (y := .int ((c : Nat) : Int)) (T1 := T0) rfl (e2_of (x := .int ((1 : Int) / ((n : Nat) : Int))) (y := .int 1) (T1 := T0) (e2_of (x := .int 1) (y := .int ((n : Nat) : Int)) (T1 := T0) rfl (call_of (ds := [bs f n]) (T1 := T0) rfl hln) (q_div (by omega) (by omega))) rfl ?_) hm)) (ret_of (callP_of (ds := [r90, bs (roundG f n) (n + 2)]) (T1 := T0) (a_cons (T1 := T0) rfl (a_one (e2_of (x := .str (S ([48 + (f (n - 1)).toNat] ++ bw f n))) (y := .str (S [48 + (f 0).toNat])) (T1 := T0) (e2_of (x := .str (S [48 + (f (n - 1)).toNat])) (y := bs f n) (T1 := T0) (cut_of (x := .str (S wd)) (T1 := T0) (T2 := T0) rfl (o_of (k := ((c * n : Nat) : Int) - 1) (e2_of (x := .int ((c * n : Nat) : Int)) (y := .int 1) (T1 := T0) (call_of (ds := [.str (S wd)]) (T1 := T0) rfl hlw) rfl rfl)) rfl ((q_cut (by omega)).trans (by rw [c1]))) rfl (q_cat ?_)) (cut_of (x := .str (S wd)) (T1 := T0) (T2 := T0) rfl rfl (o_of (k := 1) rfl) ((q_cut (by omega)).trans (by rw [c2]))) ((q_cat ?_).trans ?_)))) rfl (image90 _ h2)))))))
  · show some (PyData.int _) = _
    rw [hq]
  · rw [bw_len]; simp only [List.length_cons, List.length_nil]; omega
  · rw [List.length_append, bw_len]; simp only [List.length_cons, List.length_nil]; omega
  · rw [bw_around f h1]; rfl
end Dv

/-! KC: rings as numbers; the step of rule 90 on them. -/
namespace Dv
open PySem
def st (n v : Nat) : Nat := (2 * (v % 2 ^ (n - 1)) + v / 2 ^ (n - 1)) ^^^ (2 ^ (n - 1) * (v % 2) + v / 2)
def fv (n v k : Nat) : Bool := v.testBit (n - 1 - k)
def key (n v : Nat) : D := bs (fv n v) n
theorem two_h {n : Nat} (h : 1 ≤ n) : 2 ^ n = 2 * 2 ^ (n - 1) := by
  obtain ⟨m, rfl⟩ : ∃ m, n = m + 1 := ⟨n - 1, by omega⟩
  rw [Nat.pow_succ, Nat.add_sub_cancel, Nat.mul_comm]
theorem st_lt {n v : Nat} (h : 1 ≤ n) (hv : v < 2 ^ n) : st n v < 2 ^ n := by
  have e := two_h h
  have p : 0 < 2 ^ (n - 1) := Nat.two_pow_pos _
  have h1 : v % 2 ^ (n - 1) < 2 ^ (n - 1) := Nat.mod_lt _ p
  have h2 : v / 2 ^ (n - 1) < 2 := Nat.div_lt_of_lt_mul (by omega)
  have h3 : v % 2 < 2 := Nat.mod_lt _ (by decide)
  have h4 : 2 ^ (n - 1) * (v % 2) ≤ 2 ^ (n - 1) * 1 := Nat.mul_le_mul_left _ (by omega)
  exact Nat.xor_lt_two_pow (by omega) (by omega)
theorem st_bit {n v i : Nat} (h : 1 ≤ n) (hv : v < 2 ^ n) (hi : i < n) : (st n v).testBit i = ((if i = n - 1 then v.testBit 0 else v.testBit (i + 1)) ^^ (if i = 0 then v.testBit (n - 1) else v.testBit (i - 1))) := by
  have e := two_h h
  have h2 : v / 2 ^ (n - 1) < 2 ^ 1 := Nat.div_lt_of_lt_mul (by omega)
  have h5 : v / 2 < 2 ^ (n - 1) := Nat.div_lt_of_lt_mul (by omega)
  have a : (2 * (v % 2 ^ (n - 1)) + v / 2 ^ (n - 1)).testBit i = if i = 0 then v.testBit (n - 1) else v.testBit (i - 1) := by
    have := Nat.testBit_two_pow_mul_add (v % 2 ^ (n - 1)) h2 i
    rw [Nat.pow_one] at this
    rw [this]
    by_cases z : i = 0
    · subst z
      rw [if_pos (by omega), if_pos rfl, Nat.testBit_div_two_pow]
      congr 1; omega
    · rw [if_neg (by omega), if_neg z, Nat.testBit_mod_two_pow, decide_eq_true (by omega : i - 1 < n - 1), Bool.true_and]
  have b : (2 ^ (n - 1) * (v % 2) + v / 2).testBit i = if i = n - 1 then v.testBit 0 else v.testBit (i + 1) := by
    rw [Nat.testBit_two_pow_mul_add (v % 2) h5 i]
    by_cases z : i = n - 1
    · subst z
      rw [if_neg (by omega), if_pos rfl, Nat.sub_self]
      have := Nat.testBit_mod_two_pow v 1 0
      rw [Nat.pow_one] at this
      rw [this]; rfl
    · rw [if_pos (by omega), if_neg z]
      have : (v / 2 ^ 1).testBit i = _ := Nat.testBit_div_two_pow v i
      rw [Nat.pow_one] at this
      rw [this]
  unfold st
  rw [Nat.testBit_xor, a, b, Bool.xor_comm]
theorem bw_congr {f g : Nat → Bool} {n : Nat} (h : ∀ k, k < n → f k = g k) : bw f n = bw g n := by
  unfold bw
  apply List.map_congr_left
  intro k hk
  rw [h k (List.mem_range.mp hk)]
theorem step_key {n v : Nat} (h : 1 ≤ n) (h2 : n ≤ 22) (hv : v < 2 ^ n) : p_step [r90, key n v] = some (key n (st n v)) := by
  rw [show key n v = bs (fv n v) n from rfl, step90 _ h h2]
  show some (PyData.str (S _)) = some (.str (S _))
  rw [bw_congr (f := fun k => roundG (fv n v) n k ^^ roundG (fv n v) n (k + 2)) (g := fv n (st n v)) fun k hk => ?_]
  show _ = (st n v).testBit (n - 1 - k)
  rw [st_bit h hv (by omega)]
  unfold roundG fv
  congr 1
  · by_cases z : k = 0
    · subst z
      rw [if_pos rfl, if_pos (by omega), Nat.sub_self]
    · rw [if_neg z, if_neg (by omega), if_neg (by omega)]
      congr 1; omega
  · rw [if_neg (by omega)]
    by_cases z : k + 2 = n + 1
    · rw [if_pos z, if_pos (by omega), Nat.sub_zero]
    · rw [if_neg z, if_neg (by omega)]
      congr 1
theorem bw_inj {n v w : Nat} (hv : v < 2 ^ n) (hw : w < 2 ^ n) (h : bw (fv n v) n = bw (fv n w) n) : v = w := by
  apply Nat.eq_of_testBit_eq
  intro i
  by_cases hi : i < n
  · have e : ∀ u, (bw (fv n u) n)[n - 1 - i]? = some (48 + (u.testBit i).toNat) := fun u => by
      unfold bw fv
      rw [List.getElem?_map, List.getElem?_range (by omega)]
      show some (48 + (u.testBit (n - 1 - (n - 1 - i))).toNat) = _
      rw [show n - 1 - (n - 1 - i) = i by omega]
    have := e v
    rw [h, e w] at this
    have h3 := Option.some.inj this
    cases a : v.testBit i <;> cases b : w.testBit i <;> rw [a, b] at h3 <;> first | rfl | (revert h3; decide)
  · rw [Nat.testBit_lt_two_pow (Nat.lt_of_lt_of_le hv (Nat.pow_le_pow_right (by decide) (by omega))), Nat.testBit_lt_two_pow (Nat.lt_of_lt_of_le hw (Nat.pow_le_pow_right (by decide) (by omega)))]
theorem kEq_keys {n v w : Nat} (hv : v < 2 ^ n) (hw : w < 2 ^ n) : kEq (key n v) (key n w) = (v == w) := by
  show (bw (fv n v) n == bw (fv n w) n) = _
  by_cases e : v = w
  · subst e; rw [beq_self_eq_true, beq_self_eq_true]
  · rw [beq_eq_false_iff_ne.mpr e, beq_eq_false_iff_ne.mpr fun z => e (bw_inj hv hw z)]
theorem kEq2_keys {n v w : Nat} (hv : v < 2 ^ n) (hw : w < 2 ^ n) : kEq2 (key n v) (key n w) = (v == w) := kEq_keys hv hw

/-! ### a dict that holds rings -/
abbrev ents (n : Nat) (l : List (Nat × D)) : List (D × D) := l.map fun p => (key n p.1, p.2)
def look : List (Nat × D) → Nat → Option D
  | [], _ => none
  | p :: r, w => match p.1 == w with
    | true => some p.2
    | false => look r w
theorem get_ents {n w : Nat} (hw : w < 2 ^ n) : ∀ {l : List (Nat × D)}, (∀ p ∈ l, p.1 < 2 ^ n) → getD2 (ents n l) (key n w) = look l w
  | [], _ => rfl
  | p :: l, h => by
    show (match kEq2 (key n p.1) (key n w) with | true => some p.2 | false => getD2 (ents n l) (key n w)) = _
    rw [kEq2_keys (h p List.mem_cons_self) hw, get_ents hw fun q hq => h q (List.mem_cons_of_mem _ hq)]
    rfl
theorem dAt_ents {n w : Nat} (hw : w < 2 ^ n) {l : List (Nat × D)} (h : ∀ p ∈ l, p.1 < 2 ^ n) : dAt (ents n l) (key n w) = some (look l w) := by
  rw [← get_ents hw h]
  cases l <;> rfl
theorem any_ents {n w : Nat} (hw : w < 2 ^ n) : ∀ {l : List (Nat × D)}, (∀ p ∈ l, p.1 < 2 ^ n) → (ents n l).any (fun e => kEq2 e.1 (key n w)) = (look l w).isSome
  | [], _ => rfl
  | p :: l, h => by
    show (kEq2 (key n p.1) (key n w) || (ents n l).any _) = _
    rw [kEq2_keys (h p List.mem_cons_self) hw, any_ents hw fun q hq => h q (List.mem_cons_of_mem _ hq)]
    show _ = Option.isSome (match p.1 == w with | true => some p.2 | false => look l w)
    cases p.1 == w <;> rfl
theorem put_ents {n w : Nat} (hw : w < 2 ^ n) {l : List (Nat × D)} (h : ∀ p ∈ l, p.1 < 2 ^ n) (hn : look l w = none) (d : D) : putD2 (ents n l) (key n w) d = ents n (l ++ [(w, d)]) := by
  unfold putD2
  rw [if_neg (by rw [any_ents hw h, hn]; exact Bool.false_ne_true)]
  show ents n l ++ [(key n w, d)] = (l ++ [(w, d)]).map _
  rw [List.map_append]; rfl
theorem in_ents {n w : Nat} (hw : w < 2 ^ n) {l : List (Nat × D)} (h : ∀ p ∈ l, p.1 < 2 ^ n) : qIn2 (key n w) (.dict (ents n l)) = some (.bool (look l w).isSome) := by
  show (match dAt (ents n l) (key n w) with | some (some _) => some (PyData.bool true) | some none => some (.bool false) | none => none) = _
  rw [dAt_ents hw h]
  cases look l w <;> rfl
theorem notin_ents {n w : Nat} (hw : w < 2 ^ n) {l : List (Nat × D)} (h : ∀ p ∈ l, p.1 < 2 ^ n) : qNotin2 (key n w) (.dict (ents n l)) = some (.bool (!(look l w).isSome)) := by
  show qNot (match dAt (ents n l) (key n w) with | some (some _) => some (PyData.bool true) | some none => some (.bool false) | none => none) = _
  rw [dAt_ents hw h]
  cases look l w <;> rfl
theorem look_app : ∀ (l : List (Nat × D)) (p : Nat × D) (w : Nat), look (l ++ [p]) w = (look l w).or (if p.1 = w then some p.2 else none)
  | [], p, w => by
    show (match p.1 == w with | true => some p.2 | false => none) = _
    by_cases e : p.1 = w
    · rw [if_pos e, beq_iff_eq.mpr e]; rfl
    · rw [if_neg e, beq_eq_false_iff_ne.mpr e]; rfl
  | q :: l, p, w => by
    show (match q.1 == w with | true => some q.2 | false => look (l ++ [p]) w) = Option.or (match q.1 == w with | true => some q.2 | false => look l w) _
    rw [look_app l p w]
    cases q.1 == w <;> rfl

/-! ### rounds -/
def itS (n v : Nat) : Nat → Nat
  | 0 => v
  | k + 1 => st n (itS n v k)
theorem it_lt {n v : Nat} (h : 1 ≤ n) (hv : v < 2 ^ n) : ∀ k, itS n v k < 2 ^ n
  | 0 => hv
  | k + 1 => st_lt h (it_lt h hv k)
def seenL (x : Nat → Nat) (k : Nat) : List (Nat × D) := (List.range k).map fun i => (x i, .int ((i : Nat) : Int))
theorem seen_succ (x : Nat → Nat) (k : Nat) : seenL x (k + 1) = seenL x k ++ [(x k, .int ((k : Nat) : Int))] := by
  unfold seenL; rw [List.range_succ, List.map_append]; rfl
theorem seen_len (x : Nat → Nat) (k : Nat) : (seenL x k).length = k := by unfold seenL; rw [List.length_map, List.length_range]
theorem seen_mem {x : Nat → Nat} {k b : Nat} (h : ∀ i, x i < b) : ∀ p ∈ seenL x k, p.1 < b := fun p hp => by
  obtain ⟨i, _, rfl⟩ := List.mem_map.mp hp
  exact h i
theorem look_none {x : Nat → Nat} {w : Nat} : ∀ k, (∀ i, i < k → x i ≠ w) → look (seenL x k) w = none
  | 0, _ => rfl
  | k + 1, h => by
    rw [seen_succ, look_app, look_none k fun i hi => h i (by omega), if_neg (h k (by omega))]; rfl
theorem look_some {x : Nat → Nat} {a w : Nat} (ha : x a = w) (h : ∀ i, i < a → x i ≠ w) : ∀ k, a < k → look (seenL x k) w = some (.int ((a : Nat) : Int))
  | 0, z => absurd z (Nat.not_lt_zero _)
  | k + 1, z => by
    rw [seen_succ, look_app]
    by_cases e : a < k
    · rw [look_some ha h k e]; rfl
    · have : a = k := by omega
      subst this
      rw [look_none a h, if_pos ha]; rfl
/-- the first turn that comes back: it comes back to turn a at turn N -/
structure Rnd (x : Nat → Nat) (a N : Nat) : Prop where
  lt : a < N
  back : x N = x a
  new : ∀ j, j < N → ∀ i, i < j → x i ≠ x j
theorem round_key {n v a N : Nat} (h : 1 ≤ n) (h2 : n ≤ 22) (hv : v < 2 ^ n) (R : Rnd (itS n v) a N) (hN : N ≤ 1000) : p_round_of [r90, key n v] = some (.tuple [.int (a : Nat), .int ((N - a : Nat) : Int)]) := by
  have hm : ∀ k, ∀ p ∈ seenL (itS n v) k, p.1 < 2 ^ n := fun k => seen_mem (it_lt h hv)
  have loop : ∀ m k F (c : Cell), k + m = N → m < F → whL (tBool (e2 qNotin2 (eOwn 3) (eOwn 2))) (sSeq (sIf (tBool (e2 qGt (eCall qLen (aCons (eOwn 2) aNil)) (eC (.int 4000)))) sNever sSkip) (sSeq (sPut 2 (eCall qLen (aCons (eOwn 2) aNil)) (eVar 3)) (sSet 3 (eCall (argc 2 p_step) (aCons (eVar 0) (aCons (eVar 3) aNil)))))) F
      [.fr r90, c, .ow (.dict (ents n (seenL (itS n v) k))), .fr (key n (itS n v k))] T0 = some (.nx [.fr r90, c, .ow (.dict (ents n (seenL (itS n v) N))), .fr (key n (itS n v N))], T0) := by
    intro m
    induction m with
    | zero =>
      intro k F c e hF
      obtain ⟨F, rfl⟩ : ∃ F', F = F' + 1 := ⟨F - 1, by omega⟩
      have e : k = N := by omega
      subst e
      refine wh_f (T1 := T0) (bool_of (e2_of (x := key n (itS n v k)) (y := .dict (ents n (seenL (itS n v) k))) (T1 := T0) rfl rfl ?_))
      rw [notin_ents (it_lt h hv k) (hm k), look_some (a := a) R.back.symm (fun i hi => by rw [R.back]; exact R.new a R.lt i hi) k R.lt]; rfl
    | succ m ih =>
      intro k F c e hF
      obtain ⟨F, rfl⟩ : ∃ F', F = F' + 1 := ⟨F - 1, by omega⟩
      have hl : look (seenL (itS n v) k) (itS n v k) = none := look_none k fun i hi => R.new k (by omega) i hi
      have hlen : (ents n (seenL (itS n v) k)).length = k := by rw [List.length_map, seen_len]
      have hk : isK (ents n (seenL (itS n v) k)) = false := by cases seenL (itS n v) k <;> rfl
      have hq : qLen [.dict (ents n (seenL (itS n v) k))] = some (.int ((k : Nat) : Int)) := by
        show (if isK (ents n (seenL (itS n v) k)) then none else some (PyData.int ((ents n (seenL (itS n v) k)).length : Nat))) = _
        rw [hk, hlen]; rfl
      refine wh_t (T1 := T0) (T2 := T0) (bool_of (e2_of (x := key n (itS n v k)) (y := .dict (ents n (seenL (itS n v) k))) (T1 := T0) rfl rfl ?_)) (seq_nx (T1 := T0) (if_f (T1 := T0) (bool_of (e2_of (x := .int ((k : Nat) : Int)) (y := .int 4000) (T1 := T0) (call_of (ds := [.dict (ents n (seenL (itS n v) k))]) (T1 := T0) rfl hq) rfl (q_gt_f (by omega)))) rfl) (seq_nx (ρ1 := [.fr r90, c, .ow (.dict (ents n (seenL (itS n v) (k + 1)))), .fr (key n (itS n v k))]) (T1 := T0) ?_ (set_of (d := key n (itS n v (k + 1))) (callP_of (ds := [r90, key n (itS n v k)]) (T1 := T0) rfl rfl (step_key h h2 (it_lt h hv k)))))) (ih (k + 1) F c (by omega) (by omega))
      · rw [notin_ents (it_lt h hv k) (hm k), hl]; rfl
      · have e1 : eCall qLen (aCons (eOwn 2) aNil) [.fr r90, c, .ow (.dict (ents n (seenL (itS n v) k))), .fr (key n (itS n v k))] T0 = some (.int ((k : Nat) : Int), T0) := call_of (ds := [.dict (ents n (seenL (itS n v) k))]) (T1 := T0) rfl hq
        unfold sPut
        rw [e1]
        show (match dAt (ents n (seenL (itS n v) k)) (key n (itS n v k)) with | none => none | some _ => if (ents n (seenL (itS n v) k)).length.blt line24 then _ else none) = _
        rw [dAt_ents (it_lt h hv k) (hm k), hlen]
        show (if k.blt line24 = true then _ else none) = _
        rw [if_pos (blt24 (by omega)), put_ents (it_lt h hv k) (hm k) hl, ← seen_succ]; rfl
  have hat : qDAt (.dict (ents n (seenL (itS n v) N))) (key n (itS n v N)) = some (.int ((a : Nat) : Int)) := by
    show (match dAt (ents n (seenL (itS n v) N)) (key n (itS n v N)) with | some (some v) => some v | _ => none) = _
    rw [dAt_ents (it_lt h hv N) (hm N), look_some (a := a) R.back.symm (fun i hi => by rw [R.back]; exact R.new a R.lt i hi) N R.lt]
  have hk : isK (ents n (seenL (itS n v) N)) = false := by cases seenL (itS n v) N <;> rfl
  refine bodyP_rt (T1 := T0) (seq_nx (T1 := T0) (new_of (d := .dict []) (T1 := T0) rfl) (seq_nx (T1 := T0) (set_of (d := key n v) (T1 := T0) rfl) (seq_nx (T1 := T0) (loop N 0 4000 (.fr (key n v)) (by omega) (by omega)) (ret_of (tup_of (ds := [.int (a : Nat), .int ((N - a : Nat) : Int)]) (T1 := T0) (a_cons (T1 := T0) (e2_of (T1 := T0) rfl rfl hat) (a_one (e2_of (x := .int ((N : Nat) : Int)) (y := .int ((a : Nat) : Int)) (T1 := T0) (call_of (ds := [.dict (ents n (seenL (itS n v) N))]) (T1 := T0) rfl ?_) (e2_of (T1 := T0) rfl rfl hat) ?_))) rfl)))))
  · show (if isK (ents n (seenL (itS n v) N)) then none else some (PyData.int ((ents n (seenL (itS n v) N)).length : Nat))) = _
    rw [hk, List.length_map, seen_len]; rfl
  · show some (PyData.int _) = _
    have := R.lt
    congr 2; omega
end Dv

/-! KD: all rings: gardens, is_back; steps; the length of rounds. -/
namespace Dv
open PySem
theorem range_two : ∀ m : Nat, List.range (2 * m) = (List.range m).flatMap fun v => [2 * v, 2 * v + 1]
  | 0 => rfl
  | m + 1 => by
    rw [show 2 * (m + 1) = 2 * m + 1 + 1 by omega, List.range_succ, List.range_succ, range_two m, List.range_succ, List.flatMap_append]
    simp
theorem key_add (k v : Nat) (b : Bool) : bw (fv k v) k ++ [48 + b.toNat] = bw (fv (k + 1) (2 * v + b.toNat)) (k + 1) := by
  have e : bw (fv (k + 1) (2 * v + b.toNat)) (k + 1) = bw (fv (k + 1) (2 * v + b.toNat)) k ++ [48 + (fv (k + 1) (2 * v + b.toNat) k).toNat] := by
    unfold bw; rw [List.range_succ, List.map_append]; rfl
  have bt : ∀ i, (2 * v + b.toNat).testBit i = if i = 0 then b else v.testBit (i - 1) := fun i => by
    have hb : b.toNat < 2 ^ 1 := by cases b <;> decide
    have := Nat.testBit_two_pow_mul_add v hb i
    rw [Nat.pow_one] at this
    rw [this]
    by_cases z : i = 0
    · subst z
      rw [if_pos (by omega), if_pos rfl]
      cases b <;> rfl
    · rw [if_neg (by omega), if_neg z]
  rw [e]
  congr 1
  · apply bw_congr
    intro j hj
    show v.testBit (k - 1 - j) = (2 * v + b.toNat).testBit (k + 1 - 1 - j)
    rw [bt, if_neg (by omega)]
    congr 1; omega
  · show [48 + b.toNat] = [48 + ((2 * v + b.toNat).testBit (k + 1 - 1 - k)).toNat]
    rw [bt, if_pos (by omega)]
/-- all rings of one size, in the order of all_words -/
def ringsK (n : Nat) : List D := (List.range (2 ^ n)).map (key n)
theorem ringsK_succ (k : Nat) : ringsK (k + 1) = (List.range (2 ^ k)).flatMap fun v => [key (k + 1) (2 * v), key (k + 1) (2 * v + 1)] := by
  unfold ringsK
  rw [Nat.pow_succ, Nat.mul_comm, range_two, List.map_flatMap]
  rfl
theorem lc2_keys {k : Nat} {a b c d e f : Cell} (hk : k ≤ 12) (ha : a = .fr (.int 2)) : ∀ xs : List Nat, (∀ v ∈ xs, v < 2 ^ k) →
    lcL2 (gSet 4) tTrue (iR1 (eVar 0)) (gSet 5) tTrue (e2 qAdd (eOwn 4) (e2 qIx (eC (.str "0123")) (eOwn 5))) [5] [a, b, c, d, e, f] (xs.map (key k)) T0 = some (xs.flatMap fun v => [key (k + 1) (2 * v), key (k + 1) (2 * v + 1)], T0)
  | [], _ => rfl
  | v :: xs, h => by
    subst ha
    have ih := lc2_keys (k := k) (a := .fr (.int 2)) (b := b) (c := c) (d := d) (e := e) (f := f) hk rfl xs fun w hw => h w (List.mem_cons_of_mem _ hw)
    have q : ∀ t : Bool, qAdd (key k v) (.str (S [48 + t.toNat])) = some (key (k + 1) (2 * v + t.toNat)) := fun t => by
      refine (q_cat ?_).trans ?_
      · rw [bw_len]; simp only [List.length_cons, List.length_nil]; omega
      · rw [key_add]; rfl
    have q0 := q false
    have q1 := q true
    have el : lcL (gSet 5) tTrue (e2 qAdd (eOwn 4) (e2 qIx (eC (.str "0123")) (eOwn 5))) (wipeR [.fr (.int 2), b, c, d, .fr (key k v), f] [5]) (rngD 0 2) T0 = some ([key (k + 1) (2 * v), key (k + 1) (2 * v + 1)], T0) := by
      have e0 : e2 qAdd (eOwn 4) (e2 qIx (eC (.str "0123")) (eOwn 5)) [.fr (.int 2), b, c, d, .fr (key k v), .fr (.int 0)] T0 = some (key (k + 1) (2 * v), T0) := e2_of (x := key k v) (y := .str (S [48])) (T1 := T0) rfl rfl q0
      have e1 : e2 qAdd (eOwn 4) (e2 qIx (eC (.str "0123")) (eOwn 5)) [.fr (.int 2), b, c, d, .fr (key k v), .fr (.int 1)] T0 = some (key (k + 1) (2 * v + 1), T0) := e2_of (x := key k v) (y := .str (S [49])) (T1 := T0) rfl rfl q1
      show (match e2 qAdd (eOwn 4) (e2 qIx (eC (.str "0123")) (eOwn 5)) [.fr (.int 2), b, c, d, .fr (key k v), .fr (.int 0)] T0 with
        | none => none
        | some (y, T2) => match (match e2 qAdd (eOwn 4) (e2 qIx (eC (.str "0123")) (eOwn 5)) [.fr (.int 2), b, c, d, .fr (key k v), .fr (.int 1)] T2 with
          | none => none
          | some (y, T2) => match (some ([], T2) : Option (List D × Tp)) with
            | none => none
            | some (ys, T3) => some (y :: ys, T3)) with
          | none => none
          | some (ys, T3) => some (y :: ys, T3)) = _
      rw [e0]
      simp only [e1]
    show (match lcL (gSet 5) tTrue (e2 qAdd (eOwn 4) (e2 qIx (eC (.str "0123")) (eOwn 5))) (wipeR [.fr (.int 2), b, c, d, .fr (key k v), f] [5]) (rngD 0 2) T0 with
      | none => none
      | some (ys, T3) => match lcL2 (gSet 4) tTrue (iR1 (eVar 0)) (gSet 5) tTrue (e2 qAdd (eOwn 4) (e2 qIx (eC (.str "0123")) (eOwn 5))) [5] [.fr (.int 2), b, c, d, e, f] (xs.map (key k)) T3 with
        | none => none
        | some (zs, T4) => some (ys ++ zs, T4)) = _
    rw [el]
    simp only [ih]
    rfl
theorem words_key {n : Nat} (h : n ≤ 12) : p_all_words [.int 2, .int (n : Nat)] = some (.list (ringsK n)) := by
  have loop : ∀ m k (c4 c5 : Cell), k + m = n → ∀ c3 : Cell, ∃ c3' c4' c5', forL (gSet 3) (sFz 2 (sNew 2 (eLc2 (iSeq (eVar 2)) (gSet 4) tTrue (iR1 (eVar 0)) (gSet 5) tTrue (e2 qAdd (eOwn 4) (e2 qIx (eC (.str "0123")) (eOwn 5))) [4, 5] [5]))) (rngD (k : Nat) m) [.fr (.int 2), .fr (.int (n : Nat)), .ow (.list (ringsK k)), c3, c4, c5] T0 = some (.nx [.fr (.int 2), .fr (.int (n : Nat)), .ow (.list (ringsK n)), c3', c4', c5'], T0) := by
    intro m
    induction m with
    | zero =>
      intro k c4 c5 e c3
      have e : k = n := by omega
      subst e
      exact ⟨c3, c4, c5, rfl⟩
    | succ m ih =>
      intro k c4 c5 e c3
      obtain ⟨a, b, c, hh⟩ := ih (k + 1) c4 c5 (by omega) (.fr (.int (k : Nat)))
      refine ⟨a, b, c, for_cons (d := .int (k : Nat)) (T2 := T0) (ρ2 := [.fr (.int 2), .fr (.int (n : Nat)), .ow (.list (ringsK (k + 1))), .fr (.int (k : Nat)), c4, c5]) rfl ?_ ?_⟩
      · have len : (ringsK (k + 1)).length ≤ 16777216 := by
          unfold ringsK
          rw [List.length_map, List.length_range]
          exact Nat.le_trans (Nat.pow_le_pow_right (by decide) (show k + 1 ≤ 12 by omega)) (by decide)
        have el : eLc2 (iSeq (eVar 2)) (gSet 4) tTrue (iR1 (eVar 0)) (gSet 5) tTrue (e2 qAdd (eOwn 4) (e2 qIx (eC (.str "0123")) (eOwn 5))) [4, 5] [5] [.fr (.int 2), .fr (.int (n : Nat)), .fr (.list (ringsK k)), .fr (.int (k : Nat)), c4, c5] T0 = some (.list (ringsK (k + 1)), T0) := by
          have h2 := lc2_keys (k := k) (a := .fr (.int 2)) (b := .fr (.int (n : Nat))) (c := .fr (.list (ringsK k))) (d := .fr (.int (k : Nat))) (e := .un) (f := .un) (by omega) rfl (List.range (2 ^ k)) fun v hv => List.mem_range.mp hv
          rw [← ringsK_succ] at h2
          show (match lcL2 _ _ _ _ _ _ _ [.fr (.int 2), .fr (.int (n : Nat)), .fr (.list (ringsK k)), .fr (.int (k : Nat)), .un, .un] ((List.range (2 ^ k)).map (key k)) T0 with
            | none => none
            | some (ys, T2) => if ys.length.ble line24 then some (PyData.list ys, T2) else none) = _
          rw [h2]
          show (if (ringsK (k + 1)).length.ble line24 = true then _ else none) = _
          rw [if_pos (ble24 len)]
        exact new_of (fa := eLc2 (iSeq (eVar 2)) (gSet 4) tTrue (iR1 (eVar 0)) (gSet 5) tTrue (e2 qAdd (eOwn 4) (e2 qIx (eC (.str "0123")) (eOwn 5))) [4, 5] [5]) (ρ := [.fr (.int 2), .fr (.int (n : Nat)), .fr (.list (ringsK k)), .fr (.int (k : Nat)), c4, c5]) el
      · have e3 : ((k : Nat) : Int) + 1 = ((k + 1 : Nat) : Int) := by omega
        rw [e3]
        exact hh
  obtain ⟨a, b, c, hh⟩ := loop n 0 .un .un (by omega) .un
  refine bodyP_rt (T1 := T0) (seq_nx (T1 := T0) (new_of (d := .list (ringsK 0)) (T1 := T0) rfl) (seq_nx (T1 := T0) (for_of (ds := rngD 0 n) (T1 := T0) ?_ hh) rfl))
  exact (r1_of (k := ((n : Nat) : Int)) rfl (ok62_nat (by omega))).trans (by rw [Int.toNat_natCast])
end Dv

/-! KE1: gardens, is_back, steps; the length of rounds. -/
namespace Dv
open PySem
theorem pow2 {n : Nat} (h : n ≤ 12) : p_power [.int 2, .int (n : Nat)] = some (.int ((2 ^ n : Nat) : Int)) := by
  match n, h with
  | 0, _ => kernel_rfl
  | 1, _ => kernel_rfl
  | 2, _ => kernel_rfl
  | 3, _ => kernel_rfl
  | 4, _ => kernel_rfl
  | 5, _ => kernel_rfl
  | 6, _ => kernel_rfl
  | 7, _ => kernel_rfl
  | 8, _ => kernel_rfl
  | 9, _ => kernel_rfl
  | 10, _ => kernel_rfl
  | 11, _ => kernel_rfl
  | 12, _ => kernel_rfl
  | n + 13, h => omega
theorem pow_le {n : Nat} (h : n ≤ 12) : 2 ^ n ≤ 4096 := Nat.le_trans (Nat.pow_le_pow_right (by decide) h) (by decide)

/-! ### which rings have come -/
def tru (l : List Nat) : List (Nat × D) := l.map fun w => (w, .bool true)
def addS (n : Nat) (seen : List Nat) (w : Nat) : List Nat := if seen.any (· == st n w) then seen else seen ++ [st n w]
theorem look_tru (w : Nat) : ∀ l : List Nat, look (tru l) w = if l.any (· == w) then some (.bool true) else none
  | [] => rfl
  | x :: l => by
    show (match x == w with | true => some (PyData.bool true) | false => look (tru l) w) = if (x == w || l.any (· == w)) = true then _ else _
    rw [look_tru w l]
    cases x == w <;> rfl
theorem tru_mem {l : List Nat} {b : Nat} (h : ∀ w ∈ l, w < b) : ∀ p ∈ tru l, p.1 < b := fun p hp => by
  obtain ⟨w, hw, rfl⟩ := List.mem_map.mp hp
  exact h w hw
theorem anyK {n w : Nat} (hw : w < 2 ^ n) : ∀ {l : List Nat}, (∀ x ∈ l, x < 2 ^ n) → (ents n (tru l)).any (fun e => kEq e.1 (key n w)) = l.any (· == w)
  | [], _ => rfl
  | x :: l, h => by
    show (kEq (key n x) (key n w) || (ents n (tru l)).any _) = (x == w || l.any (· == w))
    rw [kEq_keys (h x List.mem_cons_self) hw, anyK hw fun q hq => h q (List.mem_cons_of_mem _ hq)]
theorem putK1 {n w : Nat} (hw : st n w < 2 ^ n) {l : List Nat} (h : ∀ x ∈ l, x < 2 ^ n) : putD (ents n (tru l)) (key n (st n w)) (.bool true) = ents n (tru (addS n l w)) := by
  unfold putD addS
  rw [anyK hw h]
  cases e : l.any (· == st n w) with
  | false =>
    rw [if_neg Bool.false_ne_true, if_neg Bool.false_ne_true]
    show ents n (tru l) ++ [_] = ((l ++ [st n w]).map fun w => (w, PyData.bool true)).map _
    rw [List.map_append, List.map_append]; rfl
  | true =>
    rw [if_pos rfl, if_pos rfl]
    show (((l.map fun w => (w, PyData.bool true)).map fun p => (key n p.1, p.2)).map _) = (l.map fun w => (w, PyData.bool true)).map _
    rw [List.map_map, List.map_map, List.map_map]
    apply List.map_congr_left
    intro x _
    show (if kEq (key n x) (key n (st n w)) then (key n x, PyData.bool true) else (key n x, .bool true)) = (key n x, .bool true)
    split <;> rfl
theorem addS_lt {n : Nat} {l : List Nat} {w : Nat} (h1 : 1 ≤ n) (h : ∀ x ∈ l, x < 2 ^ n) (hw : w < 2 ^ n) : ∀ x ∈ addS n l w, x < 2 ^ n := fun x hx => by
  unfold addS at hx
  split at hx
  · exact h x hx
  · rcases List.mem_append.mp hx with z | z
    · exact h x z
    · rw [List.mem_singleton.mp z]; exact st_lt h1 hw
/-- counted by a number whose bits tell what has come -/
def cntG (n : Nat) : List Nat → Nat → Nat → Nat
  | [], _, c => c
  | w :: ws, m, c => match m.testBit (st n w) with
    | true => cntG n ws m c
    | false => cntG n ws (m ||| 1 <<< st n w) (c + 1)
def bkG (n : Nat) : List Nat → Nat → Bool
  | [], _ => false
  | w :: ws, m => match m.testBit (st n w) with
    | true => true
    | false => bkG n ws (m ||| 1 <<< st n w)
def Told (seen : List Nat) (m : Nat) : Prop := ∀ w, seen.any (· == w) = m.testBit w
theorem told_nil : Told [] 0 := fun w => by rw [Nat.zero_testBit]; rfl
theorem told_add {seen : List Nat} {m : Nat} (h : Told seen m) (x : Nat) : Told (seen ++ [x]) (m ||| 1 <<< x) := fun w => by
  rw [List.any_append, Nat.testBit_or, h w, Nat.shiftLeft_eq, Nat.one_mul, Nat.testBit_two_pow]
  congr 1
  show ((x == w) || false) = _
  rw [Bool.or_false, Bool.eq_iff_iff, beq_iff_eq, decide_eq_true_eq]
theorem count_seen {n : Nat} : ∀ (ws seen : List Nat) (m c : Nat), Told seen m → seen.length = c → (ws.foldl (addS n) seen).length = cntG n ws m c
  | [], seen, m, c, _, e => e
  | w :: ws, seen, m, c, ht, e => by
    rw [List.foldl_cons]
    unfold addS cntG
    rw [← ht (st n w)]
    cases z : seen.any (· == st n w) with
    | true => exact count_seen ws seen m c ht e
    | false => exact count_seen ws (seen ++ [st n w]) _ (c + 1) (told_add ht _) (by rw [List.length_append, e]; rfl)
theorem dc_keys {n : Nat} (h1 : 1 ≤ n) (h2 : n ≤ 22) {b c d : Cell} : ∀ (ws seen : List Nat), (∀ w ∈ ws, w < 2 ^ n) → (∀ x ∈ seen, x < 2 ^ n) →
    dcL (gSet 3) tTrue (eCall (argc 2 p_step) (aCons (eVar 0) (aCons (eVar 3) aNil))) (eC (.bool true)) [.fr r90, b, c, d] (ws.map (key n)) (ents n (tru seen)) T0 = some (ents n (tru (ws.foldl (addS n) seen)), T0)
  | [], _, _, _ => rfl
  | w :: ws, seen, hw, hs => by
    have e : eCall (argc 2 p_step) (aCons (eVar 0) (aCons (eVar 3) aNil)) [.fr r90, b, c, .fr (key n w)] T0 = some (key n (st n w), T0) := callP_of (ds := [r90, key n w]) (T1 := T0) rfl rfl (step_key h1 h2 (hw w List.mem_cons_self))
    have ih := dc_keys h1 h2 (b := b) (c := c) (d := d) ws (addS n seen w) (fun x hx => hw x (List.mem_cons_of_mem _ hx)) (addS_lt h1 hs (hw w List.mem_cons_self))
    rw [List.map_cons, List.foldl_cons, ← ih]
    show (match eCall (argc 2 p_step) (aCons (eVar 0) (aCons (eVar 3) aNil)) [.fr r90, b, c, .fr (key n w)] T0 with
      | none => none
      | some (k, T2) => match keyOf k with
        | none => none
        | some _ => dcL (gSet 3) tTrue (eCall (argc 2 p_step) (aCons (eVar 0) (aCons (eVar 3) aNil))) (eC (.bool true)) [.fr r90, b, c, d] (ws.map (key n)) (putD (ents n (tru seen)) k (.bool true)) T2) = _
    rw [e]
    show dcL _ _ _ _ _ _ (putD (ents n (tru seen)) (key n (st n w)) (.bool true)) T0 = _
    rw [putK1 (st_lt h1 (hw w List.mem_cons_self)) hs]
theorem size_ok {n : Nat} (h1 : 1 ≤ n) (h2 : n ≤ 12) {ρ : Rho} (a0 : ρ[0]? = some (.fr r90)) (a1 : ρ[1]? = some (.fr (.int (n : Nat)))) :
    tOrF (tNotF (tBool (eCh (eC (.int 1)) (lCons qLe (eOwn 1) (lLast qLe (eC (.int 12))))))) (tBool (e2 qGt (eCall (argc 2 p_power) (aCons (e2 qIx (eOwn 0) (eC (.int 0))) (aCons (eVar 1) aNil))) (eC (.int 4096)))) ρ T0 = some (false, T0) := by
  have o0 : eOwn 0 ρ T0 = some (r90, T0) := by unfold eOwn; rw [a0]
  have o1 : eOwn 1 ρ T0 = some (.int (n : Nat), T0) := by unfold eOwn; rw [a1]
  have v1 : eVar 1 ρ T0 = some (.int (n : Nat), T0) := by unfold eVar; rw [a1]
  refine (or_f (T1 := T0) (not_of (b := true) (bool_of (ch_of (x := .int 1) (T1 := T0) rfl (lc_t (y := .int (n : Nat)) (T1 := T0) o1 (q_le_t (by omega)) (lc_last (y := .int 12) rfl (q_le_t (by omega)))))))).trans (bool_of (e2_of (x := .int ((2 ^ n : Nat) : Int)) (y := .int 4096) (T1 := T0) (callP_of (ds := [.int 2, .int (n : Nat)]) (T1 := T0) (a_cons (T1 := T0) (e2_of (x := r90) (y := .int 0) (T1 := T0) o0 rfl rfl) (a_one v1)) rfl (pow2 h2)) rfl (q_gt_f ?_)))
  have := pow_le h2
  omega
theorem gardens_key {n : Nat} (h1 : 1 ≤ n) (h2 : n ≤ 12) : p_gardens [r90, .int (n : Nat)] = some (.int (((2 ^ n : Nat) : Int) - (cntG n (List.range (2 ^ n)) 0 0 : Nat))) := by
  have hd := dc_keys h1 (by omega : n ≤ 22) (b := .fr (.int (n : Nat))) (c := .fr (.list (ringsK n))) (d := .un) (List.range (2 ^ n)) [] (fun w hw => List.mem_range.mp hw) (fun _ hx => (by cases hx))
  have hp := pow_le h2
  have len : (ringsK n).length = 2 ^ n := by unfold ringsK; rw [List.length_map, List.length_range]
  refine bodyP_rt (T1 := T0) (seq_nx (T1 := T0) (drop_of (d := .none) (callP_of (ds := [r90]) (T1 := T0) rfl rfl chk90)) (seq_nx (T1 := T0) (if_f (T1 := T0) (size_ok h1 h2 rfl rfl) rfl) (seq_nx (T1 := T0) (set_of (d := .list (ringsK n)) (callP_of (ds := [.int 2, .int (n : Nat)]) (T1 := T0) rfl rfl (words_key h2))) (ret_of (e2_of (x := .int ((2 ^ n : Nat) : Int)) (y := .int ((cntG n (List.range (2 ^ n)) 0 0 : Nat) : Int)) (T1 := T0) (call_of (ds := [.list (ringsK n)]) (T1 := T0) rfl ?_) (call_of (ds := [.dict (ents n (tru ((List.range (2 ^ n)).foldl (addS n) [])))]) (T1 := T0) (a_one (dc_of (ds := ringsK n) (T1 := T0) rfl hd (ble24 (by omega)))) ?_) rfl)))))
  · show some (PyData.int ((ringsK n).length : Nat)) = _
    rw [len]
  · have hk : ∀ l, isK (ents n (tru l)) = false := fun l => by cases l <;> rfl
    show (if isK (ents n (tru _)) then none else some (PyData.int ((ents n (tru ((List.range (2 ^ n)).foldl (addS n) []))).length : Nat))) = _
    rw [hk, List.length_map]
    show some (PyData.int ((((List.range (2 ^ n)).foldl (addS n) []).map fun w => (w, PyData.bool true)).length : Nat)) = _
    rw [List.length_map, count_seen _ [] 0 0 told_nil rfl]
theorem back_loop {n : Nat} (h1 : 1 ≤ n) (h2 : n ≤ 22) {b : Cell} : ∀ (ws seen : List Nat) (m : Nat) (c d : Cell), (∀ w ∈ ws, w < 2 ^ n) → (∀ x ∈ seen, x < 2 ^ n) → Told seen m → seen.length + ws.length ≤ 10000 → bkG n ws m = true →
    forL (gSet 3) (sSeq (sSet 4 (eCall (argc 2 p_step) (aCons (eVar 0) (aCons (eVar 3) aNil)))) (sSeq (sIf (tBool (e2 qIn2 (eOwn 4) (eOwn 2))) (sRet (eC (.bool false))) sSkip) (sPut 2 (eC (.bool true)) (eVar 4)))) (ws.map (key n)) [.fr r90, b, .ow (.dict (ents n (tru seen))), c, d] T0 = some (.rt (.bool false), T0)
  | [], _, _, _, _, _, _, _, _, h => by cases h
  | w :: ws, seen, m, c, d, hw, hs, ht, hl, hb => by
    have hww := hw w List.mem_cons_self
    have e := step_key h1 h2 hww
    have hst := st_lt h1 hww
    have q := in_ents hst (tru_mem hs)
    rw [look_tru, ht (st n w)] at q
    unfold bkG at hb
    rw [List.map_cons]
    cases z : m.testBit (st n w) with
    | true =>
      rw [z] at q
      exact for_rt rfl (seq_nx (T1 := T0) (set_of (d := key n (st n w)) (callP_of (ds := [r90, key n w]) (T1 := T0) rfl rfl e)) (seq_rt (if_t (T1 := T0) (bool_of (e2_of (x := key n (st n w)) (y := .dict (ents n (tru seen))) (T1 := T0) rfl rfl q)) rfl)))
    | false =>
      rw [z] at q hb
      have ha : seen.any (· == st n w) = false := by rw [ht (st n w)]; exact z
      rw [List.length_cons] at hl
      refine for_cons (T2 := T0) (ρ2 := [.fr r90, b, .ow (.dict (ents n (tru (seen ++ [st n w])))), .fr (key n w), .fr (key n (st n w))]) rfl (seq_nx (ρ1 := [.fr r90, b, .ow (.dict (ents n (tru seen))), .fr (key n w), .fr (key n (st n w))]) (T1 := T0) (set_of (d := key n (st n w)) (callP_of (ds := [r90, key n w]) (T1 := T0) rfl rfl e)) (seq_nx (T1 := T0) (if_f (T1 := T0) (bool_of (e2_of (x := key n (st n w)) (y := .dict (ents n (tru seen))) (T1 := T0) rfl rfl q)) rfl) ?_)) (back_loop h1 h2 ws (seen ++ [st n w]) _ _ _ (fun x hx => hw x (List.mem_cons_of_mem _ hx)) (fun x hx => ?_) (told_add ht _) ?_ hb)
      · show (match dAt (ents n (tru seen)) (key n (st n w)) with | none => none | some _ => if (ents n (tru seen)).length.blt line24 then _ else none) = _
        have hln : (ents n (tru seen)).length < 16777216 := by
          rw [List.length_map]
          show (seen.map fun w => (w, PyData.bool true)).length < _
          rw [List.length_map]; omega
        rw [dAt_ents hst (tru_mem hs)]
        show (if (ents n (tru seen)).length.blt line24 = true then _ else none) = _
        rw [if_pos (blt24 hln), put_ents hst (tru_mem hs) (by rw [look_tru, ha]; rfl)]
        show some (Fl.nx [.fr r90, b, .ow (.dict (ents n (tru seen ++ [(st n w, PyData.bool true)]))), .fr (key n w), .fr (key n (st n w))], T0) = _
        unfold tru
        rw [List.map_append]; rfl
      · rcases List.mem_append.mp hx with y | y
        · exact hs x y
        · rw [List.mem_singleton.mp y]; exact hst
      · rw [List.length_append]
        show seen.length + 1 + ws.length ≤ _
        omega
theorem back_key {n : Nat} (h1 : 1 ≤ n) (h2 : n ≤ 12) (hb : bkG n (List.range (2 ^ n)) 0 = true) : p_is_back [r90, .int (n : Nat)] = some (.bool false) := by
  have hp := pow_le h2
  exact bodyP_rt (T1 := T0) (seq_nx (T1 := T0) (drop_of (d := .none) (callP_of (ds := [r90]) (T1 := T0) rfl rfl chk90)) (seq_nx (T1 := T0) (if_f (T1 := T0) (size_ok h1 h2 rfl rfl) rfl) (seq_nx (T1 := T0) (new_of (d := .dict []) (T1 := T0) rfl) (seq_rt (for_of (ds := ringsK n) (T1 := T0) (seq_i (d := .list (ringsK n)) (callP_of (ds := [.int 2, .int (n : Nat)]) (T1 := T0) rfl rfl (words_key h2)) rfl) (back_loop h1 (by omega) (List.range (2 ^ n)) [] 0 .un .un (fun w hw => List.mem_range.mp hw) (fun _ hx => (by cases hx)) told_nil (by rw [List.length_range, List.length_nil]; omega) hb))))))
theorem steps_key {n v c : Nat} (h1 : 1 ≤ n) (h2 : n ≤ 22) (hv : v < 2 ^ n) (hc : c ≤ 2000) : p_steps [r90, key n v, .int (c : Nat)] = some (key n (itS n v c)) := by
  have loop : ∀ m k (x : Cell), k + m = c → ∃ y, forL (gSet 3) (sSet 1 (eCall (argc 2 p_step) (aCons (eVar 0) (aCons (eVar 1) aNil)))) (rngD (k : Nat) m) [.fr r90, .fr (key n (itS n v k)), .fr (.int (c : Nat)), x] T0 = some (.nx [.fr r90, .fr (key n (itS n v c)), .fr (.int (c : Nat)), y], T0) := by
    intro m
    induction m with
    | zero => intro k x e; have e : k = c := by omega
              subst e; exact ⟨x, rfl⟩
    | succ m ih =>
      intro k x e
      obtain ⟨y, hh⟩ := ih (k + 1) (.fr (.int (k : Nat))) (by omega)
      refine ⟨y, for_cons (d := .int (k : Nat)) (T2 := T0) (ρ2 := [.fr r90, .fr (key n (itS n v (k + 1))), .fr (.int (c : Nat)), .fr (.int (k : Nat))]) rfl (set_of (d := key n (itS n v (k + 1))) (callP_of (ds := [r90, key n (itS n v k)]) (T1 := T0) rfl rfl (step_key h1 h2 (it_lt h1 hv k)))) ?_⟩
      have e3 : ((k : Nat) : Int) + 1 = ((k + 1 : Nat) : Int) := by omega
      rw [e3]
      exact hh
  obtain ⟨y, hh⟩ := loop c 0 .un (by omega)
  refine bodyP_rt (T1 := T0) (seq_nx (T1 := T0) (if_f (T1 := T0) (not_of (b := true) (bool_of (ch_of (x := .int 0) (T1 := T0) rfl (lc_t (y := .int (c : Nat)) (T1 := T0) rfl (q_le_t (by omega)) (lc_last (y := .int 2000) rfl (q_le_t (by omega))))))) rfl) (seq_nx (T1 := T0) (drop_of (d := .none) (callP_of (ds := [r90]) (T1 := T0) rfl rfl chk90)) (seq_nx (T1 := T0) (drop_of (d := .none) (callP_of (ds := [.int 2, key n v]) (T1 := T0) rfl rfl (ring_ok _ h1 (by omega)))) (seq_nx (T1 := T0) (for_of (ds := rngD 0 c) (T1 := T0) ?_ hh) rfl))))
  exact (r1_of (k := ((c : Nat) : Int)) rfl (ok62_nat (by omega))).trans (by rw [Int.toNat_natCast])

/-! ### the length of rounds -/
theorem least {P : Nat → Prop} : ∀ n, P n → ∃ m, P m ∧ m ≤ n ∧ ∀ k, k < m → ¬ P k := fun n => by
  induction n using Nat.strongRecOn with
  | ind n ih =>
    intro h
    by_cases e : ∃ k, k < n ∧ P k
    · obtain ⟨k, hk, pk⟩ := e
      obtain ⟨m, a, b, c⟩ := ih k hk pk
      exact ⟨m, a, by omega, c⟩
    · exact ⟨n, h, Nat.le_refl _, fun k hk pk => e ⟨k, hk, pk⟩⟩
theorem rnd_of {x : Nat → Nat} {f : Nat → Nat} (hx : ∀ k, x (k + 1) = f (x k)) {t u : Nat} (h : x (t + u) = x t) (hu : 0 < u) : ∃ a N, Rnd x a N ∧ N ≤ t + u ∧ a ≤ t ∧ (N - a) ∣ u := by
  obtain ⟨N, ⟨a, haN, ha⟩, hN, hmin⟩ := least (P := fun N => ∃ a, a < N ∧ x a = x N) (t + u) ⟨t, by omega, h.symm⟩
  have hnew : ∀ j, j < N → ∀ i, i < j → x i ≠ x j := fun j hj i hi e => hmin j hj ⟨i, hi, e⟩
  have hp : 0 < N - a := by omega
  have per : ∀ k, x (a + k + (N - a)) = x (a + k) := by
    intro k
    induction k with
    | zero => rw [Nat.add_zero, show a + (N - a) = N by omega, ha]
    | succ k ih => rw [show a + (k + 1) + (N - a) = a + k + (N - a) + 1 by omega, hx, ih, ← hx]; rfl
  have mod : ∀ q k, x (a + k + q * (N - a)) = x (a + k) := by
    intro q
    induction q with
    | zero => intro k; rw [Nat.zero_mul, Nat.add_zero]
    | succ q ih => intro k; rw [Nat.succ_mul, ← Nat.add_assoc, show a + k + q * (N - a) + (N - a) = a + (k + q * (N - a)) + (N - a) by omega, per, ← Nat.add_assoc, ih]
  have red : ∀ i, a ≤ i → x i = x (a + (i - a) % (N - a)) := fun i hi => by
    have e := Nat.div_add_mod (i - a) (N - a)
    have := mod ((i - a) / (N - a)) ((i - a) % (N - a))
    rw [← this]
    congr 1
    rw [Nat.mul_comm] at e
    omega
  have uniq : ∀ i j, i < N → j < N → x i = x j → i = j := fun i j hi hj e => by
    rcases Nat.lt_trichotomy i j with z | z | z
    · exact absurd e (hnew j hj i z)
    · exact z
    · exact absurd e.symm (hnew i hi j z)
  have hat : a ≤ t := by
    apply Nat.le_of_not_lt
    intro lt
    have h1 : a ≤ t + u := by omega
    have h2 := red (t + u) h1
    have h3 := Nat.mod_lt (t + u - a) hp
    have := uniq t (a + (t + u - a) % (N - a)) (by omega) (by omega) (by rw [← h, h2])
    omega
  refine ⟨a, N, ⟨haN, ha.symm, hnew⟩, hN, hat, ?_⟩
  have h2 := red (t + u) (by omega)
  have h3 := red t hat
  have m1 := Nat.mod_lt (t + u - a) hp
  have m2 := Nat.mod_lt (t - a) hp
  have := uniq _ _ (by omega) (by omega) (h2.symm.trans (h.trans h3))
  have e : (t + u - a) % (N - a) = (t - a) % (N - a) := by omega
  have e2 : u = (t + u - a) - (t - a) := by omega
  rw [e2]
  exact Nat.dvd_of_mod_eq_zero (Nat.sub_mod_eq_zero_of_mod_eq e)
end Dv

/-! KF: counted out for the rings of up to twelve cells (printed by mkKF.py). -/
namespace Dv
open PySem
def nearD : D := .tuple [.tuple [.int (-1), .int 1], .tuple [.int 1, .int 1]]
def sameG (n t u : Nat) : Bool := (List.range (2 ^ n)).all fun v => itS n v (t + u) == itS n v t
def newG (n v N : Nat) : Bool := (List.range N).all fun j => (List.range j).all fun i => !(itS n v i == itS n v j)
theorem same_of {n t u : Nat} (h : sameG n t u = true) {v : Nat} (hv : v < 2 ^ n) : itS n v (t + u) = itS n v t := beq_iff_eq.mp (List.all_eq_true.mp h v (List.mem_range.mpr hv))
theorem rnd_new {n v a N : Nat} (h : newG n v N = true) (ha : a < N) (hb : itS n v N = itS n v a) : Rnd (itS n v) a N := by
  refine ⟨ha, hb, fun j hj i hi e => ?_⟩
  have := List.all_eq_true.mp (List.all_eq_true.mp h j (List.mem_range.mpr hj)) i (List.mem_range.mpr hi)
  rw [e, beq_self_eq_true] at this
  cases this
/-- all that is counted out for one size: tail, turn and what is left over -/
structure Cnt (n t u p l : Nat) : Prop where
  pos : 1 ≤ n
  top : n ≤ 12
  upos : 1 ≤ u
  ub : t + u ≤ 100
  round : p_ring_round [.int 2, nearD, .int (n : Nat)] = some (.tuple [.int (t : Nat), .int (u : Nat)])
  same : sameG n t u = true
  one : newG n (2 ^ (n - 1)) (t + u) = true
  count : cntG n (List.range (2 ^ n)) 0 0 = 2 ^ (n - (if p = 1 then 1 else 2))
  back : bkG n (List.range (2 ^ n)) 0 = true
  tail : t = if p = 1 then 1 else p / 2
  odd : l = 1 → u = 1
  fits : (if p = 1 then 1 else 2) ≤ n

theorem cnt_1 : Cnt 1 1 1 1 1 := ⟨by decide, by decide, by decide, by decide, by kernel_rfl, by decide +kernel, by decide +kernel, by decide +kernel, by decide +kernel, by decide, by decide, by decide⟩
theorem cnt_2 : Cnt 2 1 1 2 1 := ⟨by decide, by decide, by decide, by decide, by kernel_rfl, by decide +kernel, by decide +kernel, by decide +kernel, by decide +kernel, by decide, by decide, by decide⟩
theorem cnt_3 : Cnt 3 1 1 1 3 := ⟨by decide, by decide, by decide, by decide, by kernel_rfl, by decide +kernel, by decide +kernel, by decide +kernel, by decide +kernel, by decide, by decide, by decide⟩
theorem cnt_4 : Cnt 4 2 1 4 1 := ⟨by decide, by decide, by decide, by decide, by kernel_rfl, by decide +kernel, by decide +kernel, by decide +kernel, by decide +kernel, by decide, by decide, by decide⟩
theorem cnt_5 : Cnt 5 1 3 1 5 := ⟨by decide, by decide, by decide, by decide, by kernel_rfl, by decide +kernel, by decide +kernel, by decide +kernel, by decide +kernel, by decide, by decide, by decide⟩
theorem cnt_6 : Cnt 6 1 2 2 3 := ⟨by decide, by decide, by decide, by decide, by kernel_rfl, by decide +kernel, by decide +kernel, by decide +kernel, by decide +kernel, by decide, by decide, by decide⟩
theorem cnt_7 : Cnt 7 1 7 1 7 := ⟨by decide, by decide, by decide, by decide, by kernel_rfl, by decide +kernel, by decide +kernel, by decide +kernel, by decide +kernel, by decide, by decide, by decide⟩
theorem cnt_8 : Cnt 8 4 1 8 1 := ⟨by decide, by decide, by decide, by decide, by kernel_rfl, by decide +kernel, by decide +kernel, by decide +kernel, by decide +kernel, by decide, by decide, by decide⟩
theorem cnt_9 : Cnt 9 1 7 1 9 := ⟨by decide, by decide, by decide, by decide, by kernel_rfl, by decide +kernel, by decide +kernel, by decide +kernel, by decide +kernel, by decide, by decide, by decide⟩
theorem cnt_10 : Cnt 10 1 6 2 5 := ⟨by decide, by decide, by decide, by decide, by kernel_rfl, by decide +kernel, by decide +kernel, by decide +kernel, by decide +kernel, by decide, by decide, by decide⟩
theorem cnt_11 : Cnt 11 1 31 1 11 := ⟨by decide, by decide, by decide, by decide, by kernel_rfl, by decide +kernel, by decide +kernel, by decide +kernel, by decide +kernel, by decide, by decide, by decide⟩
theorem cnt_12 : Cnt 12 2 4 4 3 := ⟨by decide, by decide, by decide, by decide, by kernel_rfl, by decide +kernel, by decide +kernel, by decide +kernel, by decide +kernel, by decide, by decide, by decide⟩
end Dv

/-! KG: linear steps, and what many of them do to any ring. -/
namespace Dv
open PySem
def plD (p : Int × Nat) : D := .tuple [.int p.1, .int ((p.2 : Nat) : Int)]
def rl (r : List (Int × Nat)) : D := .tuple (r.map plD)
def tl (xs : List Nat) : D := .tuple (xs.map fun x => .int ((x : Nat) : Int))
def ix (n k : Nat) (p : Int) : Nat := ((((k : Nat) : Int) + p) % ((n : Nat) : Int)).toNat
def lstep (m : Nat) (r : List (Int × Nat)) (xs : List Nat) : List Nat := (List.range xs.length).map fun k => ((r.map fun p => p.2 * xs.getD (ix xs.length k p.1) 0).sum) % m
theorem lstep_len (m : Nat) (r : List (Int × Nat)) (xs : List Nat) : (lstep m r xs).length = xs.length := by unfold lstep; rw [List.length_map, List.length_range]
theorem lstep_lt {m : Nat} (hm : 1 ≤ m) (r : List (Int × Nat)) (xs : List Nat) : ∀ x ∈ lstep m r xs, x < m := fun x hx => by
  obtain ⟨k, _, rfl⟩ := List.mem_map.mp hx
  exact Nat.mod_lt _ hm
theorem ix_lt {n : Nat} (h : 1 ≤ n) (k : Nat) (p : Int) : ix n k p < n := by
  have h1 := Int.emod_nonneg (((k : Nat) : Int) + p) (show ((n : Nat) : Int) ≠ 0 by omega)
  have h2 := Int.emod_lt_of_pos (((k : Nat) : Int) + p) (show (0 : Int) < ((n : Nat) : Int) by omega)
  unfold ix
  omega
theorem sum_cast {α : Type} (f : α → Nat) : ∀ l : List α, (l.map fun a => ((f a : Nat) : Int)).sum = (((l.map f).sum : Nat) : Int)
  | [] => rfl
  | a :: l => by rw [List.map_cons, List.sum_cons, sum_cast f l, List.map_cons, List.sum_cons]; omega
theorem getD_lt {xs : List Nat} {m i : Nat} (hm : 1 ≤ m) (h : ∀ x ∈ xs, x < m) : xs.getD i 0 < m := by
  rw [List.getD_eq_getElem?_getD]
  cases e : xs[i]? with
  | none => exact hm
  | some x => exact h x (List.mem_of_getElem? e)
theorem getD_get {xs : List Nat} {i : Nat} (h : i < xs.length) : xs.getD i 0 = xs[i] := by
  rw [List.getD_eq_getElem?_getD, List.getElem?_eq_getElem h]; rfl
theorem q_sumN {α : Type} (f : α → Nat) (l : List α) : qSum [.list (l.map fun a => .int ((f a : Nat) : Int))] = some (.int (((l.map f).sum : Nat) : Int)) := by
  show (match intsD (l.map fun a => PyData.int ((f a : Nat) : Int)) with | none => none | some bs => some (PyData.int bs.sum)) = _
  rw [intsD_map (fun a => ((f a : Nat) : Int)), ← sum_cast]
theorem q_allT {α : Type} (l : List α) : qAll [.list (l.map fun _ => .bool true)] = some (.bool true) := by
  show (match boolsD (l.map fun _ => PyData.bool true) with | none => none | some bs => some (PyData.bool (bs.all id))) = _
  rw [boolsD_map (fun _ => true)]
  show some (PyData.bool _) = _
  rw [show (l.map fun _ => true).all id = true from List.all_eq_true.mpr fun x hx => by obtain ⟨_, _, rfl⟩ := List.mem_map.mp hx; rfl]
theorem tl_len (xs : List Nat) : qLen [tl xs] = some (.int ((xs.length : Nat) : Int)) := by
  show some (PyData.int ((xs.map fun x => PyData.int ((x : Nat) : Int)).length : Nat)) = _
  rw [List.length_map]
theorem linear_key {m : Nat} {r : List (Int × Nat)} {xs : List Nat} (hm : 1 ≤ m) (hm2 : m ≤ 12) (hc : p_check_linear [.int ((m : Nat) : Int), rl r] = some .none) (h1 : 1 ≤ xs.length) (h2 : xs.length ≤ 60) (hx : ∀ x ∈ xs, x < m) (hr : r.length ≤ 1000) :
    p_linear_step [.int ((m : Nat) : Int), rl r, tl xs] = some (tl (lstep m r xs)) := by
  refine bodyP_rt (T1 := T0) (seq_nx (T1 := T0) (drop_of (d := .none) (callP_of (ds := [.int ((m : Nat) : Int), rl r]) (T1 := T0) rfl rfl hc)) (seq_nx (T1 := T0) (if_f (T1 := T0) ((or_f (T1 := T0) (not_of (b := true) (bool_of (ch_of (x := .int 1) (T1 := T0) rfl (lc_t (y := .int ((xs.length : Nat) : Int)) (T1 := T0) (call_of (ds := [tl xs]) (T1 := T0) rfl (tl_len xs)) (q_le_t (by omega)) (lc_last (y := .int 60) rfl (q_le_t (by omega)))))))).trans (not_of (b := true) (tru_of (d := .bool true) (call_of (ds := [.list (xs.map fun _ => .bool true)]) (T1 := T0) (a_one (lc_of (ds := xs.map fun x => .int ((x : Nat) : Int)) (ys := xs.map fun _ => .bool true) (T1 := T0) (T2 := T0) (seq_i (d := tl xs) rfl rfl) (lcL_map fun x hx' => ⟨_, rfl, rfl, ch_of (x := .int 0) (T1 := T0) rfl (lc_t (y := .int ((x : Nat) : Int)) (T1 := T0) rfl (q_le_t (by omega)) (lc_last (y := .int ((m : Nat) : Int)) rfl (q_lt_t (by have := hx x hx'; omega))))⟩) (by rw [List.length_map]; omega))) (q_allT xs)) rfl))) rfl)
    (seq_nx (T1 := T0) (set_of (d := .int ((xs.length : Nat) : Int)) (call_of (ds := [tl xs]) (T1 := T0) rfl (tl_len xs))) (ret_of (call_of (ds := [.list ((List.range xs.length).map fun k => .int ((((r.map fun p => p.2 * xs.getD (ix xs.length k p.1) 0).sum) % m : Nat) : Int))]) (T1 := T0) (a_one (lc_of (ds := (List.range xs.length).map fun k => .int ((k : Nat) : Int)) (ys := (List.range xs.length).map fun k => .int ((((r.map fun p => p.2 * xs.getD (ix xs.length k p.1) 0).sum) % m : Nat) : Int)) (T1 := T0) (T2 := T0) ((r1_of (k := ((xs.length : Nat) : Int)) rfl (ok62_nat (by omega))).trans (by rw [Int.toNat_natCast, rngD0])) (lcL_map fun k hk => ⟨_, rfl, rfl,
      e2_of (x := .int (((r.map fun p => p.2 * xs.getD (ix xs.length k p.1) 0).sum : Nat) : Int)) (y := .int ((m : Nat) : Int)) (T1 := T0) (call_of (ds := [.list (r.map fun p => .int (((p.2 * xs.getD (ix xs.length k p.1) 0 : Nat) : Nat) : Int))]) (T1 := T0) (a_one (lc_of (ds := r.map plD) (ys := r.map fun p => .int (((p.2 * xs.getD (ix xs.length k p.1) 0 : Nat) : Nat) : Int)) (T1 := T0) (T2 := T0) (seq_i (d := rl r) rfl rfl) (lcL_map fun p _ => ⟨_, rfl, rfl, e2_of (x := .int ((p.2 : Nat) : Int)) (y := .int ((xs.getD (ix xs.length k p.1) 0 : Nat) : Int)) (T1 := T0) rfl (e2_of (x := tl xs) (y := .int ((ix xs.length k p.1 : Nat) : Int)) (T1 := T0) rfl (e2_of (x := .int (((k : Nat) : Int) + p.1)) (y := .int ((xs.length : Nat) : Int)) (T1 := T0) rfl rfl ?_) ?_) ?_⟩) (by rw [List.length_map]; omega))) (q_sumN _ r)) rfl ?_⟩) (by rw [List.length_map, List.length_range]; omega))) ?_)))))
  · rw [q_mod (by omega)]
    have := Int.emod_nonneg (((k : Nat) : Int) + p.1) (show ((xs.length : Nat) : Int) ≠ 0 by omega)
    unfold ix
    congr 2; omega
  · show atD (xs.map fun x => PyData.int ((x : Nat) : Int)) ((ix xs.length k p.1 : Nat) : Int) = _
    have hl := ix_lt h1 k p.1
    rw [at_nat (by rw [List.length_map]; exact hl), List.getElem_map, getD_get hl]
  · rw [q_mul (by have := getD_lt (i := ix xs.length k p.1) hm hx; omega)]
    congr 2
  · rw [q_mod (by omega)]
    congr 2
  · show some (PyData.tuple _) = some (.tuple _)
    unfold lstep
    rw [List.map_map]; rfl

/-! ### linear forms -/
theorem sum_mod {α : Type} {m : Nat} {f g : α → Nat} : ∀ {l : List α}, (∀ a ∈ l, f a % m = g a % m) → (l.map f).sum % m = (l.map g).sum % m
  | [], _ => rfl
  | a :: l, h => by
    rw [List.map_cons, List.map_cons, List.sum_cons, List.sum_cons, Nat.add_mod, h a List.mem_cons_self, sum_mod fun b hb => h b (List.mem_cons_of_mem _ hb), ← Nat.add_mod]
theorem sum_add {α : Type} (f g : α → Nat) : ∀ l : List α, (l.map fun a => f a + g a).sum = (l.map f).sum + (l.map g).sum
  | [] => rfl
  | a :: l => by rw [List.map_cons, List.sum_cons, sum_add f g l, List.map_cons, List.map_cons, List.sum_cons, List.sum_cons]; omega
theorem sum_mulL {α : Type} (c : Nat) (f : α → Nat) : ∀ l : List α, (l.map fun a => c * f a).sum = c * (l.map f).sum
  | [] => rfl
  | a :: l => by rw [List.map_cons, List.sum_cons, sum_mulL c f l, List.map_cons, List.sum_cons, Nat.mul_add]
theorem sum_mulR {α : Type} (c : Nat) (f : α → Nat) : ∀ l : List α, (l.map fun a => f a * c).sum = (l.map f).sum * c
  | [] => by show 0 = 0 * c; rw [Nat.zero_mul]
  | a :: l => by rw [List.map_cons, List.sum_cons, sum_mulR c f l, List.map_cons, List.sum_cons, Nat.add_mul]
theorem sum_zero {α : Type} : ∀ l : List α, (l.map fun _ => 0).sum = 0
  | [] => rfl
  | _ :: l => by rw [List.map_cons, List.sum_cons, sum_zero l]
theorem sum_swap {α β : Type} (f : α → β → Nat) (k : List β) : ∀ l : List α, (l.map fun a => (k.map fun b => f a b).sum).sum = (k.map fun b => (l.map fun a => f a b).sum).sum
  | [] => by rw [show (k.map fun b => (([] : List α).map fun a => f a b).sum) = k.map fun _ => 0 from rfl, sum_zero]; rfl
  | a :: l => by
    rw [List.map_cons, List.sum_cons, sum_swap f k l, ← sum_add]
    rfl
theorem sum_one (n k : Nat) (h : k < n) (f : Nat → Nat) : ((List.range n).map fun i => if i = k then f i else 0).sum = f k := by
  induction n with
  | zero => omega
  | succ n ih =>
    rw [List.range_succ, List.map_append, List.sum_append]
    show _ + ((if n = k then f n else 0) + 0) = _
    by_cases e : n = k
    · subst e
      rw [if_pos rfl]
      have : ((List.range n).map fun i => if i = n then f i else 0) = (List.range n).map fun _ => 0 := by
        apply List.map_congr_left
        intro i hi
        have := List.mem_range.mp hi
        rw [if_neg (by omega)]
      rw [this, sum_zero]; omega
    · rw [if_neg e, ih (by omega)]; rfl
/-- forms: one row of factors for each cell -/
abbrev Fm := List (List Nat)
def at2 (F : Fm) (k i : Nat) : Nat := (F.getD k []).getD i 0
def tab (n : Nat) (f : Nat → Nat → Nat) : Fm := (List.range n).map fun k => (List.range n).map fun i => f k i
theorem at_tab {n k i : Nat} (f : Nat → Nat → Nat) (hk : k < n) (hi : i < n) : at2 (tab n f) k i = f k i := by
  unfold at2 tab
  have e : ((List.range n).map fun k => (List.range n).map fun i => f k i).getD k [] = (List.range n).map fun i => f k i := by
    rw [List.getD_eq_getElem?_getD, List.getElem?_map, List.getElem?_range hk]; rfl
  rw [e, List.getD_eq_getElem?_getD, List.getElem?_map, List.getElem?_range hi]; rfl
def evs (m n : Nat) (F : Fm) (xs : List Nat) : List Nat := (List.range n).map fun k => ((List.range n).map fun i => at2 F k i * xs.getD i 0).sum % m
theorem evs_len (m n : Nat) (F : Fm) (xs : List Nat) : (evs m n F xs).length = n := by unfold evs; rw [List.length_map, List.length_range]
theorem evs_at {m n : Nat} {F : Fm} {xs : List Nat} {k : Nat} (h : k < n) : (evs m n F xs).getD k 0 = ((List.range n).map fun i => at2 F k i * xs.getD i 0).sum % m := by
  unfold evs
  rw [List.getD_eq_getElem?_getD, List.getElem?_map, List.getElem?_range h]; rfl
theorem evs_tab {m n : Nat} (f : Nat → Nat → Nat) (xs : List Nat) : evs m n (tab n f) xs = (List.range n).map fun k => ((List.range n).map fun i => f k i * xs.getD i 0).sum % m := by
  unfold evs
  apply List.map_congr_left
  intro k hk
  have : ((List.range n).map fun i => at2 (tab n f) k i * xs.getD i 0) = (List.range n).map fun i => f k i * xs.getD i 0 := by
    apply List.map_congr_left
    intro i hi
    rw [at_tab f (List.mem_range.mp hk) (List.mem_range.mp hi)]
  rw [this]
def scal (n c : Nat) : Fm := tab n fun k i => if i = k then c else 0
theorem evs_scal {m n c : Nat} {xs : List Nat} (h : xs.length = n) : evs m n (scal n c) xs = xs.map fun x => c * x % m := by
  unfold scal
  rw [evs_tab]
  apply List.ext_getElem
  · rw [List.length_map, List.length_map, List.length_range, h]
  · intro k h1 h2
    rw [List.length_map, List.length_range] at h1
    rw [List.getElem_map, List.getElem_map, List.getElem_range]
    have e : ((List.range n).map fun i => (if i = k then c else 0) * xs.getD i 0) = (List.range n).map fun i => if i = k then c * xs.getD i 0 else 0 := by
      apply List.map_congr_left
      intro i _
      by_cases z : i = k
      · rw [if_pos z, if_pos z]
      · rw [if_neg z, if_neg z, Nat.zero_mul]
    rw [e, sum_one n k h1 (fun i => c * xs.getD i 0), getD_get (by omega)]
theorem map_mod_id {m : Nat} {xs : List Nat} (h : ∀ x ∈ xs, x < m) : (xs.map fun x => 1 * x % m) = xs := by
  rw [show xs = xs.map id by rw [List.map_id]]
  rw [List.map_map]
  apply List.map_congr_left
  intro x hx
  show 1 * x % m = x
  rw [Nat.one_mul, Nat.mod_eq_of_lt (h x hx)]
theorem evs_id {m n : Nat} {xs : List Nat} (h : xs.length = n) (hx : ∀ x ∈ xs, x < m) : evs m n (scal n 1) xs = xs := by rw [evs_scal h, map_mod_id hx]
def lstepF (m n : Nat) (r : List (Int × Nat)) (F : Fm) : Fm := tab n fun k i => ((r.map fun p => p.2 * at2 F (ix n k p.1) i).sum) % m
theorem lstep_evs {m n : Nat} (hn : 1 ≤ n) (r : List (Int × Nat)) (F : Fm) (xs : List Nat) : lstep m r (evs m n F xs) = evs m n (lstepF m n r F) xs := by
  unfold lstepF
  rw [evs_tab]
  unfold lstep
  rw [evs_len]
  apply List.map_congr_left
  intro k hk
  have e1 : (r.map fun p => p.2 * (evs m n F xs).getD (ix n k p.1) 0) = r.map fun p => p.2 * (((List.range n).map fun i => at2 F (ix n k p.1) i * xs.getD i 0).sum % m) := by
    apply List.map_congr_left
    intro p _
    rw [evs_at (ix_lt hn k p.1)]
  rw [e1, sum_mod (l := r) (f := fun p => p.2 * (((List.range n).map fun i => at2 F (ix n k p.1) i * xs.getD i 0).sum % m)) (g := fun p => p.2 * ((List.range n).map fun i => at2 F (ix n k p.1) i * xs.getD i 0).sum) fun p _ => Nat.mul_mod_mod _ _ _]
  rw [sum_mod (l := List.range n) (g := fun i => (r.map fun p => p.2 * at2 F (ix n k p.1) i).sum * xs.getD i 0) fun i _ => Nat.mod_mul_mod _ _ _]
  have e2 : (r.map fun p => p.2 * ((List.range n).map fun i => at2 F (ix n k p.1) i * xs.getD i 0).sum) = r.map fun p => ((List.range n).map fun i => p.2 * (at2 F (ix n k p.1) i * xs.getD i 0)).sum := by
    apply List.map_congr_left
    intro p _
    rw [sum_mulL]
  rw [e2, sum_swap]
  have e3 : ((List.range n).map fun i => (r.map fun p => p.2 * (at2 F (ix n k p.1) i * xs.getD i 0)).sum) = (List.range n).map fun i => (r.map fun p => p.2 * at2 F (ix n k p.1) i).sum * xs.getD i 0 := by
    apply List.map_congr_left
    intro i _
    rw [← sum_mulR]
    congr 1
    apply List.map_congr_left
    intro p _
    rw [Nat.mul_assoc]
  rw [e3]
def addF (m n : Nat) (A B : Fm) : Fm := tab n fun k i => (at2 A k i + at2 B k i) % m
theorem evs_add {m n : Nat} (A B : Fm) (xs : List Nat) : evs m n (addF m n A B) xs = (List.range n).map fun k => ((evs m n A xs).getD k 0 + (evs m n B xs).getD k 0) % m := by
  unfold addF
  rw [evs_tab]
  apply List.map_congr_left
  intro k hk
  have hk' := List.mem_range.mp hk
  rw [evs_at hk', evs_at hk', ← Nat.add_mod]
  rw [sum_mod (l := List.range n) (g := fun i => (at2 A k i + at2 B k i) * xs.getD i 0) fun i _ => Nat.mod_mul_mod _ _ _]
  rw [← sum_add]
  congr 2
  apply List.map_congr_left
  intro i _
  rw [Nat.add_mul]
def itF (m n : Nat) (r : List (Int × Nat)) : Nat → Fm
  | 0 => scal n 1
  | k + 1 => lstepF m n r (itF m n r k)
def itL (m : Nat) (r : List (Int × Nat)) (xs : List Nat) : Nat → List Nat
  | 0 => xs
  | k + 1 => lstep m r (itL m r xs k)
theorem itL_len (m : Nat) (r : List (Int × Nat)) (xs : List Nat) : ∀ k, (itL m r xs k).length = xs.length
  | 0 => rfl
  | k + 1 => by rw [itL, lstep_len, itL_len m r xs k]
theorem itL_lt {m : Nat} (hm : 1 ≤ m) (r : List (Int × Nat)) {xs : List Nat} (hx : ∀ x ∈ xs, x < m) : ∀ k, ∀ x ∈ itL m r xs k, x < m
  | 0 => hx
  | k + 1 => lstep_lt hm _ _
theorem it_evs {m : Nat} {xs : List Nat} (hn : 1 ≤ xs.length) (r : List (Int × Nat)) (hx : ∀ x ∈ xs, x < m) : ∀ k, itL m r xs k = evs m xs.length (itF m xs.length r k) xs
  | 0 => (evs_id rfl hx).symm
  | k + 1 => by rw [itL, it_evs hn r hx k, lstep_evs hn]; rfl
/-- _law_steps -/
theorem lsteps_key {m c : Nat} {r : List (Int × Nat)} {xs : List Nat} (hm : 1 ≤ m) (hm2 : m ≤ 12) (hc : p_check_linear [.int ((m : Nat) : Int), rl r] = some .none) (h1 : 1 ≤ xs.length) (h2 : xs.length ≤ 60) (hx : ∀ x ∈ xs, x < m) (hr : r.length ≤ 1000) (hcc : c ≤ 1000) :
    p_law_steps [.int ((m : Nat) : Int), rl r, tl xs, .int ((c : Nat) : Int)] = some (tl (itL m r xs c)) := by
  have loop : ∀ j k (x : Cell), k + j = c → ∃ y, forL (gSet 4) (sSet 2 (eCall (argc 3 p_linear_step) (aCons (eVar 0) (aCons (eVar 1) (aCons (eVar 2) aNil))))) (rngD (k : Nat) j) [.fr (.int ((m : Nat) : Int)), .fr (rl r), .fr (tl (itL m r xs k)), .fr (.int ((c : Nat) : Int)), x] T0 = some (.nx [.fr (.int ((m : Nat) : Int)), .fr (rl r), .fr (tl (itL m r xs c)), .fr (.int ((c : Nat) : Int)), y], T0) := by
    intro j
    induction j with
    | zero => intro k x e; have e : k = c := by omega
              subst e; exact ⟨x, rfl⟩
    | succ j ih =>
      intro k x e
      obtain ⟨y, hh⟩ := ih (k + 1) (.fr (.int (k : Nat))) (by omega)
      refine ⟨y, for_cons (d := .int (k : Nat)) (T2 := T0) (ρ2 := [.fr (.int ((m : Nat) : Int)), .fr (rl r), .fr (tl (itL m r xs (k + 1))), .fr (.int ((c : Nat) : Int)), .fr (.int (k : Nat))]) rfl (set_of (d := tl (itL m r xs (k + 1))) (callP_of (ds := [.int ((m : Nat) : Int), rl r, tl (itL m r xs k)]) (T1 := T0) rfl rfl (linear_key hm hm2 hc (by rw [itL_len]; exact h1) (by rw [itL_len]; exact h2) (itL_lt hm r hx k) hr))) ?_⟩
      have e3 : ((k : Nat) : Int) + 1 = ((k + 1 : Nat) : Int) := by omega
      rw [e3]
      exact hh
  obtain ⟨y, hh⟩ := loop c 0 .un (by omega)
  refine bodyP_rt (T1 := T0) (seq_nx (T1 := T0) (for_of (ds := rngD 0 c) (T1 := T0) ?_ hh) rfl)
  exact (r1_of (k := ((c : Nat) : Int)) rfl (ok62_nat (by omega))).trans (by rw [Int.toNat_natCast])
end Dv

/-! KH: what is counted out for the drawn rules. -/
namespace Dv
open PySem
def okP (d : Option D) (f : D → Bool) : Bool := match d with | some d => f d | none => false
def isN (d : Option D) : Bool := match d with | some .none => true | _ => false
def isF (d : Option D) : Bool := match d with | some (.bool false) => true | _ => false
def isB (b : Bool) (d : Option D) : Bool := match d with | some (.bool c) => b == c | _ => false
theorem okP_ex {d : Option D} {f : D → Bool} (h : okP d f = true) : ∃ x, d = some x ∧ f x = true := by
  cases d with
  | none => cases h
  | some x => exact ⟨x, rfl, h⟩
theorem isN_eq {d : Option D} (h : isN d = true) : d = some .none := by
  unfold isN at h
  split at h
  · rfl
  · cases h
theorem isF_eq {d : Option D} (h : isF d = true) : d = some (.bool false) := by
  unfold isF at h
  split at h
  · rfl
  · cases h
theorem isB_eq {b : Bool} {d : Option D} (h : isB b d = true) : d = some (.bool b) := by
  unfold isB at h
  split at h
  · rw [beq_iff_eq.mp h]
  · cases h
def unpl : D → Option (Int × Nat)
  | .tuple [.int a, .int b] => match b with
    | .ofNat n => some (a, n)
    | _ => none
  | _ => none
def unpls : List D → Option (List (Int × Nat))
  | [] => some []
  | d :: ds => match unpl d with
    | none => none
    | some p => match unpls ds with
      | none => none
      | some r => some (p :: r)
def unrl : D → Option (List (Int × Nat))
  | .tuple ds => unpls ds
  | _ => none
theorem unpl_eq {d : D} {p : Int × Nat} (h : unpl d = some p) : d = plD p := by
  unfold unpl at h
  split at h
  · split at h
    · cases h; rfl
    · cases h
  · cases h
theorem unpls_eq : ∀ {ds : List D} {r : List (Int × Nat)}, unpls ds = some r → ds = r.map plD
  | [], _, h => by cases h; rfl
  | d :: ds, r, h => by
    unfold unpls at h
    split at h
    · cases h
    · rename_i p e
      split at h
      · cases h
      · rename_i q e2
        cases h
        rw [List.map_cons, ← unpl_eq e, ← unpls_eq e2]
theorem unrl_eq {d : D} {r : List (Int × Nat)} (h : unrl d = some r) : d = rl r := by
  unfold unrl at h
  split at h
  · unfold rl
    rw [unpls_eq h]
  · cases h
def ruleF (f : List Nat) : List (Int × Nat) := ((List.range 3).filter fun k => 0 < f.getD k 0).map fun k => (((k : Nat) : Int) - 1, f.getD k 0)
def otherR (o : Nat) : List (Int × Nat) := (List.range o).map fun k => (((k : Nat) : Int) - 2, 1)
abbrev iD (n : Nat) : D := .int ((n : Nat) : Int)
def unit0 (w : Nat) : List Nat := (List.range w).map fun k => if k = 0 then 1 else 0
def ckA (m : Nat) (f : List Nat) : Bool := isN (p_check_linear [iD m, rl (ruleF f)]) && okP (p_copies [iD m, rl (ruleF f), iD 2]) fun far => okP (p_power_rule [iD m, rl (ruleF f), iD (m * m)]) fun pw => isF (qNe far pw) && okP (p_lights [iD m, rl (ruleF f), iD m]) fun l => isF (qNe l (iD (ruleF f).length))
def loopW (m : Nat) (r : List (Int × Nat)) (w : Nat) (wh : D) : Nat → Nat → D → Bool
  | 0, _, _ => true
  | j + 1, k, now => okP (p_power_rule [iD m, rl r, iD k]) fun pk => okP (p_on_ring [iD m, pk, iD w]) fun ok => isF (qNe now ok) && okP (p_ring_product [iD m, now, wh]) fun nw => loopW m r w wh j (k + 1) nw
def ckW (m : Nat) (f : List Nat) (w : Nat) : Bool := isB (!((f.sum % m : Nat) == 0)) (p_ring_turnable [iD m, rl (ruleF f), iD w]) && (itF m w (ruleF f) w == scal w (f.sum % m) && okP (p_on_ring [iD m, rl (ruleF f), iD w]) fun wh => loopW m (ruleF f) w wh 4 0 (tl (unit0 w)))
def wideOf (m k : Nat) : Nat := [4, 8, 3, 9].getD (2 * (m - 2) + k) 0
def ckO (m : Nat) (f : List Nat) (o : Nat) : Bool := isN (p_check_linear [iD m, rl (otherR o)]) && okP (p_sum_rule [iD m, rl (ruleF f), rl (otherR o)]) fun both => match unrl both with
  | none => false
  | some b => Nat.ble b.length 1000 && (isN (p_check_linear [iD m, both]) && ((List.range 2).all (fun k => lstepF m (wideOf m k) b (scal (wideOf m k) 1) == addF m (wideOf m k) (lstepF m (wideOf m k) (ruleF f) (scal (wideOf m k) 1)) (lstepF m (wideOf m k) (otherR o) (scal (wideOf m k) 1))) &&
    okP (p_product_rule [iD m, both, rl (ruleF f)]) fun left => okP (p_product_rule [iD m, rl (ruleF f), rl (ruleF f)]) fun p1 => okP (p_product_rule [iD m, rl (otherR o), rl (ruleF f)]) fun p2 => okP (p_sum_rule [iD m, p1, p2]) fun right => isF (qNe left right)))
def ckAll (m a b : Nat) : Bool := (List.range m).all fun c => ckA m [a, b, c] && ((List.range 2).all (fun k => ckW m [a, b, c] (wideOf m k)) && (List.range 3).all fun o => ckO m [a, b, c] (o + 1))
end Dv

/-! KI2: counted out (printed by mkKI.py). -/
namespace Dv
open PySem

theorem kA_2_000 : ckA 2 [0, 0, 0] = true := by decide +kernel
theorem kW_2_000_0 : ckW 2 [0, 0, 0] (wideOf 2 0) = true := by decide +kernel
theorem kW_2_000_1 : ckW 2 [0, 0, 0] (wideOf 2 1) = true := by decide +kernel
theorem kO_2_000_1 : ckO 2 [0, 0, 0] 1 = true := by decide +kernel
theorem kO_2_000_2 : ckO 2 [0, 0, 0] 2 = true := by decide +kernel
theorem kO_2_000_3 : ckO 2 [0, 0, 0] 3 = true := by decide +kernel
theorem kA_2_001 : ckA 2 [0, 0, 1] = true := by decide +kernel
theorem kW_2_001_0 : ckW 2 [0, 0, 1] (wideOf 2 0) = true := by decide +kernel
theorem kW_2_001_1 : ckW 2 [0, 0, 1] (wideOf 2 1) = true := by decide +kernel
theorem kO_2_001_1 : ckO 2 [0, 0, 1] 1 = true := by decide +kernel
theorem kO_2_001_2 : ckO 2 [0, 0, 1] 2 = true := by decide +kernel
theorem kO_2_001_3 : ckO 2 [0, 0, 1] 3 = true := by decide +kernel
theorem kA_2_010 : ckA 2 [0, 1, 0] = true := by decide +kernel
theorem kW_2_010_0 : ckW 2 [0, 1, 0] (wideOf 2 0) = true := by decide +kernel
theorem kW_2_010_1 : ckW 2 [0, 1, 0] (wideOf 2 1) = true := by decide +kernel
theorem kO_2_010_1 : ckO 2 [0, 1, 0] 1 = true := by decide +kernel
theorem kO_2_010_2 : ckO 2 [0, 1, 0] 2 = true := by decide +kernel
theorem kO_2_010_3 : ckO 2 [0, 1, 0] 3 = true := by decide +kernel
theorem kA_2_011 : ckA 2 [0, 1, 1] = true := by decide +kernel
theorem kW_2_011_0 : ckW 2 [0, 1, 1] (wideOf 2 0) = true := by decide +kernel
theorem kW_2_011_1 : ckW 2 [0, 1, 1] (wideOf 2 1) = true := by decide +kernel
theorem kO_2_011_1 : ckO 2 [0, 1, 1] 1 = true := by decide +kernel
theorem kO_2_011_2 : ckO 2 [0, 1, 1] 2 = true := by decide +kernel
theorem kO_2_011_3 : ckO 2 [0, 1, 1] 3 = true := by decide +kernel
theorem kA_2_100 : ckA 2 [1, 0, 0] = true := by decide +kernel
theorem kW_2_100_0 : ckW 2 [1, 0, 0] (wideOf 2 0) = true := by decide +kernel
theorem kW_2_100_1 : ckW 2 [1, 0, 0] (wideOf 2 1) = true := by decide +kernel
theorem kO_2_100_1 : ckO 2 [1, 0, 0] 1 = true := by decide +kernel
theorem kO_2_100_2 : ckO 2 [1, 0, 0] 2 = true := by decide +kernel
theorem kO_2_100_3 : ckO 2 [1, 0, 0] 3 = true := by decide +kernel
theorem kA_2_101 : ckA 2 [1, 0, 1] = true := by decide +kernel
theorem kW_2_101_0 : ckW 2 [1, 0, 1] (wideOf 2 0) = true := by decide +kernel
theorem kW_2_101_1 : ckW 2 [1, 0, 1] (wideOf 2 1) = true := by decide +kernel
theorem kO_2_101_1 : ckO 2 [1, 0, 1] 1 = true := by decide +kernel
theorem kO_2_101_2 : ckO 2 [1, 0, 1] 2 = true := by decide +kernel
theorem kO_2_101_3 : ckO 2 [1, 0, 1] 3 = true := by decide +kernel
theorem kA_2_110 : ckA 2 [1, 1, 0] = true := by decide +kernel
theorem kW_2_110_0 : ckW 2 [1, 1, 0] (wideOf 2 0) = true := by decide +kernel
theorem kW_2_110_1 : ckW 2 [1, 1, 0] (wideOf 2 1) = true := by decide +kernel
theorem kO_2_110_1 : ckO 2 [1, 1, 0] 1 = true := by decide +kernel
theorem kO_2_110_2 : ckO 2 [1, 1, 0] 2 = true := by decide +kernel
theorem kO_2_110_3 : ckO 2 [1, 1, 0] 3 = true := by decide +kernel
theorem kA_2_111 : ckA 2 [1, 1, 1] = true := by decide +kernel
theorem kW_2_111_0 : ckW 2 [1, 1, 1] (wideOf 2 0) = true := by decide +kernel
theorem kW_2_111_1 : ckW 2 [1, 1, 1] (wideOf 2 1) = true := by decide +kernel
theorem kO_2_111_1 : ckO 2 [1, 1, 1] 1 = true := by decide +kernel
theorem kO_2_111_2 : ckO 2 [1, 1, 1] 2 = true := by decide +kernel
theorem kO_2_111_3 : ckO 2 [1, 1, 1] 3 = true := by decide +kernel
end Dv

/-! KI3a: counted out (printed by mkKI.py). -/
namespace Dv
open PySem

theorem kA_3_000 : ckA 3 [0, 0, 0] = true := by decide +kernel
theorem kW_3_000_0 : ckW 3 [0, 0, 0] (wideOf 3 0) = true := by decide +kernel
theorem kW_3_000_1 : ckW 3 [0, 0, 0] (wideOf 3 1) = true := by decide +kernel
theorem kO_3_000_1 : ckO 3 [0, 0, 0] 1 = true := by decide +kernel
theorem kO_3_000_2 : ckO 3 [0, 0, 0] 2 = true := by decide +kernel
theorem kO_3_000_3 : ckO 3 [0, 0, 0] 3 = true := by decide +kernel
theorem kA_3_001 : ckA 3 [0, 0, 1] = true := by decide +kernel
theorem kW_3_001_0 : ckW 3 [0, 0, 1] (wideOf 3 0) = true := by decide +kernel
theorem kW_3_001_1 : ckW 3 [0, 0, 1] (wideOf 3 1) = true := by decide +kernel
theorem kO_3_001_1 : ckO 3 [0, 0, 1] 1 = true := by decide +kernel
theorem kO_3_001_2 : ckO 3 [0, 0, 1] 2 = true := by decide +kernel
theorem kO_3_001_3 : ckO 3 [0, 0, 1] 3 = true := by decide +kernel
theorem kA_3_002 : ckA 3 [0, 0, 2] = true := by decide +kernel
theorem kW_3_002_0 : ckW 3 [0, 0, 2] (wideOf 3 0) = true := by decide +kernel
theorem kW_3_002_1 : ckW 3 [0, 0, 2] (wideOf 3 1) = true := by decide +kernel
theorem kO_3_002_1 : ckO 3 [0, 0, 2] 1 = true := by decide +kernel
theorem kO_3_002_2 : ckO 3 [0, 0, 2] 2 = true := by decide +kernel
theorem kO_3_002_3 : ckO 3 [0, 0, 2] 3 = true := by decide +kernel
theorem kA_3_010 : ckA 3 [0, 1, 0] = true := by decide +kernel
theorem kW_3_010_0 : ckW 3 [0, 1, 0] (wideOf 3 0) = true := by decide +kernel
theorem kW_3_010_1 : ckW 3 [0, 1, 0] (wideOf 3 1) = true := by decide +kernel
theorem kO_3_010_1 : ckO 3 [0, 1, 0] 1 = true := by decide +kernel
theorem kO_3_010_2 : ckO 3 [0, 1, 0] 2 = true := by decide +kernel
theorem kO_3_010_3 : ckO 3 [0, 1, 0] 3 = true := by decide +kernel
theorem kA_3_011 : ckA 3 [0, 1, 1] = true := by decide +kernel
theorem kW_3_011_0 : ckW 3 [0, 1, 1] (wideOf 3 0) = true := by decide +kernel
theorem kW_3_011_1 : ckW 3 [0, 1, 1] (wideOf 3 1) = true := by decide +kernel
theorem kO_3_011_1 : ckO 3 [0, 1, 1] 1 = true := by decide +kernel
theorem kO_3_011_2 : ckO 3 [0, 1, 1] 2 = true := by decide +kernel
theorem kO_3_011_3 : ckO 3 [0, 1, 1] 3 = true := by decide +kernel
theorem kA_3_012 : ckA 3 [0, 1, 2] = true := by decide +kernel
theorem kW_3_012_0 : ckW 3 [0, 1, 2] (wideOf 3 0) = true := by decide +kernel
theorem kW_3_012_1 : ckW 3 [0, 1, 2] (wideOf 3 1) = true := by decide +kernel
theorem kO_3_012_1 : ckO 3 [0, 1, 2] 1 = true := by decide +kernel
theorem kO_3_012_2 : ckO 3 [0, 1, 2] 2 = true := by decide +kernel
theorem kO_3_012_3 : ckO 3 [0, 1, 2] 3 = true := by decide +kernel
theorem kA_3_020 : ckA 3 [0, 2, 0] = true := by decide +kernel
theorem kW_3_020_0 : ckW 3 [0, 2, 0] (wideOf 3 0) = true := by decide +kernel
theorem kW_3_020_1 : ckW 3 [0, 2, 0] (wideOf 3 1) = true := by decide +kernel
theorem kO_3_020_1 : ckO 3 [0, 2, 0] 1 = true := by decide +kernel
theorem kO_3_020_2 : ckO 3 [0, 2, 0] 2 = true := by decide +kernel
theorem kO_3_020_3 : ckO 3 [0, 2, 0] 3 = true := by decide +kernel
theorem kA_3_021 : ckA 3 [0, 2, 1] = true := by decide +kernel
theorem kW_3_021_0 : ckW 3 [0, 2, 1] (wideOf 3 0) = true := by decide +kernel
theorem kW_3_021_1 : ckW 3 [0, 2, 1] (wideOf 3 1) = true := by decide +kernel
theorem kO_3_021_1 : ckO 3 [0, 2, 1] 1 = true := by decide +kernel
theorem kO_3_021_2 : ckO 3 [0, 2, 1] 2 = true := by decide +kernel
theorem kO_3_021_3 : ckO 3 [0, 2, 1] 3 = true := by decide +kernel
theorem kA_3_022 : ckA 3 [0, 2, 2] = true := by decide +kernel
theorem kW_3_022_0 : ckW 3 [0, 2, 2] (wideOf 3 0) = true := by decide +kernel
theorem kW_3_022_1 : ckW 3 [0, 2, 2] (wideOf 3 1) = true := by decide +kernel
theorem kO_3_022_1 : ckO 3 [0, 2, 2] 1 = true := by decide +kernel
theorem kO_3_022_2 : ckO 3 [0, 2, 2] 2 = true := by decide +kernel
theorem kO_3_022_3 : ckO 3 [0, 2, 2] 3 = true := by decide +kernel
end Dv

/-! KI3b: counted out (printed by mkKI.py). -/
namespace Dv
open PySem

theorem kA_3_100 : ckA 3 [1, 0, 0] = true := by decide +kernel
theorem kW_3_100_0 : ckW 3 [1, 0, 0] (wideOf 3 0) = true := by decide +kernel
theorem kW_3_100_1 : ckW 3 [1, 0, 0] (wideOf 3 1) = true := by decide +kernel
theorem kO_3_100_1 : ckO 3 [1, 0, 0] 1 = true := by decide +kernel
theorem kO_3_100_2 : ckO 3 [1, 0, 0] 2 = true := by decide +kernel
theorem kO_3_100_3 : ckO 3 [1, 0, 0] 3 = true := by decide +kernel
theorem kA_3_101 : ckA 3 [1, 0, 1] = true := by decide +kernel
theorem kW_3_101_0 : ckW 3 [1, 0, 1] (wideOf 3 0) = true := by decide +kernel
theorem kW_3_101_1 : ckW 3 [1, 0, 1] (wideOf 3 1) = true := by decide +kernel
theorem kO_3_101_1 : ckO 3 [1, 0, 1] 1 = true := by decide +kernel
theorem kO_3_101_2 : ckO 3 [1, 0, 1] 2 = true := by decide +kernel
theorem kO_3_101_3 : ckO 3 [1, 0, 1] 3 = true := by decide +kernel
theorem kA_3_102 : ckA 3 [1, 0, 2] = true := by decide +kernel
theorem kW_3_102_0 : ckW 3 [1, 0, 2] (wideOf 3 0) = true := by decide +kernel
theorem kW_3_102_1 : ckW 3 [1, 0, 2] (wideOf 3 1) = true := by decide +kernel
theorem kO_3_102_1 : ckO 3 [1, 0, 2] 1 = true := by decide +kernel
theorem kO_3_102_2 : ckO 3 [1, 0, 2] 2 = true := by decide +kernel
theorem kO_3_102_3 : ckO 3 [1, 0, 2] 3 = true := by decide +kernel
theorem kA_3_110 : ckA 3 [1, 1, 0] = true := by decide +kernel
theorem kW_3_110_0 : ckW 3 [1, 1, 0] (wideOf 3 0) = true := by decide +kernel
theorem kW_3_110_1 : ckW 3 [1, 1, 0] (wideOf 3 1) = true := by decide +kernel
theorem kO_3_110_1 : ckO 3 [1, 1, 0] 1 = true := by decide +kernel
theorem kO_3_110_2 : ckO 3 [1, 1, 0] 2 = true := by decide +kernel
theorem kO_3_110_3 : ckO 3 [1, 1, 0] 3 = true := by decide +kernel
theorem kA_3_111 : ckA 3 [1, 1, 1] = true := by decide +kernel
theorem kW_3_111_0 : ckW 3 [1, 1, 1] (wideOf 3 0) = true := by decide +kernel
theorem kW_3_111_1 : ckW 3 [1, 1, 1] (wideOf 3 1) = true := by decide +kernel
theorem kO_3_111_1 : ckO 3 [1, 1, 1] 1 = true := by decide +kernel
theorem kO_3_111_2 : ckO 3 [1, 1, 1] 2 = true := by decide +kernel
theorem kO_3_111_3 : ckO 3 [1, 1, 1] 3 = true := by decide +kernel
theorem kA_3_112 : ckA 3 [1, 1, 2] = true := by decide +kernel
theorem kW_3_112_0 : ckW 3 [1, 1, 2] (wideOf 3 0) = true := by decide +kernel
theorem kW_3_112_1 : ckW 3 [1, 1, 2] (wideOf 3 1) = true := by decide +kernel
theorem kO_3_112_1 : ckO 3 [1, 1, 2] 1 = true := by decide +kernel
theorem kO_3_112_2 : ckO 3 [1, 1, 2] 2 = true := by decide +kernel
theorem kO_3_112_3 : ckO 3 [1, 1, 2] 3 = true := by decide +kernel
theorem kA_3_120 : ckA 3 [1, 2, 0] = true := by decide +kernel
theorem kW_3_120_0 : ckW 3 [1, 2, 0] (wideOf 3 0) = true := by decide +kernel
theorem kW_3_120_1 : ckW 3 [1, 2, 0] (wideOf 3 1) = true := by decide +kernel
theorem kO_3_120_1 : ckO 3 [1, 2, 0] 1 = true := by decide +kernel
theorem kO_3_120_2 : ckO 3 [1, 2, 0] 2 = true := by decide +kernel
theorem kO_3_120_3 : ckO 3 [1, 2, 0] 3 = true := by decide +kernel
theorem kA_3_121 : ckA 3 [1, 2, 1] = true := by decide +kernel
theorem kW_3_121_0 : ckW 3 [1, 2, 1] (wideOf 3 0) = true := by decide +kernel
theorem kW_3_121_1 : ckW 3 [1, 2, 1] (wideOf 3 1) = true := by decide +kernel
theorem kO_3_121_1 : ckO 3 [1, 2, 1] 1 = true := by decide +kernel
theorem kO_3_121_2 : ckO 3 [1, 2, 1] 2 = true := by decide +kernel
theorem kO_3_121_3 : ckO 3 [1, 2, 1] 3 = true := by decide +kernel
theorem kA_3_122 : ckA 3 [1, 2, 2] = true := by decide +kernel
theorem kW_3_122_0 : ckW 3 [1, 2, 2] (wideOf 3 0) = true := by decide +kernel
theorem kW_3_122_1 : ckW 3 [1, 2, 2] (wideOf 3 1) = true := by decide +kernel
theorem kO_3_122_1 : ckO 3 [1, 2, 2] 1 = true := by decide +kernel
theorem kO_3_122_2 : ckO 3 [1, 2, 2] 2 = true := by decide +kernel
theorem kO_3_122_3 : ckO 3 [1, 2, 2] 3 = true := by decide +kernel
end Dv

/-! KI3c: counted out (printed by mkKI.py). -/
namespace Dv
open PySem

theorem kA_3_200 : ckA 3 [2, 0, 0] = true := by decide +kernel
theorem kW_3_200_0 : ckW 3 [2, 0, 0] (wideOf 3 0) = true := by decide +kernel
theorem kW_3_200_1 : ckW 3 [2, 0, 0] (wideOf 3 1) = true := by decide +kernel
theorem kO_3_200_1 : ckO 3 [2, 0, 0] 1 = true := by decide +kernel
theorem kO_3_200_2 : ckO 3 [2, 0, 0] 2 = true := by decide +kernel
theorem kO_3_200_3 : ckO 3 [2, 0, 0] 3 = true := by decide +kernel
theorem kA_3_201 : ckA 3 [2, 0, 1] = true := by decide +kernel
theorem kW_3_201_0 : ckW 3 [2, 0, 1] (wideOf 3 0) = true := by decide +kernel
theorem kW_3_201_1 : ckW 3 [2, 0, 1] (wideOf 3 1) = true := by decide +kernel
theorem kO_3_201_1 : ckO 3 [2, 0, 1] 1 = true := by decide +kernel
theorem kO_3_201_2 : ckO 3 [2, 0, 1] 2 = true := by decide +kernel
theorem kO_3_201_3 : ckO 3 [2, 0, 1] 3 = true := by decide +kernel
theorem kA_3_202 : ckA 3 [2, 0, 2] = true := by decide +kernel
theorem kW_3_202_0 : ckW 3 [2, 0, 2] (wideOf 3 0) = true := by decide +kernel
theorem kW_3_202_1 : ckW 3 [2, 0, 2] (wideOf 3 1) = true := by decide +kernel
theorem kO_3_202_1 : ckO 3 [2, 0, 2] 1 = true := by decide +kernel
theorem kO_3_202_2 : ckO 3 [2, 0, 2] 2 = true := by decide +kernel
theorem kO_3_202_3 : ckO 3 [2, 0, 2] 3 = true := by decide +kernel
theorem kA_3_210 : ckA 3 [2, 1, 0] = true := by decide +kernel
theorem kW_3_210_0 : ckW 3 [2, 1, 0] (wideOf 3 0) = true := by decide +kernel
theorem kW_3_210_1 : ckW 3 [2, 1, 0] (wideOf 3 1) = true := by decide +kernel
theorem kO_3_210_1 : ckO 3 [2, 1, 0] 1 = true := by decide +kernel
theorem kO_3_210_2 : ckO 3 [2, 1, 0] 2 = true := by decide +kernel
theorem kO_3_210_3 : ckO 3 [2, 1, 0] 3 = true := by decide +kernel
theorem kA_3_211 : ckA 3 [2, 1, 1] = true := by decide +kernel
theorem kW_3_211_0 : ckW 3 [2, 1, 1] (wideOf 3 0) = true := by decide +kernel
theorem kW_3_211_1 : ckW 3 [2, 1, 1] (wideOf 3 1) = true := by decide +kernel
theorem kO_3_211_1 : ckO 3 [2, 1, 1] 1 = true := by decide +kernel
theorem kO_3_211_2 : ckO 3 [2, 1, 1] 2 = true := by decide +kernel
theorem kO_3_211_3 : ckO 3 [2, 1, 1] 3 = true := by decide +kernel
theorem kA_3_212 : ckA 3 [2, 1, 2] = true := by decide +kernel
theorem kW_3_212_0 : ckW 3 [2, 1, 2] (wideOf 3 0) = true := by decide +kernel
theorem kW_3_212_1 : ckW 3 [2, 1, 2] (wideOf 3 1) = true := by decide +kernel
theorem kO_3_212_1 : ckO 3 [2, 1, 2] 1 = true := by decide +kernel
theorem kO_3_212_2 : ckO 3 [2, 1, 2] 2 = true := by decide +kernel
theorem kO_3_212_3 : ckO 3 [2, 1, 2] 3 = true := by decide +kernel
theorem kA_3_220 : ckA 3 [2, 2, 0] = true := by decide +kernel
theorem kW_3_220_0 : ckW 3 [2, 2, 0] (wideOf 3 0) = true := by decide +kernel
theorem kW_3_220_1 : ckW 3 [2, 2, 0] (wideOf 3 1) = true := by decide +kernel
theorem kO_3_220_1 : ckO 3 [2, 2, 0] 1 = true := by decide +kernel
theorem kO_3_220_2 : ckO 3 [2, 2, 0] 2 = true := by decide +kernel
theorem kO_3_220_3 : ckO 3 [2, 2, 0] 3 = true := by decide +kernel
theorem kA_3_221 : ckA 3 [2, 2, 1] = true := by decide +kernel
theorem kW_3_221_0 : ckW 3 [2, 2, 1] (wideOf 3 0) = true := by decide +kernel
theorem kW_3_221_1 : ckW 3 [2, 2, 1] (wideOf 3 1) = true := by decide +kernel
theorem kO_3_221_1 : ckO 3 [2, 2, 1] 1 = true := by decide +kernel
theorem kO_3_221_2 : ckO 3 [2, 2, 1] 2 = true := by decide +kernel
theorem kO_3_221_3 : ckO 3 [2, 2, 1] 3 = true := by decide +kernel
theorem kA_3_222 : ckA 3 [2, 2, 2] = true := by decide +kernel
theorem kW_3_222_0 : ckW 3 [2, 2, 2] (wideOf 3 0) = true := by decide +kernel
theorem kW_3_222_1 : ckW 3 [2, 2, 2] (wideOf 3 1) = true := by decide +kernel
theorem kO_3_222_1 : ckO 3 [2, 2, 2] 1 = true := by decide +kernel
theorem kO_3_222_2 : ckO 3 [2, 2, 2] 2 = true := by decide +kernel
theorem kO_3_222_3 : ckO 3 [2, 2, 2] 3 = true := by decide +kernel
end Dv

/-! KJ: counted out (printed by mkKI.py). -/
namespace Dv
open PySem

theorem ckA_2 {a b c : Nat} (ha : a < 2) (hb : b < 2) (hc : c < 2) : ckA 2 [a, b, c] = true := match a, b, c, ha, hb, hc with
  | 0, 0, 0, _, _, _ => kA_2_000
  | 0, 0, 1, _, _, _ => kA_2_001
  | 0, 1, 0, _, _, _ => kA_2_010
  | 0, 1, 1, _, _, _ => kA_2_011
  | 1, 0, 0, _, _, _ => kA_2_100
  | 1, 0, 1, _, _, _ => kA_2_101
  | 1, 1, 0, _, _, _ => kA_2_110
  | 1, 1, 1, _, _, _ => kA_2_111
  | x + 2, _, _, h, _, _ => absurd h (by omega)
  | _, x + 2, _, _, h, _ => absurd h (by omega)
  | _, _, x + 2, _, _, h => absurd h (by omega)
theorem ckW_2 {a b c k : Nat} (ha : a < 2) (hb : b < 2) (hc : c < 2) (hk : k < 2) : ckW 2 [a, b, c] (wideOf 2 k) = true := match a, b, c, k, ha, hb, hc, hk with
  | 0, 0, 0, 0, _, _, _, _ => kW_2_000_0
  | 0, 0, 0, 1, _, _, _, _ => kW_2_000_1
  | 0, 0, 1, 0, _, _, _, _ => kW_2_001_0
  | 0, 0, 1, 1, _, _, _, _ => kW_2_001_1
  | 0, 1, 0, 0, _, _, _, _ => kW_2_010_0
  | 0, 1, 0, 1, _, _, _, _ => kW_2_010_1
  | 0, 1, 1, 0, _, _, _, _ => kW_2_011_0
  | 0, 1, 1, 1, _, _, _, _ => kW_2_011_1
  | 1, 0, 0, 0, _, _, _, _ => kW_2_100_0
  | 1, 0, 0, 1, _, _, _, _ => kW_2_100_1
  | 1, 0, 1, 0, _, _, _, _ => kW_2_101_0
  | 1, 0, 1, 1, _, _, _, _ => kW_2_101_1
  | 1, 1, 0, 0, _, _, _, _ => kW_2_110_0
  | 1, 1, 0, 1, _, _, _, _ => kW_2_110_1
  | 1, 1, 1, 0, _, _, _, _ => kW_2_111_0
  | 1, 1, 1, 1, _, _, _, _ => kW_2_111_1
  | x + 2, _, _, _, h, _, _, _ => absurd h (by omega)
  | _, x + 2, _, _, _, h, _, _ => absurd h (by omega)
  | _, _, x + 2, _, _, _, h, _ => absurd h (by omega)
  | _, _, _, x + 2, _, _, _, h => absurd h (by omega)
theorem ckO_2 {a b c k : Nat} (ha : a < 2) (hb : b < 2) (hc : c < 2) (hk : k < 3) : ckO 2 [a, b, c] (1 + k) = true := match a, b, c, k, ha, hb, hc, hk with
  | 0, 0, 0, 0, _, _, _, _ => kO_2_000_1
  | 0, 0, 0, 1, _, _, _, _ => kO_2_000_2
  | 0, 0, 0, 2, _, _, _, _ => kO_2_000_3
  | 0, 0, 1, 0, _, _, _, _ => kO_2_001_1
  | 0, 0, 1, 1, _, _, _, _ => kO_2_001_2
  | 0, 0, 1, 2, _, _, _, _ => kO_2_001_3
  | 0, 1, 0, 0, _, _, _, _ => kO_2_010_1
  | 0, 1, 0, 1, _, _, _, _ => kO_2_010_2
  | 0, 1, 0, 2, _, _, _, _ => kO_2_010_3
  | 0, 1, 1, 0, _, _, _, _ => kO_2_011_1
  | 0, 1, 1, 1, _, _, _, _ => kO_2_011_2
  | 0, 1, 1, 2, _, _, _, _ => kO_2_011_3
  | 1, 0, 0, 0, _, _, _, _ => kO_2_100_1
  | 1, 0, 0, 1, _, _, _, _ => kO_2_100_2
  | 1, 0, 0, 2, _, _, _, _ => kO_2_100_3
  | 1, 0, 1, 0, _, _, _, _ => kO_2_101_1
  | 1, 0, 1, 1, _, _, _, _ => kO_2_101_2
  | 1, 0, 1, 2, _, _, _, _ => kO_2_101_3
  | 1, 1, 0, 0, _, _, _, _ => kO_2_110_1
  | 1, 1, 0, 1, _, _, _, _ => kO_2_110_2
  | 1, 1, 0, 2, _, _, _, _ => kO_2_110_3
  | 1, 1, 1, 0, _, _, _, _ => kO_2_111_1
  | 1, 1, 1, 1, _, _, _, _ => kO_2_111_2
  | 1, 1, 1, 2, _, _, _, _ => kO_2_111_3
  | x + 2, _, _, _, h, _, _, _ => absurd h (by omega)
  | _, x + 2, _, _, _, h, _, _ => absurd h (by omega)
  | _, _, x + 2, _, _, _, h, _ => absurd h (by omega)
  | _, _, _, x + 3, _, _, _, h => absurd h (by omega)
theorem ckA_3 {a b c : Nat} (ha : a < 3) (hb : b < 3) (hc : c < 3) : ckA 3 [a, b, c] = true := match a, b, c, ha, hb, hc with
  | 0, 0, 0, _, _, _ => kA_3_000
  | 0, 0, 1, _, _, _ => kA_3_001
  | 0, 0, 2, _, _, _ => kA_3_002
  | 0, 1, 0, _, _, _ => kA_3_010
  | 0, 1, 1, _, _, _ => kA_3_011
  | 0, 1, 2, _, _, _ => kA_3_012
  | 0, 2, 0, _, _, _ => kA_3_020
  | 0, 2, 1, _, _, _ => kA_3_021
  | 0, 2, 2, _, _, _ => kA_3_022
  | 1, 0, 0, _, _, _ => kA_3_100
  | 1, 0, 1, _, _, _ => kA_3_101
  | 1, 0, 2, _, _, _ => kA_3_102
  | 1, 1, 0, _, _, _ => kA_3_110
  | 1, 1, 1, _, _, _ => kA_3_111
  | 1, 1, 2, _, _, _ => kA_3_112
  | 1, 2, 0, _, _, _ => kA_3_120
  | 1, 2, 1, _, _, _ => kA_3_121
  | 1, 2, 2, _, _, _ => kA_3_122
  | 2, 0, 0, _, _, _ => kA_3_200
  | 2, 0, 1, _, _, _ => kA_3_201
  | 2, 0, 2, _, _, _ => kA_3_202
  | 2, 1, 0, _, _, _ => kA_3_210
  | 2, 1, 1, _, _, _ => kA_3_211
  | 2, 1, 2, _, _, _ => kA_3_212
  | 2, 2, 0, _, _, _ => kA_3_220
  | 2, 2, 1, _, _, _ => kA_3_221
  | 2, 2, 2, _, _, _ => kA_3_222
  | x + 3, _, _, h, _, _ => absurd h (by omega)
  | _, x + 3, _, _, h, _ => absurd h (by omega)
  | _, _, x + 3, _, _, h => absurd h (by omega)
theorem ckW_3 {a b c k : Nat} (ha : a < 3) (hb : b < 3) (hc : c < 3) (hk : k < 2) : ckW 3 [a, b, c] (wideOf 3 k) = true := match a, b, c, k, ha, hb, hc, hk with
  | 0, 0, 0, 0, _, _, _, _ => kW_3_000_0
  | 0, 0, 0, 1, _, _, _, _ => kW_3_000_1
  | 0, 0, 1, 0, _, _, _, _ => kW_3_001_0
  | 0, 0, 1, 1, _, _, _, _ => kW_3_001_1
  | 0, 0, 2, 0, _, _, _, _ => kW_3_002_0
  | 0, 0, 2, 1, _, _, _, _ => kW_3_002_1
  | 0, 1, 0, 0, _, _, _, _ => kW_3_010_0
  | 0, 1, 0, 1, _, _, _, _ => kW_3_010_1
  | 0, 1, 1, 0, _, _, _, _ => kW_3_011_0
  | 0, 1, 1, 1, _, _, _, _ => kW_3_011_1
  | 0, 1, 2, 0, _, _, _, _ => kW_3_012_0
  | 0, 1, 2, 1, _, _, _, _ => kW_3_012_1
  | 0, 2, 0, 0, _, _, _, _ => kW_3_020_0
  | 0, 2, 0, 1, _, _, _, _ => kW_3_020_1
  | 0, 2, 1, 0, _, _, _, _ => kW_3_021_0
  | 0, 2, 1, 1, _, _, _, _ => kW_3_021_1
  | 0, 2, 2, 0, _, _, _, _ => kW_3_022_0
  | 0, 2, 2, 1, _, _, _, _ => kW_3_022_1
  | 1, 0, 0, 0, _, _, _, _ => kW_3_100_0
  | 1, 0, 0, 1, _, _, _, _ => kW_3_100_1
  | 1, 0, 1, 0, _, _, _, _ => kW_3_101_0
  | 1, 0, 1, 1, _, _, _, _ => kW_3_101_1
  | 1, 0, 2, 0, _, _, _, _ => kW_3_102_0
  | 1, 0, 2, 1, _, _, _, _ => kW_3_102_1
  | 1, 1, 0, 0, _, _, _, _ => kW_3_110_0
  | 1, 1, 0, 1, _, _, _, _ => kW_3_110_1
  | 1, 1, 1, 0, _, _, _, _ => kW_3_111_0
  | 1, 1, 1, 1, _, _, _, _ => kW_3_111_1
  | 1, 1, 2, 0, _, _, _, _ => kW_3_112_0
  | 1, 1, 2, 1, _, _, _, _ => kW_3_112_1
  | 1, 2, 0, 0, _, _, _, _ => kW_3_120_0
  | 1, 2, 0, 1, _, _, _, _ => kW_3_120_1
  | 1, 2, 1, 0, _, _, _, _ => kW_3_121_0
  | 1, 2, 1, 1, _, _, _, _ => kW_3_121_1
  | 1, 2, 2, 0, _, _, _, _ => kW_3_122_0
  | 1, 2, 2, 1, _, _, _, _ => kW_3_122_1
  | 2, 0, 0, 0, _, _, _, _ => kW_3_200_0
  | 2, 0, 0, 1, _, _, _, _ => kW_3_200_1
  | 2, 0, 1, 0, _, _, _, _ => kW_3_201_0
  | 2, 0, 1, 1, _, _, _, _ => kW_3_201_1
  | 2, 0, 2, 0, _, _, _, _ => kW_3_202_0
  | 2, 0, 2, 1, _, _, _, _ => kW_3_202_1
  | 2, 1, 0, 0, _, _, _, _ => kW_3_210_0
  | 2, 1, 0, 1, _, _, _, _ => kW_3_210_1
  | 2, 1, 1, 0, _, _, _, _ => kW_3_211_0
  | 2, 1, 1, 1, _, _, _, _ => kW_3_211_1
  | 2, 1, 2, 0, _, _, _, _ => kW_3_212_0
  | 2, 1, 2, 1, _, _, _, _ => kW_3_212_1
  | 2, 2, 0, 0, _, _, _, _ => kW_3_220_0
  | 2, 2, 0, 1, _, _, _, _ => kW_3_220_1
  | 2, 2, 1, 0, _, _, _, _ => kW_3_221_0
  | 2, 2, 1, 1, _, _, _, _ => kW_3_221_1
  | 2, 2, 2, 0, _, _, _, _ => kW_3_222_0
  | 2, 2, 2, 1, _, _, _, _ => kW_3_222_1
  | x + 3, _, _, _, h, _, _, _ => absurd h (by omega)
  | _, x + 3, _, _, _, h, _, _ => absurd h (by omega)
  | _, _, x + 3, _, _, _, h, _ => absurd h (by omega)
  | _, _, _, x + 2, _, _, _, h => absurd h (by omega)
theorem ckO_3 {a b c k : Nat} (ha : a < 3) (hb : b < 3) (hc : c < 3) (hk : k < 3) : ckO 3 [a, b, c] (1 + k) = true := match a, b, c, k, ha, hb, hc, hk with
  | 0, 0, 0, 0, _, _, _, _ => kO_3_000_1
  | 0, 0, 0, 1, _, _, _, _ => kO_3_000_2
  | 0, 0, 0, 2, _, _, _, _ => kO_3_000_3
  | 0, 0, 1, 0, _, _, _, _ => kO_3_001_1
  | 0, 0, 1, 1, _, _, _, _ => kO_3_001_2
  | 0, 0, 1, 2, _, _, _, _ => kO_3_001_3
  | 0, 0, 2, 0, _, _, _, _ => kO_3_002_1
  | 0, 0, 2, 1, _, _, _, _ => kO_3_002_2
  | 0, 0, 2, 2, _, _, _, _ => kO_3_002_3
  | 0, 1, 0, 0, _, _, _, _ => kO_3_010_1
  | 0, 1, 0, 1, _, _, _, _ => kO_3_010_2
  | 0, 1, 0, 2, _, _, _, _ => kO_3_010_3
  | 0, 1, 1, 0, _, _, _, _ => kO_3_011_1
  | 0, 1, 1, 1, _, _, _, _ => kO_3_011_2
  | 0, 1, 1, 2, _, _, _, _ => kO_3_011_3
  | 0, 1, 2, 0, _, _, _, _ => kO_3_012_1
  | 0, 1, 2, 1, _, _, _, _ => kO_3_012_2
  | 0, 1, 2, 2, _, _, _, _ => kO_3_012_3
  | 0, 2, 0, 0, _, _, _, _ => kO_3_020_1
  | 0, 2, 0, 1, _, _, _, _ => kO_3_020_2
  | 0, 2, 0, 2, _, _, _, _ => kO_3_020_3
  | 0, 2, 1, 0, _, _, _, _ => kO_3_021_1
  | 0, 2, 1, 1, _, _, _, _ => kO_3_021_2
  | 0, 2, 1, 2, _, _, _, _ => kO_3_021_3
  | 0, 2, 2, 0, _, _, _, _ => kO_3_022_1
  | 0, 2, 2, 1, _, _, _, _ => kO_3_022_2
  | 0, 2, 2, 2, _, _, _, _ => kO_3_022_3
  | 1, 0, 0, 0, _, _, _, _ => kO_3_100_1
  | 1, 0, 0, 1, _, _, _, _ => kO_3_100_2
  | 1, 0, 0, 2, _, _, _, _ => kO_3_100_3
  | 1, 0, 1, 0, _, _, _, _ => kO_3_101_1
  | 1, 0, 1, 1, _, _, _, _ => kO_3_101_2
  | 1, 0, 1, 2, _, _, _, _ => kO_3_101_3
  | 1, 0, 2, 0, _, _, _, _ => kO_3_102_1
  | 1, 0, 2, 1, _, _, _, _ => kO_3_102_2
  | 1, 0, 2, 2, _, _, _, _ => kO_3_102_3
  | 1, 1, 0, 0, _, _, _, _ => kO_3_110_1
  | 1, 1, 0, 1, _, _, _, _ => kO_3_110_2
  | 1, 1, 0, 2, _, _, _, _ => kO_3_110_3
  | 1, 1, 1, 0, _, _, _, _ => kO_3_111_1
  | 1, 1, 1, 1, _, _, _, _ => kO_3_111_2
  | 1, 1, 1, 2, _, _, _, _ => kO_3_111_3
  | 1, 1, 2, 0, _, _, _, _ => kO_3_112_1
  | 1, 1, 2, 1, _, _, _, _ => kO_3_112_2
  | 1, 1, 2, 2, _, _, _, _ => kO_3_112_3
  | 1, 2, 0, 0, _, _, _, _ => kO_3_120_1
  | 1, 2, 0, 1, _, _, _, _ => kO_3_120_2
  | 1, 2, 0, 2, _, _, _, _ => kO_3_120_3
  | 1, 2, 1, 0, _, _, _, _ => kO_3_121_1
  | 1, 2, 1, 1, _, _, _, _ => kO_3_121_2
  | 1, 2, 1, 2, _, _, _, _ => kO_3_121_3
  | 1, 2, 2, 0, _, _, _, _ => kO_3_122_1
  | 1, 2, 2, 1, _, _, _, _ => kO_3_122_2
  | 1, 2, 2, 2, _, _, _, _ => kO_3_122_3
  | 2, 0, 0, 0, _, _, _, _ => kO_3_200_1
  | 2, 0, 0, 1, _, _, _, _ => kO_3_200_2
  | 2, 0, 0, 2, _, _, _, _ => kO_3_200_3
  | 2, 0, 1, 0, _, _, _, _ => kO_3_201_1
  | 2, 0, 1, 1, _, _, _, _ => kO_3_201_2
  | 2, 0, 1, 2, _, _, _, _ => kO_3_201_3
  | 2, 0, 2, 0, _, _, _, _ => kO_3_202_1
  | 2, 0, 2, 1, _, _, _, _ => kO_3_202_2
  | 2, 0, 2, 2, _, _, _, _ => kO_3_202_3
  | 2, 1, 0, 0, _, _, _, _ => kO_3_210_1
  | 2, 1, 0, 1, _, _, _, _ => kO_3_210_2
  | 2, 1, 0, 2, _, _, _, _ => kO_3_210_3
  | 2, 1, 1, 0, _, _, _, _ => kO_3_211_1
  | 2, 1, 1, 1, _, _, _, _ => kO_3_211_2
  | 2, 1, 1, 2, _, _, _, _ => kO_3_211_3
  | 2, 1, 2, 0, _, _, _, _ => kO_3_212_1
  | 2, 1, 2, 1, _, _, _, _ => kO_3_212_2
  | 2, 1, 2, 2, _, _, _, _ => kO_3_212_3
  | 2, 2, 0, 0, _, _, _, _ => kO_3_220_1
  | 2, 2, 0, 1, _, _, _, _ => kO_3_220_2
  | 2, 2, 0, 2, _, _, _, _ => kO_3_220_3
  | 2, 2, 1, 0, _, _, _, _ => kO_3_221_1
  | 2, 2, 1, 1, _, _, _, _ => kO_3_221_2
  | 2, 2, 1, 2, _, _, _, _ => kO_3_221_3
  | 2, 2, 2, 0, _, _, _, _ => kO_3_222_1
  | 2, 2, 2, 1, _, _, _, _ => kO_3_222_2
  | 2, 2, 2, 2, _, _, _, _ => kO_3_222_3
  | x + 3, _, _, _, h, _, _, _ => absurd h (by omega)
  | _, x + 3, _, _, _, h, _, _ => absurd h (by omega)
  | _, _, x + 3, _, _, _, h, _ => absurd h (by omega)
  | _, _, _, x + 3, _, _, _, h => absurd h (by omega)
end Dv

/-! KK: what the counted checks say; the drawn ring as a number. -/
namespace Dv
open PySem
theorem and_l {a b : Bool} (h : (a && b) = true) : a = true := (Bool.and_eq_true_iff.mp h).1
theorem and_r {a b : Bool} (h : (a && b) = true) : b = true := (Bool.and_eq_true_iff.mp h).2
theorem useA {m : Nat} {f : List Nat} (h : ckA m f = true) : p_check_linear [iD m, rl (ruleF f)] = some .none ∧ ∃ far pw l, p_copies [iD m, rl (ruleF f), iD 2] = some far ∧ p_power_rule [iD m, rl (ruleF f), iD (m * m)] = some pw ∧ qNe far pw = some (.bool false) ∧ p_lights [iD m, rl (ruleF f), iD m] = some l ∧ qNe l (iD (ruleF f).length) = some (.bool false) := by
  unfold ckA at h
  refine ⟨isN_eq (and_l h), ?_⟩
  obtain ⟨far, e1, h⟩ := okP_ex (and_r h)
  obtain ⟨pw, e2, h⟩ := okP_ex h
  obtain ⟨l, e3, h3⟩ := okP_ex (and_r h)
  exact ⟨far, pw, l, e1, e2, isF_eq (and_l h), e3, isF_eq h3⟩
theorem useW {m : Nat} {f : List Nat} {w : Nat} (h : ckW m f w = true) : p_ring_turnable [iD m, rl (ruleF f), iD w] = some (.bool (!((f.sum % m : Nat) == 0))) ∧ itF m w (ruleF f) w = scal w (f.sum % m) ∧ ∃ wh, p_on_ring [iD m, rl (ruleF f), iD w] = some wh ∧ loopW m (ruleF f) w wh 4 0 (tl (unit0 w)) = true := by
  unfold ckW at h
  obtain ⟨wh, e, h2⟩ := okP_ex (and_r (and_r h))
  exact ⟨isB_eq (and_l h), beq_iff_eq.mp (and_l (and_r h)), wh, e, h2⟩
theorem useO {m : Nat} {f : List Nat} {o : Nat} (h : ckO m f o = true) : p_check_linear [iD m, rl (otherR o)] = some .none ∧ ∃ b left p1 p2 right, b.length ≤ 1000 ∧ p_sum_rule [iD m, rl (ruleF f), rl (otherR o)] = some (rl b) ∧ p_check_linear [iD m, rl b] = some .none ∧
    (∀ k, k < 2 → lstepF m (wideOf m k) b (scal (wideOf m k) 1) = addF m (wideOf m k) (lstepF m (wideOf m k) (ruleF f) (scal (wideOf m k) 1)) (lstepF m (wideOf m k) (otherR o) (scal (wideOf m k) 1))) ∧
    p_product_rule [iD m, rl b, rl (ruleF f)] = some left ∧ p_product_rule [iD m, rl (ruleF f), rl (ruleF f)] = some p1 ∧ p_product_rule [iD m, rl (otherR o), rl (ruleF f)] = some p2 ∧ p_sum_rule [iD m, p1, p2] = some right ∧ qNe left right = some (.bool false) := by
  unfold ckO at h
  refine ⟨isN_eq (and_l h), ?_⟩
  obtain ⟨both, e1, h⟩ := okP_ex (and_r h)
  split at h
  · cases h
  rename_i b eb
  have eb := unrl_eq eb
  subst eb
  have hl := Nat.le_of_ble_eq_true (and_l h)
  have h := and_r h
  have hc := isN_eq (and_l h)
  have h := and_r h
  have ha := and_l h
  obtain ⟨left, e2, h⟩ := okP_ex (and_r h)
  obtain ⟨p1, e3, h⟩ := okP_ex h
  obtain ⟨p2, e4, h⟩ := okP_ex h
  obtain ⟨right, e5, h⟩ := okP_ex h
  exact ⟨b, left, p1, p2, right, hl, e1, hc, fun k hk => beq_iff_eq.mp (List.all_eq_true.mp ha k (List.mem_range.mpr hk)), e2, e3, e4, e5, isF_eq h⟩
/-! ### the four -/
def ckF (fr : List (Int × Nat)) : Bool := isN (p_check_linear [iD 4, rl fr]) && (isB true (p_is_turnable [iD 4, rl fr]) && okP (p_inverse_rule [iD 4, rl fr]) fun back => match unrl back with
  | none => false
  | some b => Nat.ble b.length 1000 && (isN (p_check_linear [iD 4, back]) && (okP (p_product_rule [iD 4, rl fr, back]) (fun pr => isF (qNe pr (rl [(0, 1)]))) && (okP (p_ring_round [iD 4, rl fr, iD 6]) (fun r1 => okP (p_ring_round [iD 4, back, iD 6]) fun r2 => isF (qNe r1 r2) && okP (qIx r1 (iD 0)) fun z => isF (qNe z (iD 0))) && lstepF 4 6 b (lstepF 4 6 fr (scal 6 1)) == scal 6 1))))
theorem kF_0 : ckF [(-2, 2), (0, 1)] = true := by decide +kernel
theorem kF_1 : ckF [(-1, 2), (0, 1)] = true := by decide +kernel
theorem kF_3 : ckF [(0, 1), (1, 2)] = true := by decide +kernel
theorem kF_4 : ckF [(0, 1), (2, 2)] = true := by decide +kernel
theorem kF_5 : ckF [(-1, 2), (1, 3)] = true := by decide +kernel
theorem kF_2 : p_is_turnable [iD 4, rl [(0, 2)]] = some (.bool false) := by kernel_rfl
theorem useF {fr : List (Int × Nat)} (h : ckF fr = true) : p_check_linear [iD 4, rl fr] = some .none ∧ p_is_turnable [iD 4, rl fr] = some (.bool true) ∧ ∃ b pr r1 r2 z, b.length ≤ 1000 ∧ p_inverse_rule [iD 4, rl fr] = some (rl b) ∧ p_check_linear [iD 4, rl b] = some .none ∧ p_product_rule [iD 4, rl fr, rl b] = some pr ∧ qNe pr (rl [(0, 1)]) = some (.bool false) ∧
    p_ring_round [iD 4, rl fr, iD 6] = some r1 ∧ p_ring_round [iD 4, rl b, iD 6] = some r2 ∧ qNe r1 r2 = some (.bool false) ∧ qIx r1 (iD 0) = some z ∧ qNe z (iD 0) = some (.bool false) ∧ lstepF 4 6 b (lstepF 4 6 fr (scal 6 1)) = scal 6 1 := by
  unfold ckF at h
  refine ⟨isN_eq (and_l h), isB_eq (and_l (and_r h)), ?_⟩
  obtain ⟨back, e1, h⟩ := okP_ex (and_r (and_r h))
  split at h
  · cases h
  rename_i b eb
  have eb := unrl_eq eb
  subst eb
  have hl := Nat.le_of_ble_eq_true (and_l h)
  have h := and_r h
  have hc := isN_eq (and_l h)
  have h := and_r h
  obtain ⟨pr, e2, hp⟩ := okP_ex (and_l h)
  have h := and_r h
  obtain ⟨r1, e3, hr⟩ := okP_ex (and_l h)
  obtain ⟨r2, e4, hr⟩ := okP_ex hr
  obtain ⟨z, e5, hz⟩ := okP_ex (and_r hr)
  exact ⟨b, pr, r1, r2, z, hl, e1, hc, e2, isF_eq hp, e3, e4, isF_eq (and_l hr), e5, isF_eq hz, beq_iff_eq.mp (and_r h)⟩
/-! ### the drawn ring -/
theorem bits_key : ∀ (n : Nat) (rs : List Nat), rs.length = n → (∀ r ∈ rs, r < 2) → ∃ v, v < 2 ^ n ∧ (rs.map fun r => 48 + r) = bw (fv n v) n
  | 0, rs, hl, _ => by
    have : rs = [] := List.eq_nil_of_length_eq_zero hl
    subst this
    exact ⟨0, by decide, rfl⟩
  | n + 1, rs, hl, h => by
    rcases List.eq_nil_or_concat rs with e | ⟨l, b, e⟩
    · rw [e] at hl; cases hl
    · rw [List.concat_eq_append] at e
      subst e
      rw [List.length_append] at hl
      obtain ⟨v, hv, e⟩ := bits_key n l (by simpa using hl) fun r hr => h r (List.mem_append_left _ hr)
      have hb := h b (List.mem_append_right _ List.mem_cons_self)
      refine ⟨2 * v + b, by rw [Nat.pow_succ]; omega, ?_⟩
      rw [List.map_append, e]
      have : b = 0 ∨ b = 1 := by omega
      rcases this with z | z
      · subst z; exact key_add n v false
      · subst z; exact key_add n v true
theorem start_key {n : Nat} (h1 : 1 ≤ n) (h2 : n ≤ 12) : ([49] ++ List.replicate (n - 1) 48 : List Nat) = bw (fv n (2 ^ (n - 1))) n := by
  match n, h1, h2 with
  | 1, _, _ => decide
  | 2, _, _ => decide
  | 3, _, _ => decide
  | 4, _, _ => decide
  | 5, _, _ => decide
  | 6, _, _ => decide
  | 7, _, _ => decide
  | 8, _, _ => decide
  | 9, _, _ => decide
  | 10, _, _ => decide
  | 11, _, _ => decide
  | 12, _, _ => decide
  | n + 13, _, h => omega
theorem zeros (k : Nat) (h : k ≤ 1000) : qMul (.str "0") (.int ((k : Nat) : Int)) = some (.str (S (List.replicate k 48))) := by
  show qMulS "0" ((k : Nat) : Int) = _
  unfold qMulS
  rw [if_pos (by
    rw [Bool.and_eq_true, Bool.and_eq_true, decide_eq_true_eq, decide_eq_true_eq, Int.toNat_natCast]
    refine ⟨⟨by omega, by omega⟩, ble24 ?_⟩
    show 1 * k ≤ _
    omega), Int.toNat_natCast]
  congr 3
  show (List.replicate k [48]).flatten = _
  induction k with
  | zero => rfl
  | succ k ih => rw [List.replicate_succ, List.flatten_cons, ih (by omega), List.replicate_succ]; rfl
end Dv

/-! KL: the statements of the law (printed by mkKL.py). -/
namespace Dv
open PySem
theorem eqOk_ints : ∀ (n : Nat) (xs : List Nat), eqOkL n (xs.map fun x => .int ((x : Nat) : Int)) = true
  | _, [] => by simp only [List.map_nil, eqOkL]
  | n, x :: xs => by simp only [List.map_cons, eqOkL, eqOk_ints n xs, eqOk, Bool.and_self]
theorem eqv_ints : ∀ xs : List Nat, PyData.eqvAll (xs.map fun x => .int ((x : Nat) : Int)) (xs.map fun x => .int ((x : Nat) : Int)) = true
  | [] => by simp only [List.map_nil, PyData.eqvAll]
  | x :: xs => by simp only [List.map_cons, PyData.eqvAll, eqv_ints xs, PyData.eqv, beq_self_eq_true, Bool.and_self]
theorem q_neT (xs : List Nat) : qNe (tl xs) (tl xs) = some (.bool false) := by
  have h1 : eqOk 8 (tl xs) = true := by unfold tl; rw [eqOk]; exact eqOk_ints 7 xs
  show (if eqOk 8 (tl xs) && eqOk 8 (tl xs) then some (PyData.bool (!PyData.eqv (tl xs) (tl xs))) else none) = _
  have h2 : PyData.eqv (tl xs) (tl xs) = true := by unfold tl; rw [PyData.eqv]; exact eqv_ints xs
  rw [h1, h2]; rfl
theorem q_neB (b : Bool) : qNe (.bool b) (.bool b) = some (.bool false) := by cases b <;> rfl
theorem q_mulN (a b : Nat) (h : b ≤ 1000000) : qMul (iD a) (iD b) = some (iD (a * b)) := by rw [q_mul (by omega)]; rfl
theorem q_addN (a b : Nat) : qAdd (iD a) (iD b) = some (iD (a + b)) := rfl
theorem q_modN {a b : Nat} (h : 1 ≤ b) : qMod (iD a) (iD b) = some (iD (a % b)) := by rw [q_mod (by omega)]; rfl
variable {T : Tp}

def Run4 (n p l : Nat) : Prop := ∀ {c0 c2 c3 c6 c7 c8 c9 c10 c11 c12 c13 c14 c15 c16 c17 c18 c19 c20 c21 c22 c23 c24 c25 c26 c27 c28 c29 c30 c31 c32 : Cell} (T : Tp), f_law_4 (c0 :: .tp :: c2 :: c3 :: .fr (iD 1) :: .fr (iD n) :: c6 :: c7 :: c8 :: c9 :: c10 :: c11 :: c12 :: c13 :: c14 :: c15 :: c16 :: c17 :: c18 :: c19 :: c20 :: c21 :: c22 :: c23 :: c24 :: c25 :: c26 :: c27 :: c28 :: c29 :: c30 :: c31 :: c32 :: []) T = some (.nx (c0 :: .tp :: c2 :: c3 :: .fr (iD p) :: .fr (iD l) :: c6 :: c7 :: c8 :: c9 :: c10 :: c11 :: c12 :: c13 :: c14 :: c15 :: c16 :: c17 :: c18 :: c19 :: c20 :: c21 :: c22 :: c23 :: c24 :: c25 :: c26 :: c27 :: c28 :: c29 :: c30 :: c31 :: c32 :: []), T)
def Run6 (t u p l : Nat) : Prop := ∀ {c0 c2 c3 c8 c9 c10 c11 c12 c13 c14 c15 c16 c17 c18 c19 c20 c21 c22 c23 c24 c25 c26 c27 c28 c29 c30 c31 c32 : Cell} (T : Tp), f_law_6 (c0 :: .tp :: c2 :: c3 :: .fr (iD p) :: .fr (iD l) :: .fr (iD t) :: .fr (iD u) :: c8 :: c9 :: c10 :: c11 :: c12 :: c13 :: c14 :: c15 :: c16 :: c17 :: c18 :: c19 :: c20 :: c21 :: c22 :: c23 :: c24 :: c25 :: c26 :: c27 :: c28 :: c29 :: c30 :: c31 :: c32 :: []) T = some (.nx (c0 :: .tp :: c2 :: c3 :: .fr (iD p) :: .fr (iD l) :: .fr (iD t) :: .fr (iD u) :: c8 :: c9 :: c10 :: c11 :: c12 :: c13 :: c14 :: c15 :: c16 :: c17 :: c18 :: c19 :: c20 :: c21 :: c22 :: c23 :: c24 :: c25 :: c26 :: c27 :: c28 :: c29 :: c30 :: c31 :: c32 :: []), T)
theorem run4_1 : Run4 1 1 1 := by unfold Run4; intros; kernel_rfl
theorem run6_1 : Run6 1 1 1 1 := by unfold Run6; intros; kernel_rfl
theorem run4_2 : Run4 2 2 1 := by unfold Run4; intros; kernel_rfl
theorem run6_2 : Run6 1 1 2 1 := by unfold Run6; intros; kernel_rfl
theorem run4_3 : Run4 3 1 3 := by unfold Run4; intros; kernel_rfl
theorem run6_3 : Run6 1 1 1 3 := by unfold Run6; intros; kernel_rfl
theorem run4_4 : Run4 4 4 1 := by unfold Run4; intros; kernel_rfl
theorem run6_4 : Run6 2 1 4 1 := by unfold Run6; intros; kernel_rfl
theorem run4_5 : Run4 5 1 5 := by unfold Run4; intros; kernel_rfl
theorem run6_5 : Run6 1 3 1 5 := by unfold Run6; intros; kernel_rfl
theorem run4_6 : Run4 6 2 3 := by unfold Run4; intros; kernel_rfl
theorem run6_6 : Run6 1 2 2 3 := by unfold Run6; intros; kernel_rfl
theorem run4_7 : Run4 7 1 7 := by unfold Run4; intros; kernel_rfl
theorem run6_7 : Run6 1 7 1 7 := by unfold Run6; intros; kernel_rfl
theorem run4_8 : Run4 8 8 1 := by unfold Run4; intros; kernel_rfl
theorem run6_8 : Run6 4 1 8 1 := by unfold Run6; intros; kernel_rfl
theorem run4_9 : Run4 9 1 9 := by unfold Run4; intros; kernel_rfl
theorem run6_9 : Run6 1 7 1 9 := by unfold Run6; intros; kernel_rfl
theorem run4_10 : Run4 10 2 5 := by unfold Run4; intros; kernel_rfl
theorem run6_10 : Run6 1 6 2 5 := by unfold Run6; intros; kernel_rfl
theorem run4_11 : Run4 11 1 11 := by unfold Run4; intros; kernel_rfl
theorem run6_11 : Run6 1 31 1 11 := by unfold Run6; intros; kernel_rfl
theorem run4_12 : Run4 12 4 3 := by unfold Run4; intros; kernel_rfl
theorem run6_12 : Run6 2 4 4 3 := by unfold Run6; intros; kernel_rfl
theorem sizes {n : Nat} (h1 : 1 ≤ n) (h2 : n ≤ 12) : ∃ t u p l, Cnt n t u p l ∧ Run4 n p l ∧ Run6 t u p l := match n, h1, h2 with
  | 1, _, _ => ⟨1, 1, 1, 1, cnt_1, run4_1, run6_1⟩
  | 2, _, _ => ⟨1, 1, 2, 1, cnt_2, run4_2, run6_2⟩
  | 3, _, _ => ⟨1, 1, 1, 3, cnt_3, run4_3, run6_3⟩
  | 4, _, _ => ⟨2, 1, 4, 1, cnt_4, run4_4, run6_4⟩
  | 5, _, _ => ⟨1, 3, 1, 5, cnt_5, run4_5, run6_5⟩
  | 6, _, _ => ⟨1, 2, 2, 3, cnt_6, run4_6, run6_6⟩
  | 7, _, _ => ⟨1, 7, 1, 7, cnt_7, run4_7, run6_7⟩
  | 8, _, _ => ⟨4, 1, 8, 1, cnt_8, run4_8, run6_8⟩
  | 9, _, _ => ⟨1, 7, 1, 9, cnt_9, run4_9, run6_9⟩
  | 10, _, _ => ⟨1, 6, 2, 5, cnt_10, run4_10, run6_10⟩
  | 11, _, _ => ⟨1, 31, 1, 11, cnt_11, run4_11, run6_11⟩
  | 12, _, _ => ⟨2, 4, 4, 3, cnt_12, run4_12, run6_12⟩
  | 0, h, _ => absurd h (by omega)
  | n + 13, _, h => absurd h (by omega)
theorem L1 {c0 c2 c3 c4 c5 c6 c7 c8 c9 c10 c11 c12 c13 c14 c15 c16 c17 c18 c19 c20 c21 c22 c23 c24 c25 c26 c27 c28 c29 c30 c31 c32 : Cell}  : f_law_1 (c0 :: .tp :: c2 :: c3 :: c4 :: c5 :: c6 :: c7 :: c8 :: c9 :: c10 :: c11 :: c12 :: c13 :: c14 :: c15 :: c16 :: c17 :: c18 :: c19 :: c20 :: c21 :: c22 :: c23 :: c24 :: c25 :: c26 :: c27 :: c28 :: c29 :: c30 :: c31 :: c32 :: []) T = some (.nx (c0 :: .tp :: .fr nearD :: c3 :: c4 :: c5 :: c6 :: c7 :: c8 :: c9 :: c10 :: c11 :: c12 :: c13 :: c14 :: c15 :: c16 :: c17 :: c18 :: c19 :: c20 :: c21 :: c22 :: c23 :: c24 :: c25 :: c26 :: c27 :: c28 :: c29 :: c30 :: c31 :: c32 :: []), T) := rfl
theorem L3 {c0 c2 c4 c5 c6 c7 c8 c9 c10 c11 c12 c13 c14 c15 c16 c17 c18 c19 c20 c21 c22 c23 c24 c25 c26 c27 c28 c29 c30 c31 c32 : Cell} {n : Nat} : f_law_3 (c0 :: .tp :: c2 :: .fr (iD n) :: c4 :: c5 :: c6 :: c7 :: c8 :: c9 :: c10 :: c11 :: c12 :: c13 :: c14 :: c15 :: c16 :: c17 :: c18 :: c19 :: c20 :: c21 :: c22 :: c23 :: c24 :: c25 :: c26 :: c27 :: c28 :: c29 :: c30 :: c31 :: c32 :: []) T = some (.nx (c0 :: .tp :: c2 :: .fr (iD n) :: .fr (iD 1) :: .fr (iD n) :: c6 :: c7 :: c8 :: c9 :: c10 :: c11 :: c12 :: c13 :: c14 :: c15 :: c16 :: c17 :: c18 :: c19 :: c20 :: c21 :: c22 :: c23 :: c24 :: c25 :: c26 :: c27 :: c28 :: c29 :: c30 :: c31 :: c32 :: []), T) := rfl
theorem L5 {c0 c4 c5 c6 c7 c8 c9 c10 c11 c12 c13 c14 c15 c16 c17 c18 c19 c20 c21 c22 c23 c24 c25 c26 c27 c28 c29 c30 c31 c32 : Cell} {n t u p l : Nat} (C : Cnt n t u p l) : f_law_5 (c0 :: .tp :: .fr nearD :: .fr (iD n) :: c4 :: c5 :: c6 :: c7 :: c8 :: c9 :: c10 :: c11 :: c12 :: c13 :: c14 :: c15 :: c16 :: c17 :: c18 :: c19 :: c20 :: c21 :: c22 :: c23 :: c24 :: c25 :: c26 :: c27 :: c28 :: c29 :: c30 :: c31 :: c32 :: []) T = some (.nx (c0 :: .tp :: .fr nearD :: .fr (iD n) :: c4 :: c5 :: .fr (iD t) :: .fr (iD u) :: c8 :: c9 :: c10 :: c11 :: c12 :: c13 :: c14 :: c15 :: c16 :: c17 :: c18 :: c19 :: c20 :: c21 :: c22 :: c23 :: c24 :: c25 :: c26 :: c27 :: c28 :: c29 :: c30 :: c31 :: c32 :: []), T) := asg_of (d := .tuple [iD t, iD u]) (T1 := T) (callP_of (ds := [.int 2, nearD, iD n]) (T1 := T) rfl rfl C.round) (gtup_of rfl rfl)
theorem L7 {c0 c3 c4 c5 c6 c7 c8 c9 c10 c11 c12 c13 c14 c15 c16 c17 c18 c19 c20 c21 c22 c23 c24 c25 c26 c27 c28 c29 c30 c31 c32 : Cell}  : f_law_7 (c0 :: .tp :: .fr nearD :: c3 :: c4 :: c5 :: c6 :: c7 :: c8 :: c9 :: c10 :: c11 :: c12 :: c13 :: c14 :: c15 :: c16 :: c17 :: c18 :: c19 :: c20 :: c21 :: c22 :: c23 :: c24 :: c25 :: c26 :: c27 :: c28 :: c29 :: c30 :: c31 :: c32 :: []) T = some (.nx (c0 :: .tp :: .fr nearD :: c3 :: c4 :: c5 :: c6 :: c7 :: .fr (iD 6) :: c9 :: c10 :: c11 :: c12 :: c13 :: c14 :: c15 :: c16 :: c17 :: c18 :: c19 :: c20 :: c21 :: c22 :: c23 :: c24 :: c25 :: c26 :: c27 :: c28 :: c29 :: c30 :: c31 :: c32 :: []), T) := for_of (ds := [.int 3, .int 5, .int 6]) (T1 := T) (by kernel_rfl) (for_cons (d := .int 3) (T2 := T) rfl (if_f (T1 := T) (bool_of (e2_of (x := iD 2) (y := iD 2) (T1 := T) (e2_of (x := .tuple [iD 1, iD 2]) (y := .int 1) (T1 := T) (callP_of (ds := [.int 2, nearD, iD 6]) (T1 := T) (by kernel_rfl) rfl cnt_6.round) rfl rfl) (e2_of (x := .int 2) (y := iD 1) (T1 := T) rfl (e2_of (x := .tuple [iD 1, iD 1]) (y := .int 1) (T1 := T) (callP_of (ds := [.int 2, nearD, iD 3]) (T1 := T) (by kernel_rfl) rfl cnt_3.round) rfl rfl) (by kernel_rfl)) (q_ne_f rfl))) rfl) (for_cons (d := .int 5) (T2 := T) rfl (if_f (T1 := T) (bool_of (e2_of (x := iD 6) (y := iD 6) (T1 := T) (e2_of (x := .tuple [iD 1, iD 6]) (y := .int 1) (T1 := T) (callP_of (ds := [.int 2, nearD, iD 10]) (T1 := T) (by kernel_rfl) rfl cnt_10.round) rfl rfl) (e2_of (x := .int 2) (y := iD 3) (T1 := T) rfl (e2_of (x := .tuple [iD 1, iD 3]) (y := .int 1) (T1 := T) (callP_of (ds := [.int 2, nearD, iD 5]) (T1 := T) (by kernel_rfl) rfl cnt_5.round) rfl rfl) (by kernel_rfl)) (q_ne_f rfl))) rfl) (for_cons (d := .int 6) (T2 := T) rfl (if_f (T1 := T) (bool_of (e2_of (x := iD 4) (y := iD 4) (T1 := T) (e2_of (x := .tuple [iD 2, iD 4]) (y := .int 1) (T1 := T) (callP_of (ds := [.int 2, nearD, iD 12]) (T1 := T) (by kernel_rfl) rfl cnt_12.round) rfl rfl) (e2_of (x := .int 2) (y := iD 2) (T1 := T) rfl (e2_of (x := .tuple [iD 1, iD 2]) (y := .int 1) (T1 := T) (callP_of (ds := [.int 2, nearD, iD 6]) (T1 := T) (by kernel_rfl) rfl cnt_6.round) rfl rfl) (by kernel_rfl)) (q_ne_f rfl))) rfl) for_nil)))
theorem L8 {c0 c2 c3 c4 c5 c6 c7 c8 c9 c10 c11 c12 c13 c14 c15 c16 c17 c18 c19 c20 c21 c22 c23 c24 c25 c26 c27 c28 c29 c30 c31 c32 : Cell}  : f_law_8 (c0 :: .tp :: c2 :: c3 :: c4 :: c5 :: c6 :: c7 :: c8 :: c9 :: c10 :: c11 :: c12 :: c13 :: c14 :: c15 :: c16 :: c17 :: c18 :: c19 :: c20 :: c21 :: c22 :: c23 :: c24 :: c25 :: c26 :: c27 :: c28 :: c29 :: c30 :: c31 :: c32 :: []) T = some (.nx (c0 :: .tp :: c2 :: c3 :: c4 :: c5 :: c6 :: c7 :: c8 :: .fr r90 :: c10 :: c11 :: c12 :: c13 :: c14 :: c15 :: c16 :: c17 :: c18 :: c19 :: c20 :: c21 :: c22 :: c23 :: c24 :: c25 :: c26 :: c27 :: c28 :: c29 :: c30 :: c31 :: c32 :: []), T) := set_of (callP_of (ds := [.int 90]) (T1 := T) rfl rfl rule90)
theorem L9 {c0 c2 c4 c5 c6 c7 c8 c9 c11 c12 c13 c14 c15 c16 c17 c18 c19 c20 c21 c22 c23 c24 c25 c26 c27 c28 c29 c30 c31 c32 : Cell} {c10 : Cell} {n : Nat} (h2 : n ≤ 12) (h0 : 0 ≤ T.idx) : ∃ v T', v < 2 ^ n ∧ 0 ≤ T'.idx ∧ f_law_9 (c0 :: .tp :: c2 :: .fr (iD n) :: c4 :: c5 :: c6 :: c7 :: c8 :: c9 :: c10 :: c11 :: c12 :: c13 :: c14 :: c15 :: c16 :: c17 :: c18 :: c19 :: c20 :: c21 :: c22 :: c23 :: c24 :: c25 :: c26 :: c27 :: c28 :: c29 :: c30 :: c31 :: c32 :: []) T = some (.nx (c0 :: .tp :: c2 :: .fr (iD n) :: c4 :: c5 :: c6 :: c7 :: c8 :: c9 :: .fr (key n v) :: c11 :: c12 :: c13 :: c14 :: c15 :: c16 :: c17 :: c18 :: c19 :: c20 :: c21 :: c22 :: c23 :: c24 :: c25 :: c26 :: c27 :: c28 :: c29 :: c30 :: c31 :: c32 :: []), T') := by
  obtain ⟨rs, T', e1, e2, e3, e4⟩ := draw_list (F := fun r => .str (S [48 + r])) (fe := eCall qStr (aCons (eCallT 1 1 p_law_take (aCons (eC (.int 2)) aNil)) aNil)) (j := 11) (m := 2) (ρ := wipeR (c0 :: .tp :: c2 :: .fr (iD n) :: c4 :: c5 :: c6 :: c7 :: c8 :: c9 :: c10 :: c11 :: c12 :: c13 :: c14 :: c15 :: c16 :: c17 :: c18 :: c19 :: c20 :: c21 :: c22 :: c23 :: c24 :: c25 :: c26 :: c27 :: c28 :: c29 :: c30 :: c31 :: c32 :: []) [11]) (fun x T h => by
    obtain ⟨r, T', a, b, c⟩ := takeE h (m := 2) (by decide) (by decide) (ρ := (wipeR (c0 :: .tp :: c2 :: .fr (iD n) :: c4 :: c5 :: c6 :: c7 :: c8 :: c9 :: c10 :: c11 :: c12 :: c13 :: c14 :: c15 :: c16 :: c17 :: c18 :: c19 :: c20 :: c21 :: c22 :: c23 :: c24 :: c25 :: c26 :: c27 :: c28 :: c29 :: c30 :: c31 :: c32 :: []) [11]).set 11 (.fr x)) (i := 1) (fa := eC (.int 2)) rfl rfl
    exact ⟨r, T', a, b, call_of (ds := [iD r]) (T1 := T') (a_one c) ((q_str (by omega) (by omega)).trans (by rw [Int.toNat_natCast]))⟩) (rngD 0 n) T h0
  rw [rngD_len] at e1
  obtain ⟨v, hv, hk⟩ := bits_key n rs e1 e2
  refine ⟨v, T', hv, e3, set_of (d := key n v) (meth_of (x := .str (S [])) (T1 := T) rfl (a_one (lc_of (ds := rngD 0 n) (T1 := T) ((r1_of (k := ((n : Nat) : Int)) rfl (ok62_nat (by omega))).trans (by rw [Int.toNat_natCast])) e4 (by rw [rngD_len]; omega))) ((q_join1 (fun r => 48 + r) rs (by omega)).trans (by rw [hk]; rfl)))⟩
theorem L10 {c0 c2 c4 c5 c6 c7 c8 c10 c11 c12 c13 c14 c15 c16 c17 c18 c19 c20 c21 c22 c23 c24 c25 c26 c27 c28 c29 c30 c31 c32 : Cell} {n t u p l : Nat} (C : Cnt n t u p l) : f_law_10 (c0 :: .tp :: c2 :: .fr (iD n) :: c4 :: c5 :: c6 :: c7 :: c8 :: .fr r90 :: c10 :: c11 :: c12 :: c13 :: c14 :: c15 :: c16 :: c17 :: c18 :: c19 :: c20 :: c21 :: c22 :: c23 :: c24 :: c25 :: c26 :: c27 :: c28 :: c29 :: c30 :: c31 :: c32 :: []) T = some (.nx (c0 :: .tp :: c2 :: .fr (iD n) :: c4 :: c5 :: c6 :: c7 :: c8 :: .fr r90 :: c10 :: c11 :: .fr (tl [t, u]) :: c13 :: c14 :: c15 :: c16 :: c17 :: c18 :: c19 :: c20 :: c21 :: c22 :: c23 :: c24 :: c25 :: c26 :: c27 :: c28 :: c29 :: c30 :: c31 :: c32 :: []), T) := by
  have h1 := C.pos; have h2 := C.top; have h3 := C.ub; have h4 := C.upos
  have R := rnd_new (a := t) C.one (by omega) (same_of C.same (by rw [two_h h1]; have := Nat.two_pow_pos (n - 1); omega))
  have k := round_key h1 (by omega) (by rw [two_h h1]; have := Nat.two_pow_pos (n - 1); omega) R (by omega)
  rw [show t + u - t = u by omega] at k
  refine set_of (d := tl [t, u]) (callP_of (ds := [r90, key n (2 ^ (n - 1))]) (T1 := T) (a_cons (T1 := T) rfl (a_one (e2_of (x := .str (S [49])) (y := .str (S (List.replicate (n - 1) 48))) (T1 := T) rfl (e2_of (x := .str "0") (y := iD (n - 1)) (T1 := T) rfl (e2_of (x := iD n) (y := .int 1) (T1 := T) rfl rfl ?_) (zeros _ (by omega))) ((q_cat ?_).trans (by rw [start_key h1 h2]; rfl))))) rfl k)
  · show some (PyData.int _) = _
    congr 2; omega
  · rw [List.length_replicate]; show 1 + _ ≤ _; omega
theorem L11 {c0 c2 c3 c4 c5 c6 c7 c8 c11 c12 c13 c14 c15 c16 c17 c18 c19 c20 c21 c22 c23 c24 c25 c26 c27 c28 c29 c30 c31 c32 : Cell} {n t u p l v : Nat} (C : Cnt n t u p l) (hv : v < 2 ^ n) : ∃ a q, a ≤ t ∧ 1 ≤ q ∧ q ∣ u ∧ f_law_11 (c0 :: .tp :: c2 :: c3 :: c4 :: c5 :: c6 :: c7 :: c8 :: .fr r90 :: .fr (key n v) :: c11 :: c12 :: c13 :: c14 :: c15 :: c16 :: c17 :: c18 :: c19 :: c20 :: c21 :: c22 :: c23 :: c24 :: c25 :: c26 :: c27 :: c28 :: c29 :: c30 :: c31 :: c32 :: []) T = some (.nx (c0 :: .tp :: c2 :: c3 :: c4 :: c5 :: c6 :: c7 :: c8 :: .fr r90 :: .fr (key n v) :: c11 :: c12 :: .fr (tl [a, q]) :: c14 :: c15 :: c16 :: c17 :: c18 :: c19 :: c20 :: c21 :: c22 :: c23 :: c24 :: c25 :: c26 :: c27 :: c28 :: c29 :: c30 :: c31 :: c32 :: []), T) := by
  have h1 := C.pos; have h2 := C.top; have h3 := C.ub; have h4 := C.upos
  obtain ⟨a, N, R, hN, ha, hd⟩ := rnd_of (x := itS n v) (f := st n) (fun _ => rfl) (same_of C.same hv) (by omega)
  have k := round_key h1 (by omega) hv R (by omega)
  have := R.lt
  exact ⟨a, N - a, ha, by omega, hd, set_of (d := tl [a, N - a]) (callP_of (ds := [r90, key n v]) (T1 := T) rfl rfl k)⟩
theorem L12 {c0 c2 c3 c4 c5 c8 c9 c10 c11 c14 c15 c16 c17 c18 c19 c20 c21 c22 c23 c24 c25 c26 c27 c28 c29 c30 c31 c32 : Cell} {t u a q : Nat} (ha : a ≤ t) (hq : 1 ≤ q) (hd : q ∣ u) : f_law_12 (c0 :: .tp :: c2 :: c3 :: c4 :: c5 :: .fr (iD t) :: .fr (iD u) :: c8 :: c9 :: c10 :: c11 :: .fr (tl [t, u]) :: .fr (tl [a, q]) :: c14 :: c15 :: c16 :: c17 :: c18 :: c19 :: c20 :: c21 :: c22 :: c23 :: c24 :: c25 :: c26 :: c27 :: c28 :: c29 :: c30 :: c31 :: c32 :: []) T = some (.nx (c0 :: .tp :: c2 :: c3 :: c4 :: c5 :: .fr (iD t) :: .fr (iD u) :: c8 :: c9 :: c10 :: c11 :: .fr (tl [t, u]) :: .fr (tl [a, q]) :: c14 :: c15 :: c16 :: c17 :: c18 :: c19 :: c20 :: c21 :: c22 :: c23 :: c24 :: c25 :: c26 :: c27 :: c28 :: c29 :: c30 :: c31 :: c32 :: []), T) := if_f (T1 := T) ((or_f (T1 := T) (bool_of (e2_of (x := tl [t, u]) (y := tl [t, u]) (T1 := T) rfl rfl (q_neT _)))).trans ((or_f (T1 := T) (bool_of (e2_of (x := iD a) (y := iD t) (T1 := T) rfl rfl (q_gt_f (by omega))))).trans (bool_of (e2_of (x := iD (u % q)) (y := .int 0) (T1 := T) (e2_of (x := iD u) (y := iD q) (T1 := T) rfl rfl (q_modN hq)) rfl (q_ne_f (by rw [Nat.mod_eq_zero_of_dvd hd]; rfl)))))) rfl
theorem lpow {n : Nat} (h : n ≤ 12) : p_law_power [.int 2, iD n] = some (iD (2 ^ n)) := by
  match n, h with
  | 0, _ => kernel_rfl
  | 1, _ => kernel_rfl
  | 2, _ => kernel_rfl
  | 3, _ => kernel_rfl
  | 4, _ => kernel_rfl
  | 5, _ => kernel_rfl
  | 6, _ => kernel_rfl
  | 7, _ => kernel_rfl
  | 8, _ => kernel_rfl
  | 9, _ => kernel_rfl
  | 10, _ => kernel_rfl
  | 11, _ => kernel_rfl
  | 12, _ => kernel_rfl
  | n + 13, h => omega
theorem L13 {c0 c2 c5 c6 c7 c8 c10 c11 c12 c13 c14 c15 c16 c17 c18 c19 c20 c21 c22 c23 c24 c25 c26 c27 c28 c29 c30 c31 c32 : Cell} {n t u p l : Nat} (C : Cnt n t u p l) : f_law_13 (c0 :: .tp :: c2 :: .fr (iD n) :: .fr (iD p) :: c5 :: c6 :: c7 :: c8 :: .fr r90 :: c10 :: c11 :: c12 :: c13 :: c14 :: c15 :: c16 :: c17 :: c18 :: c19 :: c20 :: c21 :: c22 :: c23 :: c24 :: c25 :: c26 :: c27 :: c28 :: c29 :: c30 :: c31 :: c32 :: []) T = some (.nx (c0 :: .tp :: c2 :: .fr (iD n) :: .fr (iD p) :: c5 :: c6 :: c7 :: c8 :: .fr r90 :: c10 :: c11 :: c12 :: c13 :: c14 :: c15 :: c16 :: c17 :: c18 :: c19 :: c20 :: c21 :: c22 :: c23 :: c24 :: c25 :: c26 :: c27 :: c28 :: c29 :: c30 :: c31 :: c32 :: []), T) := by
  have h1 := C.pos; have h2 := C.top
  have g := gardens_key h1 h2
  rw [C.count] at g
  have key : ∀ e : Nat, e = (if p = 1 then 1 else 2) → eIf (tBool (e2 qEq (eOwn 4) (eC (.int 1)))) (eC (.int 1)) (eC (.int 2)) (c0 :: .tp :: c2 :: .fr (iD n) :: .fr (iD p) :: c5 :: c6 :: c7 :: c8 :: .fr r90 :: c10 :: c11 :: c12 :: c13 :: c14 :: c15 :: c16 :: c17 :: c18 :: c19 :: c20 :: c21 :: c22 :: c23 :: c24 :: c25 :: c26 :: c27 :: c28 :: c29 :: c30 :: c31 :: c32 :: []) T = some (iD e, T) := fun e he => by
    by_cases z : p = 1
    · rw [if_pos z] at he; subst he
      exact eif_t (T1 := T) (bool_of (e2_of (x := iD p) (y := .int 1) (T1 := T) rfl rfl (q_eq_t (by omega))))
    · rw [if_neg z] at he; subst he
      exact eif_f (T1 := T) (bool_of (e2_of (x := iD p) (y := .int 1) (T1 := T) rfl rfl (q_eq_f (by omega))))
  by_cases hn : (if p = 1 then 1 else 2) ≤ n
  · refine if_f (T1 := T) ((or_f (T1 := T) (bool_of (e2_of (x := .int (((2 ^ n : Nat) : Int) - ((2 ^ (n - (if p = 1 then 1 else 2)) : Nat) : Int))) (y := .int (((2 ^ n : Nat) : Int) - ((2 ^ (n - (if p = 1 then 1 else 2)) : Nat) : Int))) (T1 := T) (callP_of (ds := [r90, iD n]) (T1 := T) rfl rfl g) (e2_of (x := iD (2 ^ n)) (y := iD (2 ^ (n - (if p = 1 then 1 else 2)))) (T1 := T) (callP_of (ds := [.int 2, iD n]) (T1 := T) rfl rfl (lpow h2)) (callP_of (ds := [.int 2, iD (n - (if p = 1 then 1 else 2))]) (T1 := T) (a_cons (T1 := T) rfl (a_one (e2_of (x := iD n) (y := iD (if p = 1 then 1 else 2)) (T1 := T) rfl (key _ rfl) ?_))) rfl (lpow (by omega))) rfl) (q_ne_f rfl)))).trans (tru_of (d := .bool false) (callP_of (ds := [r90, iD n]) (T1 := T) rfl rfl (back_key h1 h2 C.back)) rfl)) rfl
    show some (PyData.int _) = _
    congr 2; omega
  · exact absurd C.fits hn
end Dv

/-! KM: the law's later statements (printed by mkKL2.py). -/
namespace Dv
open PySem
variable {T : Tp}
theorem q_gtN (v : Nat) : qGt (iD v) (.int 0) = some (.bool (decide (0 < v))) := by
  by_cases h : 0 < v
  · rw [decide_eq_true h, q_gt_t (by omega)]
  · rw [decide_eq_false h, q_gt_f (by omega)]
theorem q_neN0 (v : Nat) : qNe (iD v) (.int 0) = some (.bool (!(v == 0))) := by
  by_cases h : v = 0
  · subst h; rfl
  · rw [beq_eq_false_iff_ne.mpr h, q_ne_t (by omega)]; rfl
theorem L14 {c0 c2 c3 c4 c5 c6 c7 c8 c9 c10 c11 c12 c13 c14 c15 c16 c17 c18 c19 c20 c21 c22 c23 c24 c25 c26 c27 c28 c29 c30 c31 c32 : Cell} (h0 : 0 ≤ T.idx) : ∃ r T', r < 2 ∧ 0 ≤ T'.idx ∧ f_law_14 (c0 :: .tp :: c2 :: c3 :: c4 :: c5 :: c6 :: c7 :: c8 :: c9 :: c10 :: c11 :: c12 :: c13 :: c14 :: c15 :: c16 :: c17 :: c18 :: c19 :: c20 :: c21 :: c22 :: c23 :: c24 :: c25 :: c26 :: c27 :: c28 :: c29 :: c30 :: c31 :: c32 :: []) T = some (.nx (c0 :: .tp :: c2 :: c3 :: c4 :: c5 :: c6 :: c7 :: c8 :: c9 :: c10 :: c11 :: c12 :: c13 :: .fr (iD (2 + r)) :: c15 :: c16 :: c17 :: c18 :: c19 :: c20 :: c21 :: c22 :: c23 :: c24 :: c25 :: c26 :: c27 :: c28 :: c29 :: c30 :: c31 :: c32 :: []), T') := by
  obtain ⟨r, T', h1, h2, e⟩ := takeE h0 (m := 2) (by decide) (by decide) (ρ := (c0 :: .tp :: c2 :: c3 :: c4 :: c5 :: c6 :: c7 :: c8 :: c9 :: c10 :: c11 :: c12 :: c13 :: c14 :: c15 :: c16 :: c17 :: c18 :: c19 :: c20 :: c21 :: c22 :: c23 :: c24 :: c25 :: c26 :: c27 :: c28 :: c29 :: c30 :: c31 :: c32 :: [])) (i := 1) (fa := eC (.int 2)) rfl rfl
  exact ⟨r, T', h1, h2, set_of (e2_of (x := .int 2) (y := iD r) (T1 := T) rfl e (q_addN 2 r))⟩
theorem L15 {c0 c2 c3 c4 c5 c6 c7 c8 c9 c10 c11 c12 c13 c15 c16 c17 c18 c19 c20 c21 c22 c23 c24 c25 c26 c27 c28 c29 c30 c31 c32 : Cell} {m : Nat} (hm : 1 ≤ m) (hm2 : m ≤ 3) (h0 : 0 ≤ T.idx) : ∃ a b c T', a < m ∧ b < m ∧ c < m ∧ 0 ≤ T'.idx ∧ f_law_15 (c0 :: .tp :: c2 :: c3 :: c4 :: c5 :: c6 :: c7 :: c8 :: c9 :: c10 :: c11 :: c12 :: c13 :: .fr (iD m) :: c15 :: c16 :: c17 :: c18 :: c19 :: c20 :: c21 :: c22 :: c23 :: c24 :: c25 :: c26 :: c27 :: c28 :: c29 :: c30 :: c31 :: c32 :: []) T = some (.nx (c0 :: .tp :: c2 :: c3 :: c4 :: c5 :: c6 :: c7 :: c8 :: c9 :: c10 :: c11 :: c12 :: c13 :: .fr (iD m) :: .ow (.list [iD a, iD b, iD c]) :: c16 :: c17 :: c18 :: c19 :: c20 :: c21 :: c22 :: c23 :: c24 :: c25 :: c26 :: c27 :: c28 :: c29 :: c30 :: c31 :: c32 :: []), T') := by
  obtain ⟨rs, T', e1, e2, e3, e4⟩ := draw_list (F := iD) (fe := eCallT 1 1 p_law_take (aCons (eVar 14) aNil)) (j := 11) (m := m) (ρ := wipeR (c0 :: .tp :: c2 :: c3 :: c4 :: c5 :: c6 :: c7 :: c8 :: c9 :: c10 :: c11 :: c12 :: c13 :: .fr (iD m) :: c15 :: c16 :: c17 :: c18 :: c19 :: c20 :: c21 :: c22 :: c23 :: c24 :: c25 :: c26 :: c27 :: c28 :: c29 :: c30 :: c31 :: c32 :: []) [11]) (fun x T h => takeE h hm (by omega) (ρ := (wipeR (c0 :: .tp :: c2 :: c3 :: c4 :: c5 :: c6 :: c7 :: c8 :: c9 :: c10 :: c11 :: c12 :: c13 :: .fr (iD m) :: c15 :: c16 :: c17 :: c18 :: c19 :: c20 :: c21 :: c22 :: c23 :: c24 :: c25 :: c26 :: c27 :: c28 :: c29 :: c30 :: c31 :: c32 :: []) [11]).set 11 (.fr x)) (i := 1) (fa := eVar 14) rfl rfl) (rngD 0 3) T h0
  match rs, e1, e2, e4 with
  | [a, b, c], _, e2, e4 => exact ⟨a, b, c, T', e2 a (by simp), e2 b (by simp), e2 c (by simp), e3, new_of (d := .list [iD a, iD b, iD c]) (lc_of (ds := rngD 0 3) (T1 := T) (r1_of (k := 3) rfl rfl) e4 (by decide))⟩
theorem L16 {c0 c2 c3 c4 c5 c6 c7 c8 c9 c10 c11 c12 c13 c14 c16 c17 c18 c19 c20 c21 c22 c23 c24 c25 c26 c27 c28 c29 c30 c31 c32 : Cell} {a b c : Nat} : f_law_16 (c0 :: .tp :: c2 :: c3 :: c4 :: c5 :: c6 :: c7 :: c8 :: c9 :: c10 :: c11 :: c12 :: c13 :: c14 :: .ow (.list [iD a, iD b, iD c]) :: c16 :: c17 :: c18 :: c19 :: c20 :: c21 :: c22 :: c23 :: c24 :: c25 :: c26 :: c27 :: c28 :: c29 :: c30 :: c31 :: c32 :: []) T = some (.nx (c0 :: .tp :: c2 :: c3 :: c4 :: c5 :: c6 :: c7 :: c8 :: c9 :: c10 :: c11 :: c12 :: c13 :: c14 :: .ow (.list [iD a, iD b, iD c]) :: .fr (rl (ruleF [a, b, c])) :: c17 :: c18 :: c19 :: c20 :: c21 :: c22 :: c23 :: c24 :: c25 :: c26 :: c27 :: c28 :: c29 :: c30 :: c31 :: c32 :: []), T) := by
  have at3 : ∀ k, k < 3 → qIx (.list [iD a, iD b, iD c]) (iD k) = some (iD ([a, b, c].getD k 0)) := fun k hk => by
    match k, hk with
    | 0, _ => rfl
    | 1, _ => rfl
    | 2, _ => rfl
    | k + 3, h => omega
  refine set_of (d := rl (ruleF [a, b, c])) (call_of (ds := [.list (((List.range 3).filter fun k => decide (0 < [a, b, c].getD k 0)).map fun k => plD (((k : Nat) : Int) - 1, [a, b, c].getD k 0))]) (T1 := T) (a_one (lc_of (ds := (List.range 3).map fun k => iD k) (T1 := T) (r1_of (k := 3) rfl rfl) (lcL_filter fun k hk => ⟨_, rfl, bool_of (e2_of (x := iD ([a, b, c].getD k 0)) (y := .int 0) (T1 := T) (e2_of (x := .list [iD a, iD b, iD c]) (y := iD k) (T1 := T) rfl rfl (at3 k (List.mem_range.mp hk))) rfl (q_gtN _)), tup_of (ds := [.int (((k : Nat) : Int) - 1), iD ([a, b, c].getD k 0)]) (T1 := T) (a_cons (T1 := T) (e2_of (x := iD k) (y := .int 1) (T1 := T) rfl rfl rfl) (a_one (e2_of (x := .list [iD a, iD b, iD c]) (y := iD k) (T1 := T) rfl rfl (at3 k (List.mem_range.mp hk))))) rfl⟩) (by decide))) ?_)
  show some (PyData.tuple _) = some (.tuple _)
  unfold ruleF
  rw [List.map_map]; rfl
theorem L17 {c0 c2 c3 c4 c5 c6 c7 c8 c9 c10 c11 c12 c13 c16 c17 c18 c19 c20 c21 c22 c23 c24 c25 c26 c27 c28 c29 c30 c31 c32 : Cell} {m a b c : Nat} (hm : 1 ≤ m) : f_law_17 (c0 :: .tp :: c2 :: c3 :: c4 :: c5 :: c6 :: c7 :: c8 :: c9 :: c10 :: c11 :: c12 :: c13 :: .fr (iD m) :: .ow (.list [iD a, iD b, iD c]) :: c16 :: c17 :: c18 :: c19 :: c20 :: c21 :: c22 :: c23 :: c24 :: c25 :: c26 :: c27 :: c28 :: c29 :: c30 :: c31 :: c32 :: []) T = some (.nx (c0 :: .tp :: c2 :: c3 :: c4 :: c5 :: c6 :: c7 :: c8 :: c9 :: c10 :: c11 :: c12 :: c13 :: .fr (iD m) :: .ow (.list [iD a, iD b, iD c]) :: c16 :: .fr (iD ([a, b, c].sum % m)) :: c18 :: c19 :: c20 :: c21 :: c22 :: c23 :: c24 :: c25 :: c26 :: c27 :: c28 :: c29 :: c30 :: c31 :: c32 :: []), T) := set_of (e2_of (x := iD [a, b, c].sum) (y := iD m) (T1 := T) (call_of (ds := [iD [a, b, c].sum]) (T1 := T) (a_one (call_of (ds := [.list ([a, b, c].map fun x => .int ((x : Nat) : Int))]) (T1 := T) rfl ((q_sumN (fun x => x) [a, b, c]).trans (by rw [List.map_id']))) ) rfl) rfl (q_modN hm))
theorem L18 {c0 c2 c3 c4 c5 c6 c7 c8 c9 c10 c11 c12 c13 c15 c16 c17 c18 c19 c20 c21 c22 c23 c24 c25 c26 c27 c28 c29 c30 c31 c32 : Cell} {r : Nat} (hr : r < 2) (h0 : 0 ≤ T.idx) : ∃ k T', k < 2 ∧ 0 ≤ T'.idx ∧ f_law_18 (c0 :: .tp :: c2 :: c3 :: c4 :: c5 :: c6 :: c7 :: c8 :: c9 :: c10 :: c11 :: c12 :: c13 :: .fr (iD (2 + r)) :: c15 :: c16 :: c17 :: c18 :: c19 :: c20 :: c21 :: c22 :: c23 :: c24 :: c25 :: c26 :: c27 :: c28 :: c29 :: c30 :: c31 :: c32 :: []) T = some (.nx (c0 :: .tp :: c2 :: c3 :: c4 :: c5 :: c6 :: c7 :: c8 :: c9 :: c10 :: c11 :: c12 :: c13 :: .fr (iD (2 + r)) :: c15 :: c16 :: c17 :: .fr (iD (wideOf (2 + r) k)) :: c19 :: c20 :: c21 :: c22 :: c23 :: c24 :: c25 :: c26 :: c27 :: c28 :: c29 :: c30 :: c31 :: c32 :: []), T') := by
  obtain ⟨k, T', h1, h2, e⟩ := takeE h0 (m := 2) (by decide) (by decide) (ρ := (c0 :: .tp :: c2 :: c3 :: c4 :: c5 :: c6 :: c7 :: c8 :: c9 :: c10 :: c11 :: c12 :: c13 :: .fr (iD (2 + r)) :: c15 :: c16 :: c17 :: c18 :: c19 :: c20 :: c21 :: c22 :: c23 :: c24 :: c25 :: c26 :: c27 :: c28 :: c29 :: c30 :: c31 :: c32 :: [])) (i := 1) (fa := eC (.int 2)) rfl rfl
  refine ⟨k, T', h1, h2, ?_⟩
  have r2 : r = 0 ∨ r = 1 := by omega
  have k2 : k = 0 ∨ k = 1 := by omega
  rcases r2 with z | z <;> rcases k2 with y | y <;> subst z <;> subst y
  · exact set_of (e2_of (x := .tuple [.int 4, .int 8, .int 3, .int 9]) (y := .int 0) (T1 := T) rfl (e2_of (x := .int 0) (y := iD 0) (T1 := T) (by kernel_rfl) e rfl) rfl)
  · exact set_of (e2_of (x := .tuple [.int 4, .int 8, .int 3, .int 9]) (y := .int 1) (T1 := T) rfl (e2_of (x := .int 0) (y := iD 1) (T1 := T) (by kernel_rfl) e rfl) rfl)
  · exact set_of (e2_of (x := .tuple [.int 4, .int 8, .int 3, .int 9]) (y := .int 2) (T1 := T) rfl (e2_of (x := .int 2) (y := iD 0) (T1 := T) (by kernel_rfl) e rfl) rfl)
  · exact set_of (e2_of (x := .tuple [.int 4, .int 8, .int 3, .int 9]) (y := .int 3) (T1 := T) rfl (e2_of (x := .int 2) (y := iD 1) (T1 := T) (by kernel_rfl) e rfl) rfl)
theorem L19 {c0 c2 c3 c4 c5 c6 c7 c8 c9 c10 c11 c12 c13 c15 c16 c17 c19 c20 c21 c22 c23 c24 c25 c26 c27 c28 c29 c30 c31 c32 : Cell} {m w : Nat} (hm : 1 ≤ m) (hm2 : m ≤ 3) (hw : w ≤ 9) (h0 : 0 ≤ T.idx) : ∃ xs T', xs.length = w ∧ (∀ x ∈ xs, x < m) ∧ 0 ≤ T'.idx ∧ f_law_19 (c0 :: .tp :: c2 :: c3 :: c4 :: c5 :: c6 :: c7 :: c8 :: c9 :: c10 :: c11 :: c12 :: c13 :: .fr (iD m) :: c15 :: c16 :: c17 :: .fr (iD w) :: c19 :: c20 :: c21 :: c22 :: c23 :: c24 :: c25 :: c26 :: c27 :: c28 :: c29 :: c30 :: c31 :: c32 :: []) T = some (.nx (c0 :: .tp :: c2 :: c3 :: c4 :: c5 :: c6 :: c7 :: c8 :: c9 :: c10 :: c11 :: c12 :: c13 :: .fr (iD m) :: c15 :: c16 :: c17 :: .fr (iD w) :: .fr (tl xs) :: c20 :: c21 :: c22 :: c23 :: c24 :: c25 :: c26 :: c27 :: c28 :: c29 :: c30 :: c31 :: c32 :: []), T') := by
  obtain ⟨rs, T', e1, e2, e3, e4⟩ := draw_list (F := iD) (fe := eCallT 1 1 p_law_take (aCons (eVar 14) aNil)) (j := 11) (m := m) (ρ := wipeR (c0 :: .tp :: c2 :: c3 :: c4 :: c5 :: c6 :: c7 :: c8 :: c9 :: c10 :: c11 :: c12 :: c13 :: .fr (iD m) :: c15 :: c16 :: c17 :: .fr (iD w) :: c19 :: c20 :: c21 :: c22 :: c23 :: c24 :: c25 :: c26 :: c27 :: c28 :: c29 :: c30 :: c31 :: c32 :: []) [11]) (fun x T h => takeE h hm (by omega) (ρ := (wipeR (c0 :: .tp :: c2 :: c3 :: c4 :: c5 :: c6 :: c7 :: c8 :: c9 :: c10 :: c11 :: c12 :: c13 :: .fr (iD m) :: c15 :: c16 :: c17 :: .fr (iD w) :: c19 :: c20 :: c21 :: c22 :: c23 :: c24 :: c25 :: c26 :: c27 :: c28 :: c29 :: c30 :: c31 :: c32 :: []) [11]).set 11 (.fr x)) (i := 1) (fa := eVar 14) rfl rfl) (rngD 0 w) T h0
  rw [rngD_len] at e1
  exact ⟨rs, T', e1, e2, e3, set_of (d := tl rs) (call_of (ds := [.list (rs.map iD)]) (T1 := T') (a_one (lc_of (ds := rngD 0 w) (T1 := T) ((r1_of (k := ((w : Nat) : Int)) rfl (ok62_nat (by omega))).trans (by rw [Int.toNat_natCast])) e4 (by rw [rngD_len]; omega))) rfl)⟩
theorem L20 {c0 c2 c3 c4 c5 c6 c7 c8 c9 c10 c11 c12 c13 c15 c17 c20 c21 c22 c23 c24 c25 c26 c27 c28 c29 c30 c31 c32 : Cell} {m w : Nat} {r : List (Int × Nat)} {xs : List Nat} (hm : 1 ≤ m) (hm2 : m ≤ 3) (hc : p_check_linear [iD m, rl r] = some .none) (hl : xs.length = w) (h1 : 1 ≤ w) (h2 : w ≤ 9) (hx : ∀ x ∈ xs, x < m) (hr : r.length ≤ 1000) : f_law_20 (c0 :: .tp :: c2 :: c3 :: c4 :: c5 :: c6 :: c7 :: c8 :: c9 :: c10 :: c11 :: c12 :: c13 :: .fr (iD m) :: c15 :: .fr (rl r) :: c17 :: .fr (iD w) :: .fr (tl xs) :: c20 :: c21 :: c22 :: c23 :: c24 :: c25 :: c26 :: c27 :: c28 :: c29 :: c30 :: c31 :: c32 :: []) T = some (.nx (c0 :: .tp :: c2 :: c3 :: c4 :: c5 :: c6 :: c7 :: c8 :: c9 :: c10 :: c11 :: c12 :: c13 :: .fr (iD m) :: c15 :: .fr (rl r) :: c17 :: .fr (iD w) :: .fr (tl xs) :: .fr (tl (itL m r xs w)) :: c21 :: c22 :: c23 :: c24 :: c25 :: c26 :: c27 :: c28 :: c29 :: c30 :: c31 :: c32 :: []), T) := set_of (callP_of (ds := [iD m, rl r, tl xs, iD w]) (T1 := T) rfl rfl (lsteps_key hm (by omega) hc (by omega) (by omega) hx hr (by omega)))
theorem L21 {c0 c2 c3 c4 c5 c6 c7 c8 c9 c10 c11 c12 c13 c15 c21 c22 c23 c24 c25 c26 c27 c28 c29 c30 c31 c32 : Cell} {m w : Nat} {r : List (Int × Nat)} {xs : List Nat} {c : Nat} (hm : 1 ≤ m) (hm2 : m ≤ 3) (hl : xs.length = w) (h1 : 1 ≤ w) (h2 : w ≤ 9) (hx : ∀ x ∈ xs, x < m) (hr : r.length ≤ 1000) (ht : p_ring_turnable [iD m, rl r, iD w] = some (.bool (!(c == 0)))) (hf : itF m w r w = scal w c) (hcm : c ≤ 100) : f_law_21 (c0 :: .tp :: c2 :: c3 :: c4 :: c5 :: c6 :: c7 :: c8 :: c9 :: c10 :: c11 :: c12 :: c13 :: .fr (iD m) :: c15 :: .fr (rl r) :: .fr (iD c) :: .fr (iD w) :: .fr (tl xs) :: .fr (tl (itL m r xs w)) :: c21 :: c22 :: c23 :: c24 :: c25 :: c26 :: c27 :: c28 :: c29 :: c30 :: c31 :: c32 :: []) T = some (.nx (c0 :: .tp :: c2 :: c3 :: c4 :: c5 :: c6 :: c7 :: c8 :: c9 :: c10 :: c11 :: c12 :: c13 :: .fr (iD m) :: c15 :: .fr (rl r) :: .fr (iD c) :: .fr (iD w) :: .fr (tl xs) :: .fr (tl (itL m r xs w)) :: c21 :: c22 :: c23 :: c24 :: c25 :: c26 :: c27 :: c28 :: c29 :: c30 :: c31 :: c32 :: []), T) := by
  have e : itL m r xs w = xs.map fun x => c * x % m := by
    rw [it_evs (by omega) r hx w, hl, hf, evs_scal hl]
  refine if_f (T1 := T) ((or_f (T1 := T) (bool_of (e2_of (x := tl (itL m r xs w)) (y := tl (itL m r xs w)) (T1 := T) rfl (call_of (ds := [.list (xs.map fun x => iD (c * x % m))]) (T1 := T) (a_one (lc_of (ds := xs.map iD) (T1 := T) (seq_i (d := tl xs) rfl rfl) (lcL_map fun x hx' => ⟨_, rfl, rfl, e2_of (x := iD (c * x)) (y := iD m) (T1 := T) (call_of (ds := [iD (c * x)]) (T1 := T) (a_one (e2_of (x := iD c) (y := iD x) (T1 := T) rfl rfl (q_mulN _ _ (by have := hx x hx'; omega)))) rfl) rfl (q_modN hm)⟩) (by rw [List.length_map]; omega))) ?_) (q_neT _)))).trans (bool_of (e2_of (x := .bool (!(c == 0))) (y := .bool (!(c == 0))) (T1 := T) (callP_of (ds := [iD m, rl r, iD w]) (T1 := T) rfl rfl ht) (e2_of (x := iD c) (y := .int 0) (T1 := T) rfl rfl (q_neN0 c)) (q_neB _)))) rfl
  show some (PyData.tuple _) = some (.tuple _)
  rw [e, List.map_map]; rfl
theorem L22 {c0 c2 c3 c4 c5 c6 c7 c8 c9 c10 c11 c12 c13 c15 c17 c19 c20 c21 c22 c23 c24 c25 c26 c27 c28 c29 c30 c31 c32 : Cell} {m w : Nat} {r : List (Int × Nat)} {wh : D} (h : p_on_ring [iD m, rl r, iD w] = some wh) : f_law_22 (c0 :: .tp :: c2 :: c3 :: c4 :: c5 :: c6 :: c7 :: c8 :: c9 :: c10 :: c11 :: c12 :: c13 :: .fr (iD m) :: c15 :: .fr (rl r) :: c17 :: .fr (iD w) :: c19 :: c20 :: c21 :: c22 :: c23 :: c24 :: c25 :: c26 :: c27 :: c28 :: c29 :: c30 :: c31 :: c32 :: []) T = some (.nx (c0 :: .tp :: c2 :: c3 :: c4 :: c5 :: c6 :: c7 :: c8 :: c9 :: c10 :: c11 :: c12 :: c13 :: .fr (iD m) :: c15 :: .fr (rl r) :: c17 :: .fr (iD w) :: c19 :: c20 :: c21 :: .fr wh :: c23 :: c24 :: c25 :: c26 :: c27 :: c28 :: c29 :: c30 :: c31 :: c32 :: []), T) := set_of (callP_of (ds := [iD m, rl r, iD w]) (T1 := T) rfl rfl h)
theorem L23 {c0 c2 c3 c4 c5 c6 c7 c8 c9 c10 c11 c12 c13 c14 c15 c16 c17 c19 c20 c21 c22 c23 c24 c25 c26 c27 c28 c29 c30 c31 c32 : Cell} {w : Nat} (hw : w ≤ 9) : f_law_23 (c0 :: .tp :: c2 :: c3 :: c4 :: c5 :: c6 :: c7 :: c8 :: c9 :: c10 :: c11 :: c12 :: c13 :: c14 :: c15 :: c16 :: c17 :: .fr (iD w) :: c19 :: c20 :: c21 :: c22 :: c23 :: c24 :: c25 :: c26 :: c27 :: c28 :: c29 :: c30 :: c31 :: c32 :: []) T = some (.nx (c0 :: .tp :: c2 :: c3 :: c4 :: c5 :: c6 :: c7 :: c8 :: c9 :: c10 :: c11 :: c12 :: c13 :: c14 :: c15 :: c16 :: c17 :: .fr (iD w) :: c19 :: c20 :: c21 :: c22 :: .fr (tl (unit0 w)) :: c24 :: c25 :: c26 :: c27 :: c28 :: c29 :: c30 :: c31 :: c32 :: []), T) := by
  refine set_of (d := tl (unit0 w)) (call_of (ds := [.list ((List.range w).map fun k => iD (if k = 0 then 1 else 0))]) (T1 := T) (a_one (lc_of (ds := (List.range w).map fun k => iD k) (T1 := T) ((r1_of (k := ((w : Nat) : Int)) rfl (ok62_nat (by omega))).trans (by rw [Int.toNat_natCast, rngD0])) (lcL_map fun k _ => ⟨_, rfl, rfl, ?_⟩) (by rw [List.length_map, List.length_range]; omega))) ?_)
  · by_cases z : k = 0
    · subst z; rfl
    · refine call_of (ds := [.bool false]) (T1 := T) (a_one (e2_of (x := iD k) (y := .int 0) (T1 := T) rfl rfl (q_eq_f (by omega)))) ?_
      rw [if_neg z]; rfl
  · show some (PyData.tuple _) = some (.tuple _)
    unfold unit0
    rw [List.map_map]; rfl
theorem loop24 {c0 c2 c3 c4 c5 c6 c7 c8 c9 c10 c12 c13 c15 c17 c19 c20 c21 c24 c25 c26 c27 c28 c29 c30 c31 c32 : Cell} {m w : Nat} {r : List (Int × Nat)} {wh : D} : ∀ (j k : Nat) (now : D) (c11 : Cell), loopW m r w wh j k now = true → ∃ c11' c23', forL (gSet 11) (sSeq (sIf (tBool (e2 qNe (eOwn 23) (eCall (argc 3 p_on_ring) (aCons (eVar 14) (aCons (eCall (argc 3 p_power_rule) (aCons (eVar 14) (aCons (eVar 16) (aCons (eVar 11) aNil)))) (aCons (eVar 18) aNil)))))) (sRet (eC (.bool false))) sSkip) (sSet 23 (eCall (argc 3 p_ring_product) (aCons (eVar 14) (aCons (eVar 23) (aCons (eVar 22) aNil)))))) (rngD ((k : Nat) : Int) j) (c0 :: .tp :: c2 :: c3 :: c4 :: c5 :: c6 :: c7 :: c8 :: c9 :: c10 :: c11 :: c12 :: c13 :: .fr (iD m) :: c15 :: .fr (rl r) :: c17 :: .fr (iD w) :: c19 :: c20 :: c21 :: .fr wh :: .fr now :: c24 :: c25 :: c26 :: c27 :: c28 :: c29 :: c30 :: c31 :: c32 :: []) T = some (.nx (c0 :: .tp :: c2 :: c3 :: c4 :: c5 :: c6 :: c7 :: c8 :: c9 :: c10 :: c11' :: c12 :: c13 :: .fr (iD m) :: c15 :: .fr (rl r) :: c17 :: .fr (iD w) :: c19 :: c20 :: c21 :: .fr wh :: c23' :: c24 :: c25 :: c26 :: c27 :: c28 :: c29 :: c30 :: c31 :: c32 :: []), T)
  | 0, k, now, c11, _ => ⟨c11, .fr now, rfl⟩
  | j + 1, k, now, c11, h => by
    unfold loopW at h
    obtain ⟨pk, e1, h⟩ := okP_ex h
    obtain ⟨ok, e2, h⟩ := okP_ex h
    obtain ⟨nw, e3, h3⟩ := okP_ex (and_r h)
    have e4 := isF_eq (and_l h)
    obtain ⟨x, y, hh⟩ := loop24 j (k + 1) nw (.fr (iD k)) h3
    refine ⟨x, y, for_cons (d := iD k) (T2 := T) rfl (seq_nx (T1 := T) (if_f (T1 := T) (bool_of (e2_of (x := now) (y := ok) (T1 := T) rfl (callP_of (ds := [iD m, pk, iD w]) (T1 := T) (a_cons (T1 := T) rfl (a_cons (T1 := T) (callP_of (ds := [iD m, rl r, iD k]) (T1 := T) rfl rfl e1) rfl)) rfl e2) e4)) rfl) (set_of (d := nw) (callP_of (ds := [iD m, now, wh]) (T1 := T) rfl rfl e3))) ?_⟩
    have ek : ((k : Nat) : Int) + 1 = ((k + 1 : Nat) : Int) := by omega
    rw [ek]
    exact hh
theorem L24 {c0 c2 c3 c4 c5 c6 c7 c8 c9 c10 c11 c12 c13 c15 c17 c19 c20 c21 c24 c25 c26 c27 c28 c29 c30 c31 c32 : Cell} {m w : Nat} {r : List (Int × Nat)} {wh : D} (h : loopW m r w wh 4 0 (tl (unit0 w)) = true) : ∃ c11' c23', f_law_24 (c0 :: .tp :: c2 :: c3 :: c4 :: c5 :: c6 :: c7 :: c8 :: c9 :: c10 :: c11 :: c12 :: c13 :: .fr (iD m) :: c15 :: .fr (rl r) :: c17 :: .fr (iD w) :: c19 :: c20 :: c21 :: .fr wh :: .fr (tl (unit0 w)) :: c24 :: c25 :: c26 :: c27 :: c28 :: c29 :: c30 :: c31 :: c32 :: []) T = some (.nx (c0 :: .tp :: c2 :: c3 :: c4 :: c5 :: c6 :: c7 :: c8 :: c9 :: c10 :: c11' :: c12 :: c13 :: .fr (iD m) :: c15 :: .fr (rl r) :: c17 :: .fr (iD w) :: c19 :: c20 :: c21 :: .fr wh :: c23' :: c24 :: c25 :: c26 :: c27 :: c28 :: c29 :: c30 :: c31 :: c32 :: []), T) := by
  obtain ⟨x, y, hh⟩ := loop24 (T := T) 4 0 (tl (unit0 w)) c11 h
  exact ⟨x, y, for_of (ds := rngD 0 4) (T1 := T) rfl hh⟩
theorem L25 {c0 c2 c3 c4 c5 c6 c7 c8 c9 c10 c11 c12 c13 c15 c17 c18 c19 c20 c21 c22 c23 c24 c25 c26 c27 c28 c29 c30 c31 c32 : Cell} {m : Nat} {r : List (Int × Nat)} {far : D} (h : p_copies [iD m, rl r, iD 2] = some far) : f_law_25 (c0 :: .tp :: c2 :: c3 :: c4 :: c5 :: c6 :: c7 :: c8 :: c9 :: c10 :: c11 :: c12 :: c13 :: .fr (iD m) :: c15 :: .fr (rl r) :: c17 :: c18 :: c19 :: c20 :: c21 :: c22 :: c23 :: c24 :: c25 :: c26 :: c27 :: c28 :: c29 :: c30 :: c31 :: c32 :: []) T = some (.nx (c0 :: .tp :: c2 :: c3 :: c4 :: c5 :: c6 :: c7 :: c8 :: c9 :: c10 :: c11 :: c12 :: c13 :: .fr (iD m) :: c15 :: .fr (rl r) :: c17 :: c18 :: c19 :: c20 :: c21 :: c22 :: c23 :: .fr far :: c25 :: c26 :: c27 :: c28 :: c29 :: c30 :: c31 :: c32 :: []), T) := set_of (callP_of (ds := [iD m, rl r, iD 2]) (T1 := T) rfl rfl h)
theorem L26 {c0 c2 c3 c4 c5 c6 c7 c8 c9 c10 c11 c12 c13 c15 c17 c18 c19 c20 c21 c22 c23 c25 c26 c27 c28 c29 c30 c31 c32 : Cell} {m : Nat} {r : List (Int × Nat)} {far pw l : D} (hm : m ≤ 3) (h : p_power_rule [iD m, rl r, iD (m * m)] = some pw) (h2 : qNe far pw = some (.bool false)) (h3 : p_lights [iD m, rl r, iD m] = some l) (h4 : qNe l (iD r.length) = some (.bool false)) : f_law_26 (c0 :: .tp :: c2 :: c3 :: c4 :: c5 :: c6 :: c7 :: c8 :: c9 :: c10 :: c11 :: c12 :: c13 :: .fr (iD m) :: c15 :: .fr (rl r) :: c17 :: c18 :: c19 :: c20 :: c21 :: c22 :: c23 :: .fr far :: c25 :: c26 :: c27 :: c28 :: c29 :: c30 :: c31 :: c32 :: []) T = some (.nx (c0 :: .tp :: c2 :: c3 :: c4 :: c5 :: c6 :: c7 :: c8 :: c9 :: c10 :: c11 :: c12 :: c13 :: .fr (iD m) :: c15 :: .fr (rl r) :: c17 :: c18 :: c19 :: c20 :: c21 :: c22 :: c23 :: .fr far :: c25 :: c26 :: c27 :: c28 :: c29 :: c30 :: c31 :: c32 :: []), T) := if_f (T1 := T) ((or_f (T1 := T) (bool_of (e2_of (x := far) (y := pw) (T1 := T) rfl (callP_of (ds := [iD m, rl r, iD (m * m)]) (T1 := T) (a_cons (T1 := T) rfl (a_cons (T1 := T) rfl (a_one (e2_of (x := iD m) (y := iD m) (T1 := T) rfl rfl (q_mulN _ _ (by omega)))))) rfl h) h2))).trans (bool_of (e2_of (x := l) (y := iD r.length) (T1 := T) (callP_of (ds := [iD m, rl r, iD m]) (T1 := T) rfl rfl h3) (call_of (ds := [rl r]) (T1 := T) rfl (by show some (PyData.int ((r.map plD).length : Nat)) = _; rw [List.length_map])) h4))) rfl
theorem L27 {c0 c2 c3 c4 c5 c6 c7 c8 c9 c10 c11 c12 c13 c14 c15 c16 c17 c18 c19 c20 c21 c22 c23 c24 c25 c26 c27 c28 c29 c30 c31 c32 : Cell} (h0 : 0 ≤ T.idx) : ∃ o T', o < 3 ∧ 0 ≤ T'.idx ∧ f_law_27 (c0 :: .tp :: c2 :: c3 :: c4 :: c5 :: c6 :: c7 :: c8 :: c9 :: c10 :: c11 :: c12 :: c13 :: c14 :: c15 :: c16 :: c17 :: c18 :: c19 :: c20 :: c21 :: c22 :: c23 :: c24 :: c25 :: c26 :: c27 :: c28 :: c29 :: c30 :: c31 :: c32 :: []) T = some (.nx (c0 :: .tp :: c2 :: c3 :: c4 :: c5 :: c6 :: c7 :: c8 :: c9 :: c10 :: c11 :: c12 :: c13 :: c14 :: c15 :: c16 :: c17 :: c18 :: c19 :: c20 :: c21 :: c22 :: c23 :: c24 :: .fr (rl (otherR (1 + o))) :: c26 :: c27 :: c28 :: c29 :: c30 :: c31 :: c32 :: []), T') := by
  obtain ⟨o, T', h1, h2, e⟩ := takeE h0 (m := 3) (by decide) (by decide) (ρ := (c0 :: .tp :: c2 :: c3 :: c4 :: c5 :: c6 :: c7 :: c8 :: c9 :: c10 :: c11 :: c12 :: c13 :: c14 :: c15 :: c16 :: c17 :: c18 :: c19 :: c20 :: c21 :: c22 :: c23 :: c24 :: c25 :: c26 :: c27 :: c28 :: c29 :: c30 :: c31 :: c32 :: [])) (i := 1) (fa := eC (.int 3)) rfl rfl
  refine ⟨o, T', h1, h2, set_of (d := rl (otherR (1 + o))) (call_of (ds := [.list ((List.range (1 + o)).map fun k => plD (((k : Nat) : Int) - 2, 1))]) (T1 := T') (a_one (lc_of (ds := (List.range (1 + o)).map fun k => iD k) (T1 := T') ((r1_of (k := ((1 + o : Nat) : Int)) (e2_of (x := .int 1) (y := iD o) (T1 := T) rfl e (q_addN 1 o)) (ok62_nat (by omega))).trans (by rw [Int.toNat_natCast, rngD0])) (lcL_map fun k _ => ⟨_, rfl, rfl, tup_of (ds := [.int (((k : Nat) : Int) - 2), .int 1]) (T1 := T') (a_cons (T1 := T') (e2_of (x := iD k) (y := .int 2) (T1 := T') rfl rfl rfl) rfl) rfl⟩) (by rw [List.length_map, List.length_range]; omega))) ?_)⟩
  show some (PyData.tuple _) = some (.tuple _)
  unfold otherR
  rw [List.map_map]; rfl
theorem L28 {c0 c2 c3 c4 c5 c6 c7 c8 c9 c10 c11 c12 c13 c15 c17 c18 c19 c20 c21 c22 c23 c24 c26 c27 c28 c29 c30 c31 c32 : Cell} {m : Nat} {r q b : List (Int × Nat)} (h : p_sum_rule [iD m, rl r, rl q] = some (rl b)) : f_law_28 (c0 :: .tp :: c2 :: c3 :: c4 :: c5 :: c6 :: c7 :: c8 :: c9 :: c10 :: c11 :: c12 :: c13 :: .fr (iD m) :: c15 :: .fr (rl r) :: c17 :: c18 :: c19 :: c20 :: c21 :: c22 :: c23 :: c24 :: .fr (rl q) :: c26 :: c27 :: c28 :: c29 :: c30 :: c31 :: c32 :: []) T = some (.nx (c0 :: .tp :: c2 :: c3 :: c4 :: c5 :: c6 :: c7 :: c8 :: c9 :: c10 :: c11 :: c12 :: c13 :: .fr (iD m) :: c15 :: .fr (rl r) :: c17 :: c18 :: c19 :: c20 :: c21 :: c22 :: c23 :: c24 :: .fr (rl q) :: .fr (rl b) :: c27 :: c28 :: c29 :: c30 :: c31 :: c32 :: []), T) := set_of (callP_of (ds := [iD m, rl r, rl q]) (T1 := T) rfl rfl h)
theorem zip_tl : ∀ (n : Nat) (A B : List Nat), A.length = n → B.length = n → zipT (A.map iD) (B.map iD) = (List.range n).map fun k => .tuple [iD (A.getD k 0), iD (B.getD k 0)]
  | 0, [], [], _, _ => rfl
  | n + 1, a :: A, b :: B, h1, h2 => by
    rw [List.map_cons, List.map_cons, zipT, zip_tl n A B (by simpa using h1) (by simpa using h2), List.range_succ_eq_map, List.map_cons, List.map_map]
    rfl
  | 0, _ :: _, _, h, _ => by cases h
  | 0, [], _ :: _, _, h => by cases h
  | n + 1, [], _, h, _ => by cases h
  | n + 1, _ :: _, [], _, h => by cases h
theorem lz_of {ga : FA} {ρ : Rho} {T1 : Tp} {ds es : List D} (h : ga ρ T = some ([.tuple ds, .tuple es], T1)) : eLZ ga ρ T = some (.list (zipT ds es), T1) := by unfold eLZ; rw [h]
theorem L29 {c0 c2 c3 c4 c5 c6 c7 c8 c9 c10 c11 c12 c13 c15 c17 c18 c20 c21 c22 c23 c24 c27 c28 c29 c30 c31 c32 : Cell} {m w : Nat} {r q b : List (Int × Nat)} {xs : List Nat} (hm : 1 ≤ m) (hm2 : m ≤ 3) (hc : p_check_linear [iD m, rl r] = some .none) (hl : xs.length = w) (h1 : 1 ≤ w) (h2 : w ≤ 9) (hx : ∀ x ∈ xs, x < m) (hr : r.length ≤ 1000) (hq : p_check_linear [iD m, rl q] = some .none) (hb : p_check_linear [iD m, rl b] = some .none) (lq : q.length ≤ 1000) (lb : b.length ≤ 1000) (he : lstepF m w b (scal w 1) = addF m w (lstepF m w r (scal w 1)) (lstepF m w q (scal w 1))) : f_law_29 (c0 :: .tp :: c2 :: c3 :: c4 :: c5 :: c6 :: c7 :: c8 :: c9 :: c10 :: c11 :: c12 :: c13 :: .fr (iD m) :: c15 :: .fr (rl r) :: c17 :: c18 :: .fr (tl xs) :: c20 :: c21 :: c22 :: c23 :: c24 :: .fr (rl q) :: .fr (rl b) :: c27 :: c28 :: c29 :: c30 :: c31 :: c32 :: []) T = some (.nx (c0 :: .tp :: c2 :: c3 :: c4 :: c5 :: c6 :: c7 :: c8 :: c9 :: c10 :: c11 :: c12 :: c13 :: .fr (iD m) :: c15 :: .fr (rl r) :: c17 :: c18 :: .fr (tl xs) :: c20 :: c21 :: c22 :: c23 :: c24 :: .fr (rl q) :: .fr (rl b) :: c27 :: c28 :: c29 :: c30 :: c31 :: c32 :: []), T) := by
  have ev : ∀ p, lstep m p xs = evs m w (lstepF m w p (scal w 1)) xs := fun p => by
    rw [← lstep_evs h1, evs_id hl hx]
  have e : lstep m b xs = (List.range w).map fun k => ((lstep m r xs).getD k 0 + (lstep m q xs).getD k 0) % m := by
    rw [ev b, he, evs_add, ← ev r, ← ev q]
  have sr := linear_key hm (by omega) hc (by omega) (by omega) hx hr
  have sq := linear_key hm (by omega) hq (by omega) (by omega) hx lq
  have sb := linear_key hm (by omega) hb (by omega) (by omega) hx lb
  refine if_f (T1 := T) (bool_of (e2_of (x := tl (lstep m b xs)) (y := tl (lstep m b xs)) (T1 := T) (callP_of (ds := [iD m, rl b, tl xs]) (T1 := T) rfl rfl sb) (call_of (ds := [.list ((List.range w).map fun k => iD (((lstep m r xs).getD k 0 + (lstep m q xs).getD k 0) % m))]) (T1 := T) (a_one (lc_of (ds := (List.range w).map fun k => .tuple [iD ((lstep m r xs).getD k 0), iD ((lstep m q xs).getD k 0)]) (T1 := T) (seq_i (d := .list (zipT ((lstep m r xs).map iD) ((lstep m q xs).map iD))) (lz_of (ds := (lstep m r xs).map iD) (es := (lstep m q xs).map iD) (a_cons (T1 := T) (callP_of (ds := [iD m, rl r, tl xs]) (T1 := T) rfl rfl sr) (a_one (callP_of (ds := [iD m, rl q, tl xs]) (T1 := T) rfl rfl sq)))) ?_) (lcL_map fun k _ => ⟨_, rfl, rfl, e2_of (x := iD ((lstep m r xs).getD k 0 + (lstep m q xs).getD k 0)) (y := iD m) (T1 := T) (call_of (ds := [iD ((lstep m r xs).getD k 0 + (lstep m q xs).getD k 0)]) (T1 := T) (a_one (e2_of (x := iD ((lstep m r xs).getD k 0)) (y := iD ((lstep m q xs).getD k 0)) (T1 := T) rfl rfl (q_addN _ _))) rfl) rfl (q_modN hm)⟩) (by rw [List.length_map, List.length_range]; omega))) ?_) (q_neT _))) rfl
  · show some (zipT ((lstep m r xs).map iD) ((lstep m q xs).map iD)) = _
    rw [zip_tl w _ _ (by rw [lstep_len, hl]) (by rw [lstep_len, hl])]
  · show some (PyData.tuple _) = some (.tuple _)
    rw [e, List.map_map]; rfl
theorem L30 {c0 c2 c3 c4 c5 c6 c7 c8 c9 c10 c11 c12 c13 c15 c17 c18 c19 c20 c21 c22 c23 c24 c26 c27 c28 c29 c30 c31 c32 : Cell} {m : Nat} {r q b : List (Int × Nat)} {x y p1 p2 : D} (h : p_sum_rule [iD m, rl r, rl q] = some (rl b)) (h1 : p_product_rule [iD m, rl b, rl r] = some x) (h2 : p_product_rule [iD m, rl r, rl r] = some p1) (h3 : p_product_rule [iD m, rl q, rl r] = some p2) (h4 : p_sum_rule [iD m, p1, p2] = some y) : f_law_30 (c0 :: .tp :: c2 :: c3 :: c4 :: c5 :: c6 :: c7 :: c8 :: c9 :: c10 :: c11 :: c12 :: c13 :: .fr (iD m) :: c15 :: .fr (rl r) :: c17 :: c18 :: c19 :: c20 :: c21 :: c22 :: c23 :: c24 :: .fr (rl q) :: c26 :: c27 :: c28 :: c29 :: c30 :: c31 :: c32 :: []) T = some (.nx (c0 :: .tp :: c2 :: c3 :: c4 :: c5 :: c6 :: c7 :: c8 :: c9 :: c10 :: c11 :: c12 :: c13 :: .fr (iD m) :: c15 :: .fr (rl r) :: c17 :: c18 :: c19 :: c20 :: c21 :: c22 :: c23 :: c24 :: .fr (rl q) :: c26 :: c27 :: .fr x :: .fr y :: c30 :: c31 :: c32 :: []), T) := par_of (x := x) (y := y) (T1 := T) (callP_of (ds := [iD m, rl b, rl r]) (T1 := T) (a_cons (T1 := T) rfl (a_cons (T1 := T) (callP_of (ds := [iD m, rl r, rl q]) (T1 := T) rfl rfl h) rfl)) rfl h1) (callP_of (ds := [iD m, p1, p2]) (T1 := T) (a_cons (T1 := T) rfl (a_cons (T1 := T) (callP_of (ds := [iD m, rl r, rl r]) (T1 := T) rfl rfl h2) (a_one (callP_of (ds := [iD m, rl q, rl r]) (T1 := T) rfl rfl h3)))) rfl h4)
theorem L31 {c0 c2 c3 c4 c5 c6 c7 c8 c9 c10 c11 c12 c13 c14 c15 c16 c17 c18 c19 c20 c21 c22 c23 c24 c25 c26 c27 c30 c31 c32 : Cell} {x y : D} (h : qNe x y = some (.bool false)) : f_law_31 (c0 :: .tp :: c2 :: c3 :: c4 :: c5 :: c6 :: c7 :: c8 :: c9 :: c10 :: c11 :: c12 :: c13 :: c14 :: c15 :: c16 :: c17 :: c18 :: c19 :: c20 :: c21 :: c22 :: c23 :: c24 :: c25 :: c26 :: c27 :: .fr x :: .fr y :: c30 :: c31 :: c32 :: []) T = some (.nx (c0 :: .tp :: c2 :: c3 :: c4 :: c5 :: c6 :: c7 :: c8 :: c9 :: c10 :: c11 :: c12 :: c13 :: c14 :: c15 :: c16 :: c17 :: c18 :: c19 :: c20 :: c21 :: c22 :: c23 :: c24 :: c25 :: c26 :: c27 :: .fr x :: .fr y :: c30 :: c31 :: c32 :: []), T) := if_f (T1 := T) (bool_of (e2_of (x := x) (y := y) (T1 := T) rfl rfl h)) rfl
/-- the four, before and after it is put in order -/
inductive Four : D → List (Int × Nat) → Prop
  | a0 : Four (.tuple [.tuple [.int 0, .int 1], .tuple [.int (-2), .int 2]]) [(-2, 2), (0, 1)]
  | a1 : Four (.tuple [.tuple [.int 0, .int 1], .tuple [.int (-1), .int 2]]) [(-1, 2), (0, 1)]
  | a2 : Four (.tuple [.tuple [.int 0, .int 1], .tuple [.int 0, .int 2]]) [(0, 2)]
  | a3 : Four (.tuple [.tuple [.int 0, .int 1], .tuple [.int 1, .int 2]]) [(0, 1), (1, 2)]
  | a4 : Four (.tuple [.tuple [.int 0, .int 1], .tuple [.int 2, .int 2]]) [(0, 1), (2, 2)]
  | a5 : Four (.tuple [.tuple [.int (-1), .int 2], .tuple [.int 1, .int 3]]) [(-1, 2), (1, 3)]
theorem L32 {c0 c2 c3 c4 c5 c6 c7 c8 c9 c10 c11 c12 c13 c14 c15 c16 c17 c18 c19 c20 c21 c22 c23 c24 c25 c26 c27 c28 c29 c30 c31 c32 : Cell} (h0 : 0 ≤ T.idx) : ∃ d fr T', Four d fr ∧ 0 ≤ T'.idx ∧ f_law_32 (c0 :: .tp :: c2 :: c3 :: c4 :: c5 :: c6 :: c7 :: c8 :: c9 :: c10 :: c11 :: c12 :: c13 :: c14 :: c15 :: c16 :: c17 :: c18 :: c19 :: c20 :: c21 :: c22 :: c23 :: c24 :: c25 :: c26 :: c27 :: c28 :: c29 :: c30 :: c31 :: c32 :: []) T = some (.nx (c0 :: .tp :: c2 :: c3 :: c4 :: c5 :: c6 :: c7 :: c8 :: c9 :: c10 :: c11 :: c12 :: c13 :: c14 :: c15 :: c16 :: c17 :: c18 :: c19 :: c20 :: c21 :: c22 :: c23 :: c24 :: c25 :: c26 :: c27 :: c28 :: c29 :: .fr d :: c31 :: c32 :: []), T') := by
  obtain ⟨z, T1, h1, h2, e⟩ := takeE h0 (m := 2) (by decide) (by decide) (ρ := (c0 :: .tp :: c2 :: c3 :: c4 :: c5 :: c6 :: c7 :: c8 :: c9 :: c10 :: c11 :: c12 :: c13 :: c14 :: c15 :: c16 :: c17 :: c18 :: c19 :: c20 :: c21 :: c22 :: c23 :: c24 :: c25 :: c26 :: c27 :: c28 :: c29 :: c30 :: c31 :: c32 :: [])) (i := 1) (fa := eC (.int 2)) rfl rfl
  by_cases hz : z = 0
  · subst hz
    obtain ⟨p, T', h3, h4, e2⟩ := takeE h2 (m := 5) (by decide) (by decide) (ρ := (c0 :: .tp :: c2 :: c3 :: c4 :: c5 :: c6 :: c7 :: c8 :: c9 :: c10 :: c11 :: c12 :: c13 :: c14 :: c15 :: c16 :: c17 :: c18 :: c19 :: c20 :: c21 :: c22 :: c23 :: c24 :: c25 :: c26 :: c27 :: c28 :: c29 :: c30 :: c31 :: c32 :: [])) (i := 1) (fa := eC (.int 5)) rfl rfl
    have key : ∀ x : Int, ((p : Nat) : Int) - 2 = x → f_law_32 (c0 :: .tp :: c2 :: c3 :: c4 :: c5 :: c6 :: c7 :: c8 :: c9 :: c10 :: c11 :: c12 :: c13 :: c14 :: c15 :: c16 :: c17 :: c18 :: c19 :: c20 :: c21 :: c22 :: c23 :: c24 :: c25 :: c26 :: c27 :: c28 :: c29 :: c30 :: c31 :: c32 :: []) T = some (.nx (c0 :: .tp :: c2 :: c3 :: c4 :: c5 :: c6 :: c7 :: c8 :: c9 :: c10 :: c11 :: c12 :: c13 :: c14 :: c15 :: c16 :: c17 :: c18 :: c19 :: c20 :: c21 :: c22 :: c23 :: c24 :: c25 :: c26 :: c27 :: c28 :: c29 :: .fr (.tuple [.tuple [.int 0, .int 1], .tuple [.int x, .int 2]]) :: c31 :: c32 :: []), T') := fun x hx => set_of ((eif_t (T1 := T1) (bool_of (e2_of (x := iD 0) (y := .int 0) (T1 := T1) e rfl rfl))).trans (tup_of (ds := [.tuple [.int 0, .int 1], .tuple [.int x, .int 2]]) (T1 := T') (a_cons (T1 := T1) rfl (a_one (tup_of (ds := [.int x, .int 2]) (T1 := T') (a_cons (T1 := T') (e2_of (x := iD p) (y := .int 2) (T1 := T') e2 rfl (by show some (PyData.int _) = _; rw [hx])) rfl) rfl))) rfl))
    have hp : p = 0 ∨ p = 1 ∨ p = 2 ∨ p = 3 ∨ p = 4 := by omega
    rcases hp with q | q | q | q | q <;> subst q
    · exact ⟨_, _, T', .a0, h4, key (-2) rfl⟩
    · exact ⟨_, _, T', .a1, h4, key (-1) rfl⟩
    · exact ⟨_, _, T', .a2, h4, key 0 rfl⟩
    · exact ⟨_, _, T', .a3, h4, key 1 rfl⟩
    · exact ⟨_, _, T', .a4, h4, key 2 rfl⟩
  · exact ⟨_, _, T1, .a5, h2, set_of ((eif_f (T1 := T1) (bool_of (e2_of (x := iD z) (y := .int 0) (T1 := T1) e rfl (q_eq_f (by omega))))).trans rfl)⟩
theorem L33 {c0 c2 c3 c4 c5 c6 c7 c8 c9 c10 c11 c12 c13 c14 c15 c16 c17 c18 c19 c20 c21 c22 c23 c24 c25 c26 c27 c28 c29 c31 c32 : Cell} {d : D} {f : List (Int × Nat)} (h : Four d f) : f_law_33 (c0 :: .tp :: c2 :: c3 :: c4 :: c5 :: c6 :: c7 :: c8 :: c9 :: c10 :: c11 :: c12 :: c13 :: c14 :: c15 :: c16 :: c17 :: c18 :: c19 :: c20 :: c21 :: c22 :: c23 :: c24 :: c25 :: c26 :: c27 :: c28 :: c29 :: .fr d :: c31 :: c32 :: []) T = some (.nx (c0 :: .tp :: c2 :: c3 :: c4 :: c5 :: c6 :: c7 :: c8 :: c9 :: c10 :: c11 :: c12 :: c13 :: c14 :: c15 :: c16 :: c17 :: c18 :: c19 :: c20 :: c21 :: c22 :: c23 :: c24 :: c25 :: c26 :: c27 :: c28 :: c29 :: .fr (rl f) :: c31 :: c32 :: []), T) := by
  cases h <;> kernel_rfl
theorem L34t {c0 c2 c3 c4 c5 c6 c7 c8 c9 c10 c11 c12 c13 c14 c15 c16 c17 c18 c19 c20 c21 c22 c23 c24 c25 c26 c27 c28 c29 c31 c32 : Cell} {f : List (Int × Nat)} (h0 : 0 ≤ T.idx) (hl : f.length ≤ 1000) (h : ckF f = true) : ∃ c31' c32' T', 0 ≤ T'.idx ∧ f_law_34 (c0 :: .tp :: c2 :: c3 :: c4 :: c5 :: c6 :: c7 :: c8 :: c9 :: c10 :: c11 :: c12 :: c13 :: c14 :: c15 :: c16 :: c17 :: c18 :: c19 :: c20 :: c21 :: c22 :: c23 :: c24 :: c25 :: c26 :: c27 :: c28 :: c29 :: .fr (rl f) :: c31 :: c32 :: []) T = some (.nx (c0 :: .tp :: c2 :: c3 :: c4 :: c5 :: c6 :: c7 :: c8 :: c9 :: c10 :: c11 :: c12 :: c13 :: c14 :: c15 :: c16 :: c17 :: c18 :: c19 :: c20 :: c21 :: c22 :: c23 :: c24 :: c25 :: c26 :: c27 :: c28 :: c29 :: .fr (rl f) :: c31' :: c32' :: []), T') := by
  obtain ⟨hc, ht, b, pr, r1, r2, z, lb, e1, hb, e2, e3, e4, e5, e6, e7, e8, ef⟩ := useF h
  obtain ⟨xs, T', d1, d2, d3, d4⟩ := draw_list (F := iD) (fe := eCallT 1 1 p_law_take (aCons (eC (.int 4)) aNil)) (j := 11) (m := 4) (ρ := wipeR (c0 :: .tp :: c2 :: c3 :: c4 :: c5 :: c6 :: c7 :: c8 :: c9 :: c10 :: c11 :: c12 :: c13 :: c14 :: c15 :: c16 :: c17 :: c18 :: c19 :: c20 :: c21 :: c22 :: c23 :: c24 :: c25 :: c26 :: c27 :: c28 :: c29 :: .fr (rl f) :: .fr (rl b) :: c32 :: []) [11]) (fun x T h => takeE h (by decide) (by decide) (ρ := (wipeR (c0 :: .tp :: c2 :: c3 :: c4 :: c5 :: c6 :: c7 :: c8 :: c9 :: c10 :: c11 :: c12 :: c13 :: c14 :: c15 :: c16 :: c17 :: c18 :: c19 :: c20 :: c21 :: c22 :: c23 :: c24 :: c25 :: c26 :: c27 :: c28 :: c29 :: .fr (rl f) :: .fr (rl b) :: c32 :: []) [11]).set 11 (.fr x)) (i := 1) (fa := eC (.int 4)) rfl rfl) (rngD 0 6) T h0
  have hlen : xs.length = 6 := by rw [d1, rngD_len]
  have s1 := linear_key (by decide) (by decide) hc (by omega) (by omega) d2 hl
  have s2 := linear_key (xs := lstep 4 f xs) (by decide) (by decide) hb (by rw [lstep_len]; omega) (by rw [lstep_len]; omega) (lstep_lt (by decide) _ _) lb
  have same : lstep 4 b (lstep 4 f xs) = xs := by
    have i := evs_id (n := 6) hlen d2
    rw [← i, lstep_evs (by decide), lstep_evs (by decide), ef]
  rw [same] at s2
  refine ⟨.fr (rl b), .fr (tl xs), T', d3, if_t (T1 := T) (tru_of (d := .bool true) (callP_of (ds := [.int 4, rl f]) (T1 := T) rfl rfl ht) rfl) (seq_nx (T1 := T) (set_of (d := rl b) (callP_of (ds := [.int 4, rl f]) (T1 := T) rfl rfl e1)) (seq_nx (T1 := T) (if_f (T1 := T) ((or_f (T1 := T) (bool_of (e2_of (x := pr) (y := rl [(0, 1)]) (T1 := T) (callP_of (ds := [.int 4, rl f, rl b]) (T1 := T) rfl rfl e2) rfl e3))).trans ((or_f (T1 := T) (bool_of (e2_of (x := r1) (y := r2) (T1 := T) (callP_of (ds := [.int 4, rl f, .int 6]) (T1 := T) rfl rfl e4) (callP_of (ds := [.int 4, rl b, .int 6]) (T1 := T) rfl rfl e5) e6))).trans (bool_of (e2_of (x := z) (y := .int 0) (T1 := T) (e2_of (x := r1) (y := .int 0) (T1 := T) (callP_of (ds := [.int 4, rl f, .int 6]) (T1 := T) rfl rfl e4) rfl e7) rfl e8)))) rfl) (seq_nx (T1 := T') (set_of (d := tl xs) (call_of (ds := [.list (xs.map iD)]) (T1 := T') (a_one (lc_of (ds := rngD 0 6) (T1 := T) (r1_of (k := 6) rfl rfl) d4 (by decide))) rfl)) (if_f (T1 := T') (bool_of (e2_of (x := tl xs) (y := tl xs) (T1 := T') (callP_of (ds := [.int 4, rl b, tl (lstep 4 f xs)]) (T1 := T') (a_cons (T1 := T') rfl (a_cons (T1 := T') rfl (a_one (callP_of (ds := [.int 4, rl f, tl xs]) (T1 := T') rfl rfl s1)))) rfl s2) rfl (q_neT _))) rfl))))⟩
theorem L34 {c0 c2 c3 c4 c5 c6 c7 c8 c9 c10 c11 c12 c13 c14 c15 c16 c17 c18 c19 c20 c21 c22 c23 c24 c25 c26 c27 c28 c29 c31 c32 : Cell} {d : D} {f : List (Int × Nat)} (h0 : 0 ≤ T.idx) (h : Four d f) : ∃ c31' c32' T', 0 ≤ T'.idx ∧ f_law_34 (c0 :: .tp :: c2 :: c3 :: c4 :: c5 :: c6 :: c7 :: c8 :: c9 :: c10 :: c11 :: c12 :: c13 :: c14 :: c15 :: c16 :: c17 :: c18 :: c19 :: c20 :: c21 :: c22 :: c23 :: c24 :: c25 :: c26 :: c27 :: c28 :: c29 :: .fr (rl f) :: c31 :: c32 :: []) T = some (.nx (c0 :: .tp :: c2 :: c3 :: c4 :: c5 :: c6 :: c7 :: c8 :: c9 :: c10 :: c11 :: c12 :: c13 :: c14 :: c15 :: c16 :: c17 :: c18 :: c19 :: c20 :: c21 :: c22 :: c23 :: c24 :: c25 :: c26 :: c27 :: c28 :: c29 :: .fr (rl f) :: c31' :: c32' :: []), T') := by
  cases h with
  | a0 => exact L34t h0 (by decide) kF_0
  | a1 => exact L34t h0 (by decide) kF_1
  | a3 => exact L34t h0 (by decide) kF_3
  | a4 => exact L34t h0 (by decide) kF_4
  | a5 => exact L34t h0 (by decide) kF_5
  | a2 => exact ⟨c31, c32, T, h0, if_f (T1 := T) (tru_of (d := .bool false) (callP_of (ds := [.int 4, rl [(0, 2)]]) (T1 := T) rfl rfl kF_2) rfl) rfl⟩
theorem L35 {c0 c2 c3 c4 c5 c8 c11 c12 c13 c14 c15 c16 c17 c18 c19 c20 c21 c22 c23 c24 c25 c26 c27 c28 c29 c30 c31 c32 : Cell} {n t u p l v : Nat} (C : Cnt n t u p l) (hv : v < 2 ^ n) : f_law_35 (c0 :: .tp :: c2 :: c3 :: c4 :: c5 :: .fr (iD t) :: .fr (iD u) :: c8 :: .fr r90 :: .fr (key n v) :: c11 :: c12 :: c13 :: c14 :: c15 :: c16 :: c17 :: c18 :: c19 :: c20 :: c21 :: c22 :: c23 :: c24 :: c25 :: c26 :: c27 :: c28 :: c29 :: c30 :: c31 :: c32 :: []) T = some (.rt (.bool true), T) := by
  have h1 := C.pos; have h2 := C.top; have h3 := C.ub
  have s1 := steps_key (c := t + u) h1 (by omega) hv (by omega)
  have s2 := steps_key (c := t) h1 (by omega) hv (by omega)
  rw [same_of C.same hv] at s1
  refine ret_of (e2_of (x := key n (itS n v t)) (y := key n (itS n v t)) (T1 := T) (callP_of (ds := [r90, key n v, iD (t + u)]) (T1 := T) (a_cons (T1 := T) rfl (a_cons (T1 := T) rfl (a_one (e2_of (x := iD t) (y := iD u) (T1 := T) rfl rfl (q_addN _ _))))) rfl s1) (callP_of (ds := [r90, key n v, iD t]) (T1 := T) rfl rfl s2) ?_)
  show some (PyData.bool _) = _
  rw [show (S (bw (fv n (itS n v t)) n)).cps.toList = bw (fv n (itS n v t)) n from rfl]
  rw [beq_self_eq_true]
theorem ex_nx {f g : FS} {ρ ρ1 : Rho} {T T1 : Tp} (h : f ρ T = some (.nx ρ1, T1)) (k : ∃ T', g ρ1 T1 = some (.rt (.bool true), T')) : ∃ T', sSeq f g ρ T = some (.rt (.bool true), T') := by
  obtain ⟨T', e⟩ := k
  exact ⟨T', seq_nx h e⟩
theorem wide_ok {r k : Nat} (hr : r < 2) (hk : k < 2) : 1 ≤ wideOf (2 + r) k ∧ wideOf (2 + r) k ≤ 9 := by
  have r2 : r = 0 ∨ r = 1 := by omega
  have k2 : k = 0 ∨ k = 1 := by omega
  rcases r2 with z | z <;> rcases k2 with y | y <;> subst z <;> subst y <;> decide
theorem cA_ok {r a b c : Nat} (hr : r < 2) (h0 : a < 2 + r) (h1 : b < 2 + r) (h2 : c < 2 + r) : ckA (2 + r) [a, b, c] = true := by
  have r2 : r = 0 ∨ r = 1 := by omega
  rcases r2 with z | z <;> subst z
  · exact ckA_2 h0 h1 h2
  · exact ckA_3 h0 h1 h2
theorem cW_ok {r a b c k : Nat} (hr : r < 2) (h0 : a < 2 + r) (h1 : b < 2 + r) (h2 : c < 2 + r) (hk : k < 2) : ckW (2 + r) [a, b, c] (wideOf (2 + r) k) = true := by
  have r2 : r = 0 ∨ r = 1 := by omega
  rcases r2 with z | z <;> subst z
  · exact ckW_2 h0 h1 h2 hk
  · exact ckW_3 h0 h1 h2 hk
theorem cO_ok {r a b c k : Nat} (hr : r < 2) (h0 : a < 2 + r) (h1 : b < 2 + r) (h2 : c < 2 + r) (hk : k < 3) : ckO (2 + r) [a, b, c] (1 + k) = true := by
  have r2 : r = 0 ∨ r = 1 := by omega
  rcases r2 with z | z <;> subst z
  · exact ckO_2 h0 h1 h2 hk
  · exact ckO_3 h0 h1 h2 hk
theorem law_math (ns : List Int) (h : ns.length ≤ 63) : ∃ T', f_law ((List.replicate 33 .un).set 1 .tp) (mkTape ns) = some (.rt (.bool true), T') := by
  show ∃ T', f_law (Cell.un :: Cell.tp :: Cell.un :: Cell.un :: Cell.un :: Cell.un :: Cell.un :: Cell.un :: Cell.un :: Cell.un :: Cell.un :: Cell.un :: Cell.un :: Cell.un :: Cell.un :: Cell.un :: Cell.un :: Cell.un :: Cell.un :: Cell.un :: Cell.un :: Cell.un :: Cell.un :: Cell.un :: Cell.un :: Cell.un :: Cell.un :: Cell.un :: Cell.un :: Cell.un :: Cell.un :: Cell.un :: Cell.un :: []) (mkTape ns) = some (.rt (.bool true), T')
  refine ex_nx (T1 := mkTape ns) (ρ1 := (Cell.un :: Cell.tp :: .fr nearD :: Cell.un :: Cell.un :: Cell.un :: Cell.un :: Cell.un :: Cell.un :: Cell.un :: Cell.un :: Cell.un :: Cell.un :: Cell.un :: Cell.un :: Cell.un :: Cell.un :: Cell.un :: Cell.un :: Cell.un :: Cell.un :: Cell.un :: Cell.un :: Cell.un :: Cell.un :: Cell.un :: Cell.un :: Cell.un :: Cell.un :: Cell.un :: Cell.un :: Cell.un :: Cell.un :: [])) (L1) ?_
  obtain ⟨d, T1, hd, i1, e2⟩ := takeE (T := mkTape ns) (Int.le_refl 0) (m := 12) (by decide) (by decide) (ρ := (Cell.un :: Cell.tp :: .fr nearD :: Cell.un :: Cell.un :: Cell.un :: Cell.un :: Cell.un :: Cell.un :: Cell.un :: Cell.un :: Cell.un :: Cell.un :: Cell.un :: Cell.un :: Cell.un :: Cell.un :: Cell.un :: Cell.un :: Cell.un :: Cell.un :: Cell.un :: Cell.un :: Cell.un :: Cell.un :: Cell.un :: Cell.un :: Cell.un :: Cell.un :: Cell.un :: Cell.un :: Cell.un :: Cell.un :: [])) (i := 1) (fa := eC (.int 12)) rfl rfl
  obtain ⟨t, u, p, l, C, r4, r6⟩ := sizes (n := 1 + d) (by omega) (by omega)
  refine ex_nx (T1 := T1) (ρ1 := (Cell.un :: Cell.tp :: .fr nearD :: .fr (iD (1 + d)) :: Cell.un :: Cell.un :: Cell.un :: Cell.un :: Cell.un :: Cell.un :: Cell.un :: Cell.un :: Cell.un :: Cell.un :: Cell.un :: Cell.un :: Cell.un :: Cell.un :: Cell.un :: Cell.un :: Cell.un :: Cell.un :: Cell.un :: Cell.un :: Cell.un :: Cell.un :: Cell.un :: Cell.un :: Cell.un :: Cell.un :: Cell.un :: Cell.un :: Cell.un :: [])) (set_of (i := 3) (e2_of (x := .int 1) (y := iD d) (T1 := mkTape ns) rfl e2 (q_addN 1 d))) ?_
  refine ex_nx (T1 := T1) (ρ1 := (Cell.un :: Cell.tp :: .fr nearD :: .fr (iD (1 + d)) :: .fr (iD 1) :: .fr (iD (1 + d)) :: Cell.un :: Cell.un :: Cell.un :: Cell.un :: Cell.un :: Cell.un :: Cell.un :: Cell.un :: Cell.un :: Cell.un :: Cell.un :: Cell.un :: Cell.un :: Cell.un :: Cell.un :: Cell.un :: Cell.un :: Cell.un :: Cell.un :: Cell.un :: Cell.un :: Cell.un :: Cell.un :: Cell.un :: Cell.un :: Cell.un :: Cell.un :: [])) (L3) ?_
  refine ex_nx (T1 := T1) (ρ1 := (Cell.un :: Cell.tp :: .fr nearD :: .fr (iD (1 + d)) :: .fr (iD p) :: .fr (iD l) :: Cell.un :: Cell.un :: Cell.un :: Cell.un :: Cell.un :: Cell.un :: Cell.un :: Cell.un :: Cell.un :: Cell.un :: Cell.un :: Cell.un :: Cell.un :: Cell.un :: Cell.un :: Cell.un :: Cell.un :: Cell.un :: Cell.un :: Cell.un :: Cell.un :: Cell.un :: Cell.un :: Cell.un :: Cell.un :: Cell.un :: Cell.un :: [])) (r4 T1) ?_
  refine ex_nx (T1 := T1) (ρ1 := (Cell.un :: Cell.tp :: .fr nearD :: .fr (iD (1 + d)) :: .fr (iD p) :: .fr (iD l) :: .fr (iD t) :: .fr (iD u) :: Cell.un :: Cell.un :: Cell.un :: Cell.un :: Cell.un :: Cell.un :: Cell.un :: Cell.un :: Cell.un :: Cell.un :: Cell.un :: Cell.un :: Cell.un :: Cell.un :: Cell.un :: Cell.un :: Cell.un :: Cell.un :: Cell.un :: Cell.un :: Cell.un :: Cell.un :: Cell.un :: Cell.un :: Cell.un :: [])) (L5 C) ?_
  refine ex_nx (T1 := T1) (ρ1 := (Cell.un :: Cell.tp :: .fr nearD :: .fr (iD (1 + d)) :: .fr (iD p) :: .fr (iD l) :: .fr (iD t) :: .fr (iD u) :: Cell.un :: Cell.un :: Cell.un :: Cell.un :: Cell.un :: Cell.un :: Cell.un :: Cell.un :: Cell.un :: Cell.un :: Cell.un :: Cell.un :: Cell.un :: Cell.un :: Cell.un :: Cell.un :: Cell.un :: Cell.un :: Cell.un :: Cell.un :: Cell.un :: Cell.un :: Cell.un :: Cell.un :: Cell.un :: [])) (r6 T1) ?_
  refine ex_nx (T1 := T1) (ρ1 := (Cell.un :: Cell.tp :: .fr nearD :: .fr (iD (1 + d)) :: .fr (iD p) :: .fr (iD l) :: .fr (iD t) :: .fr (iD u) :: .fr (iD 6) :: Cell.un :: Cell.un :: Cell.un :: Cell.un :: Cell.un :: Cell.un :: Cell.un :: Cell.un :: Cell.un :: Cell.un :: Cell.un :: Cell.un :: Cell.un :: Cell.un :: Cell.un :: Cell.un :: Cell.un :: Cell.un :: Cell.un :: Cell.un :: Cell.un :: Cell.un :: Cell.un :: Cell.un :: [])) (L7) ?_
  refine ex_nx (T1 := T1) (ρ1 := (Cell.un :: Cell.tp :: .fr nearD :: .fr (iD (1 + d)) :: .fr (iD p) :: .fr (iD l) :: .fr (iD t) :: .fr (iD u) :: .fr (iD 6) :: .fr r90 :: Cell.un :: Cell.un :: Cell.un :: Cell.un :: Cell.un :: Cell.un :: Cell.un :: Cell.un :: Cell.un :: Cell.un :: Cell.un :: Cell.un :: Cell.un :: Cell.un :: Cell.un :: Cell.un :: Cell.un :: Cell.un :: Cell.un :: Cell.un :: Cell.un :: Cell.un :: Cell.un :: [])) (L8) ?_
  obtain ⟨v, T2, hv, i2, e9⟩ := L9 (T := T1) (c0 := Cell.un) (c2 := .fr nearD) (c4 := .fr (iD p)) (c5 := .fr (iD l)) (c6 := .fr (iD t)) (c7 := .fr (iD u)) (c8 := .fr (iD 6)) (c9 := .fr r90) (c10 := Cell.un) (c11 := Cell.un) (c12 := Cell.un) (c13 := Cell.un) (c14 := Cell.un) (c15 := Cell.un) (c16 := Cell.un) (c17 := Cell.un) (c18 := Cell.un) (c19 := Cell.un) (c20 := Cell.un) (c21 := Cell.un) (c22 := Cell.un) (c23 := Cell.un) (c24 := Cell.un) (c25 := Cell.un) (c26 := Cell.un) (c27 := Cell.un) (c28 := Cell.un) (c29 := Cell.un) (c30 := Cell.un) (c31 := Cell.un) (c32 := Cell.un) (n := 1 + d) (by omega) i1
  refine ex_nx (T1 := T2) (ρ1 := (Cell.un :: Cell.tp :: .fr nearD :: .fr (iD (1 + d)) :: .fr (iD p) :: .fr (iD l) :: .fr (iD t) :: .fr (iD u) :: .fr (iD 6) :: .fr r90 :: .fr (key (1 + d) v) :: Cell.un :: Cell.un :: Cell.un :: Cell.un :: Cell.un :: Cell.un :: Cell.un :: Cell.un :: Cell.un :: Cell.un :: Cell.un :: Cell.un :: Cell.un :: Cell.un :: Cell.un :: Cell.un :: Cell.un :: Cell.un :: Cell.un :: Cell.un :: Cell.un :: Cell.un :: [])) (e9) ?_
  refine ex_nx (T1 := T2) (ρ1 := (Cell.un :: Cell.tp :: .fr nearD :: .fr (iD (1 + d)) :: .fr (iD p) :: .fr (iD l) :: .fr (iD t) :: .fr (iD u) :: .fr (iD 6) :: .fr r90 :: .fr (key (1 + d) v) :: Cell.un :: .fr (tl [t, u]) :: Cell.un :: Cell.un :: Cell.un :: Cell.un :: Cell.un :: Cell.un :: Cell.un :: Cell.un :: Cell.un :: Cell.un :: Cell.un :: Cell.un :: Cell.un :: Cell.un :: Cell.un :: Cell.un :: Cell.un :: Cell.un :: Cell.un :: Cell.un :: [])) (L10 C) ?_
  obtain ⟨a, q, ha, hq, hd2, e11⟩ := L11 (T := T2) (c0 := Cell.un) (c2 := .fr nearD) (c3 := .fr (iD (1 + d))) (c4 := .fr (iD p)) (c5 := .fr (iD l)) (c6 := .fr (iD t)) (c7 := .fr (iD u)) (c8 := .fr (iD 6)) (c11 := Cell.un) (c12 := .fr (tl [t, u])) (c13 := Cell.un) (c14 := Cell.un) (c15 := Cell.un) (c16 := Cell.un) (c17 := Cell.un) (c18 := Cell.un) (c19 := Cell.un) (c20 := Cell.un) (c21 := Cell.un) (c22 := Cell.un) (c23 := Cell.un) (c24 := Cell.un) (c25 := Cell.un) (c26 := Cell.un) (c27 := Cell.un) (c28 := Cell.un) (c29 := Cell.un) (c30 := Cell.un) (c31 := Cell.un) (c32 := Cell.un) C hv
  refine ex_nx (T1 := T2) (ρ1 := (Cell.un :: Cell.tp :: .fr nearD :: .fr (iD (1 + d)) :: .fr (iD p) :: .fr (iD l) :: .fr (iD t) :: .fr (iD u) :: .fr (iD 6) :: .fr r90 :: .fr (key (1 + d) v) :: Cell.un :: .fr (tl [t, u]) :: .fr (tl [a, q]) :: Cell.un :: Cell.un :: Cell.un :: Cell.un :: Cell.un :: Cell.un :: Cell.un :: Cell.un :: Cell.un :: Cell.un :: Cell.un :: Cell.un :: Cell.un :: Cell.un :: Cell.un :: Cell.un :: Cell.un :: Cell.un :: Cell.un :: [])) (e11) ?_
  refine ex_nx (T1 := T2) (ρ1 := (Cell.un :: Cell.tp :: .fr nearD :: .fr (iD (1 + d)) :: .fr (iD p) :: .fr (iD l) :: .fr (iD t) :: .fr (iD u) :: .fr (iD 6) :: .fr r90 :: .fr (key (1 + d) v) :: Cell.un :: .fr (tl [t, u]) :: .fr (tl [a, q]) :: Cell.un :: Cell.un :: Cell.un :: Cell.un :: Cell.un :: Cell.un :: Cell.un :: Cell.un :: Cell.un :: Cell.un :: Cell.un :: Cell.un :: Cell.un :: Cell.un :: Cell.un :: Cell.un :: Cell.un :: Cell.un :: Cell.un :: [])) (L12 ha hq hd2) ?_
  refine ex_nx (T1 := T2) (ρ1 := (Cell.un :: Cell.tp :: .fr nearD :: .fr (iD (1 + d)) :: .fr (iD p) :: .fr (iD l) :: .fr (iD t) :: .fr (iD u) :: .fr (iD 6) :: .fr r90 :: .fr (key (1 + d) v) :: Cell.un :: .fr (tl [t, u]) :: .fr (tl [a, q]) :: Cell.un :: Cell.un :: Cell.un :: Cell.un :: Cell.un :: Cell.un :: Cell.un :: Cell.un :: Cell.un :: Cell.un :: Cell.un :: Cell.un :: Cell.un :: Cell.un :: Cell.un :: Cell.un :: Cell.un :: Cell.un :: Cell.un :: [])) (L13 C) ?_
  obtain ⟨r, T3, hr, i3, e14⟩ := L14 (T := T2) (c0 := Cell.un) (c2 := .fr nearD) (c3 := .fr (iD (1 + d))) (c4 := .fr (iD p)) (c5 := .fr (iD l)) (c6 := .fr (iD t)) (c7 := .fr (iD u)) (c8 := .fr (iD 6)) (c9 := .fr r90) (c10 := .fr (key (1 + d) v)) (c11 := Cell.un) (c12 := .fr (tl [t, u])) (c13 := .fr (tl [a, q])) (c14 := Cell.un) (c15 := Cell.un) (c16 := Cell.un) (c17 := Cell.un) (c18 := Cell.un) (c19 := Cell.un) (c20 := Cell.un) (c21 := Cell.un) (c22 := Cell.un) (c23 := Cell.un) (c24 := Cell.un) (c25 := Cell.un) (c26 := Cell.un) (c27 := Cell.un) (c28 := Cell.un) (c29 := Cell.un) (c30 := Cell.un) (c31 := Cell.un) (c32 := Cell.un) i2
  refine ex_nx (T1 := T3) (ρ1 := (Cell.un :: Cell.tp :: .fr nearD :: .fr (iD (1 + d)) :: .fr (iD p) :: .fr (iD l) :: .fr (iD t) :: .fr (iD u) :: .fr (iD 6) :: .fr r90 :: .fr (key (1 + d) v) :: Cell.un :: .fr (tl [t, u]) :: .fr (tl [a, q]) :: .fr (iD (2 + r)) :: Cell.un :: Cell.un :: Cell.un :: Cell.un :: Cell.un :: Cell.un :: Cell.un :: Cell.un :: Cell.un :: Cell.un :: Cell.un :: Cell.un :: Cell.un :: Cell.un :: Cell.un :: Cell.un :: Cell.un :: Cell.un :: [])) (e14) ?_
  obtain ⟨f0, f1, f2, T4, h0, h1, h2, i4, e15⟩ := L15 (T := T3) (c0 := Cell.un) (c2 := .fr nearD) (c3 := .fr (iD (1 + d))) (c4 := .fr (iD p)) (c5 := .fr (iD l)) (c6 := .fr (iD t)) (c7 := .fr (iD u)) (c8 := .fr (iD 6)) (c9 := .fr r90) (c10 := .fr (key (1 + d) v)) (c11 := Cell.un) (c12 := .fr (tl [t, u])) (c13 := .fr (tl [a, q])) (c15 := Cell.un) (c16 := Cell.un) (c17 := Cell.un) (c18 := Cell.un) (c19 := Cell.un) (c20 := Cell.un) (c21 := Cell.un) (c22 := Cell.un) (c23 := Cell.un) (c24 := Cell.un) (c25 := Cell.un) (c26 := Cell.un) (c27 := Cell.un) (c28 := Cell.un) (c29 := Cell.un) (c30 := Cell.un) (c31 := Cell.un) (c32 := Cell.un) (m := 2 + r) (by omega) (by omega) i3
  refine ex_nx (T1 := T4) (ρ1 := (Cell.un :: Cell.tp :: .fr nearD :: .fr (iD (1 + d)) :: .fr (iD p) :: .fr (iD l) :: .fr (iD t) :: .fr (iD u) :: .fr (iD 6) :: .fr r90 :: .fr (key (1 + d) v) :: Cell.un :: .fr (tl [t, u]) :: .fr (tl [a, q]) :: .fr (iD (2 + r)) :: .ow (.list [iD f0, iD f1, iD f2]) :: Cell.un :: Cell.un :: Cell.un :: Cell.un :: Cell.un :: Cell.un :: Cell.un :: Cell.un :: Cell.un :: Cell.un :: Cell.un :: Cell.un :: Cell.un :: Cell.un :: Cell.un :: Cell.un :: Cell.un :: [])) (e15) ?_
  refine ex_nx (T1 := T4) (ρ1 := (Cell.un :: Cell.tp :: .fr nearD :: .fr (iD (1 + d)) :: .fr (iD p) :: .fr (iD l) :: .fr (iD t) :: .fr (iD u) :: .fr (iD 6) :: .fr r90 :: .fr (key (1 + d) v) :: Cell.un :: .fr (tl [t, u]) :: .fr (tl [a, q]) :: .fr (iD (2 + r)) :: .ow (.list [iD f0, iD f1, iD f2]) :: .fr (rl (ruleF [f0, f1, f2])) :: Cell.un :: Cell.un :: Cell.un :: Cell.un :: Cell.un :: Cell.un :: Cell.un :: Cell.un :: Cell.un :: Cell.un :: Cell.un :: Cell.un :: Cell.un :: Cell.un :: Cell.un :: Cell.un :: [])) (L16) ?_
  refine ex_nx (T1 := T4) (ρ1 := (Cell.un :: Cell.tp :: .fr nearD :: .fr (iD (1 + d)) :: .fr (iD p) :: .fr (iD l) :: .fr (iD t) :: .fr (iD u) :: .fr (iD 6) :: .fr r90 :: .fr (key (1 + d) v) :: Cell.un :: .fr (tl [t, u]) :: .fr (tl [a, q]) :: .fr (iD (2 + r)) :: .ow (.list [iD f0, iD f1, iD f2]) :: .fr (rl (ruleF [f0, f1, f2])) :: .fr (iD ([f0, f1, f2].sum % (2 + r))) :: Cell.un :: Cell.un :: Cell.un :: Cell.un :: Cell.un :: Cell.un :: Cell.un :: Cell.un :: Cell.un :: Cell.un :: Cell.un :: Cell.un :: Cell.un :: Cell.un :: Cell.un :: [])) (L17 (by omega)) ?_
  obtain ⟨k, T5, hk, i5, e18⟩ := L18 (T := T4) (c0 := Cell.un) (c2 := .fr nearD) (c3 := .fr (iD (1 + d))) (c4 := .fr (iD p)) (c5 := .fr (iD l)) (c6 := .fr (iD t)) (c7 := .fr (iD u)) (c8 := .fr (iD 6)) (c9 := .fr r90) (c10 := .fr (key (1 + d) v)) (c11 := Cell.un) (c12 := .fr (tl [t, u])) (c13 := .fr (tl [a, q])) (c15 := .ow (.list [iD f0, iD f1, iD f2])) (c16 := .fr (rl (ruleF [f0, f1, f2]))) (c17 := .fr (iD ([f0, f1, f2].sum % (2 + r)))) (c18 := Cell.un) (c19 := Cell.un) (c20 := Cell.un) (c21 := Cell.un) (c22 := Cell.un) (c23 := Cell.un) (c24 := Cell.un) (c25 := Cell.un) (c26 := Cell.un) (c27 := Cell.un) (c28 := Cell.un) (c29 := Cell.un) (c30 := Cell.un) (c31 := Cell.un) (c32 := Cell.un) hr i4
  refine ex_nx (T1 := T5) (ρ1 := (Cell.un :: Cell.tp :: .fr nearD :: .fr (iD (1 + d)) :: .fr (iD p) :: .fr (iD l) :: .fr (iD t) :: .fr (iD u) :: .fr (iD 6) :: .fr r90 :: .fr (key (1 + d) v) :: Cell.un :: .fr (tl [t, u]) :: .fr (tl [a, q]) :: .fr (iD (2 + r)) :: .ow (.list [iD f0, iD f1, iD f2]) :: .fr (rl (ruleF [f0, f1, f2])) :: .fr (iD ([f0, f1, f2].sum % (2 + r))) :: .fr (iD (wideOf (2 + r) k)) :: Cell.un :: Cell.un :: Cell.un :: Cell.un :: Cell.un :: Cell.un :: Cell.un :: Cell.un :: Cell.un :: Cell.un :: Cell.un :: Cell.un :: Cell.un :: Cell.un :: [])) (e18) ?_
  have hw := wide_ok hr hk
  obtain ⟨hc, far, pw, li, a1, a2, a3, a4, a5⟩ := useA (cA_ok hr h0 h1 h2)
  obtain ⟨w1, w2, wh, w3, w4⟩ := useW (cW_ok hr h0 h1 h2 hk)
  have hr3 : (ruleF [f0, f1, f2]).length ≤ 1000 := by
    unfold ruleF
    rw [List.length_map]
    exact Nat.le_trans (List.length_filter_le _ _) (by decide)
  have hcm : [f0, f1, f2].sum % (2 + r) ≤ 100 := by have := Nat.mod_lt [f0, f1, f2].sum (show 0 < 2 + r by omega); omega
  obtain ⟨xs, T6, x1, x2, i6, e19⟩ := L19 (T := T5) (c0 := Cell.un) (c2 := .fr nearD) (c3 := .fr (iD (1 + d))) (c4 := .fr (iD p)) (c5 := .fr (iD l)) (c6 := .fr (iD t)) (c7 := .fr (iD u)) (c8 := .fr (iD 6)) (c9 := .fr r90) (c10 := .fr (key (1 + d) v)) (c11 := Cell.un) (c12 := .fr (tl [t, u])) (c13 := .fr (tl [a, q])) (c15 := .ow (.list [iD f0, iD f1, iD f2])) (c16 := .fr (rl (ruleF [f0, f1, f2]))) (c17 := .fr (iD ([f0, f1, f2].sum % (2 + r)))) (c19 := Cell.un) (c20 := Cell.un) (c21 := Cell.un) (c22 := Cell.un) (c23 := Cell.un) (c24 := Cell.un) (c25 := Cell.un) (c26 := Cell.un) (c27 := Cell.un) (c28 := Cell.un) (c29 := Cell.un) (c30 := Cell.un) (c31 := Cell.un) (c32 := Cell.un) (m := 2 + r) (w := wideOf (2 + r) k) (by omega) (by omega) hw.2 i5
  refine ex_nx (T1 := T6) (ρ1 := (Cell.un :: Cell.tp :: .fr nearD :: .fr (iD (1 + d)) :: .fr (iD p) :: .fr (iD l) :: .fr (iD t) :: .fr (iD u) :: .fr (iD 6) :: .fr r90 :: .fr (key (1 + d) v) :: Cell.un :: .fr (tl [t, u]) :: .fr (tl [a, q]) :: .fr (iD (2 + r)) :: .ow (.list [iD f0, iD f1, iD f2]) :: .fr (rl (ruleF [f0, f1, f2])) :: .fr (iD ([f0, f1, f2].sum % (2 + r))) :: .fr (iD (wideOf (2 + r) k)) :: .fr (tl xs) :: Cell.un :: Cell.un :: Cell.un :: Cell.un :: Cell.un :: Cell.un :: Cell.un :: Cell.un :: Cell.un :: Cell.un :: Cell.un :: Cell.un :: Cell.un :: [])) (e19) ?_
  refine ex_nx (T1 := T6) (ρ1 := (Cell.un :: Cell.tp :: .fr nearD :: .fr (iD (1 + d)) :: .fr (iD p) :: .fr (iD l) :: .fr (iD t) :: .fr (iD u) :: .fr (iD 6) :: .fr r90 :: .fr (key (1 + d) v) :: Cell.un :: .fr (tl [t, u]) :: .fr (tl [a, q]) :: .fr (iD (2 + r)) :: .ow (.list [iD f0, iD f1, iD f2]) :: .fr (rl (ruleF [f0, f1, f2])) :: .fr (iD ([f0, f1, f2].sum % (2 + r))) :: .fr (iD (wideOf (2 + r) k)) :: .fr (tl xs) :: .fr (tl (itL (2 + r) (ruleF [f0, f1, f2]) xs (wideOf (2 + r) k))) :: Cell.un :: Cell.un :: Cell.un :: Cell.un :: Cell.un :: Cell.un :: Cell.un :: Cell.un :: Cell.un :: Cell.un :: Cell.un :: Cell.un :: [])) (L20 (by omega) (by omega) hc x1 hw.1 hw.2 x2 hr3) ?_
  refine ex_nx (T1 := T6) (ρ1 := (Cell.un :: Cell.tp :: .fr nearD :: .fr (iD (1 + d)) :: .fr (iD p) :: .fr (iD l) :: .fr (iD t) :: .fr (iD u) :: .fr (iD 6) :: .fr r90 :: .fr (key (1 + d) v) :: Cell.un :: .fr (tl [t, u]) :: .fr (tl [a, q]) :: .fr (iD (2 + r)) :: .ow (.list [iD f0, iD f1, iD f2]) :: .fr (rl (ruleF [f0, f1, f2])) :: .fr (iD ([f0, f1, f2].sum % (2 + r))) :: .fr (iD (wideOf (2 + r) k)) :: .fr (tl xs) :: .fr (tl (itL (2 + r) (ruleF [f0, f1, f2]) xs (wideOf (2 + r) k))) :: Cell.un :: Cell.un :: Cell.un :: Cell.un :: Cell.un :: Cell.un :: Cell.un :: Cell.un :: Cell.un :: Cell.un :: Cell.un :: Cell.un :: [])) (L21 (by omega) (by omega) x1 hw.1 hw.2 x2 hr3 w1 w2 hcm) ?_
  refine ex_nx (T1 := T6) (ρ1 := (Cell.un :: Cell.tp :: .fr nearD :: .fr (iD (1 + d)) :: .fr (iD p) :: .fr (iD l) :: .fr (iD t) :: .fr (iD u) :: .fr (iD 6) :: .fr r90 :: .fr (key (1 + d) v) :: Cell.un :: .fr (tl [t, u]) :: .fr (tl [a, q]) :: .fr (iD (2 + r)) :: .ow (.list [iD f0, iD f1, iD f2]) :: .fr (rl (ruleF [f0, f1, f2])) :: .fr (iD ([f0, f1, f2].sum % (2 + r))) :: .fr (iD (wideOf (2 + r) k)) :: .fr (tl xs) :: .fr (tl (itL (2 + r) (ruleF [f0, f1, f2]) xs (wideOf (2 + r) k))) :: Cell.un :: .fr wh :: Cell.un :: Cell.un :: Cell.un :: Cell.un :: Cell.un :: Cell.un :: Cell.un :: Cell.un :: Cell.un :: Cell.un :: [])) (L22 w3) ?_
  refine ex_nx (T1 := T6) (ρ1 := (Cell.un :: Cell.tp :: .fr nearD :: .fr (iD (1 + d)) :: .fr (iD p) :: .fr (iD l) :: .fr (iD t) :: .fr (iD u) :: .fr (iD 6) :: .fr r90 :: .fr (key (1 + d) v) :: Cell.un :: .fr (tl [t, u]) :: .fr (tl [a, q]) :: .fr (iD (2 + r)) :: .ow (.list [iD f0, iD f1, iD f2]) :: .fr (rl (ruleF [f0, f1, f2])) :: .fr (iD ([f0, f1, f2].sum % (2 + r))) :: .fr (iD (wideOf (2 + r) k)) :: .fr (tl xs) :: .fr (tl (itL (2 + r) (ruleF [f0, f1, f2]) xs (wideOf (2 + r) k))) :: Cell.un :: .fr wh :: .fr (tl (unit0 (wideOf (2 + r) k))) :: Cell.un :: Cell.un :: Cell.un :: Cell.un :: Cell.un :: Cell.un :: Cell.un :: Cell.un :: Cell.un :: [])) (L23 hw.2) ?_
  obtain ⟨c11', c23', e24⟩ := L24 (T := T6) (c0 := Cell.un) (c2 := .fr nearD) (c3 := .fr (iD (1 + d))) (c4 := .fr (iD p)) (c5 := .fr (iD l)) (c6 := .fr (iD t)) (c7 := .fr (iD u)) (c8 := .fr (iD 6)) (c9 := .fr r90) (c10 := .fr (key (1 + d) v)) (c11 := Cell.un) (c12 := .fr (tl [t, u])) (c13 := .fr (tl [a, q])) (c15 := .ow (.list [iD f0, iD f1, iD f2])) (c17 := .fr (iD ([f0, f1, f2].sum % (2 + r)))) (c19 := .fr (tl xs)) (c20 := .fr (tl (itL (2 + r) (ruleF [f0, f1, f2]) xs (wideOf (2 + r) k)))) (c21 := Cell.un) (c24 := Cell.un) (c25 := Cell.un) (c26 := Cell.un) (c27 := Cell.un) (c28 := Cell.un) (c29 := Cell.un) (c30 := Cell.un) (c31 := Cell.un) (c32 := Cell.un) w4
  refine ex_nx (T1 := T6) (ρ1 := (Cell.un :: Cell.tp :: .fr nearD :: .fr (iD (1 + d)) :: .fr (iD p) :: .fr (iD l) :: .fr (iD t) :: .fr (iD u) :: .fr (iD 6) :: .fr r90 :: .fr (key (1 + d) v) :: c11' :: .fr (tl [t, u]) :: .fr (tl [a, q]) :: .fr (iD (2 + r)) :: .ow (.list [iD f0, iD f1, iD f2]) :: .fr (rl (ruleF [f0, f1, f2])) :: .fr (iD ([f0, f1, f2].sum % (2 + r))) :: .fr (iD (wideOf (2 + r) k)) :: .fr (tl xs) :: .fr (tl (itL (2 + r) (ruleF [f0, f1, f2]) xs (wideOf (2 + r) k))) :: Cell.un :: .fr wh :: c23' :: Cell.un :: Cell.un :: Cell.un :: Cell.un :: Cell.un :: Cell.un :: Cell.un :: Cell.un :: Cell.un :: [])) (e24) ?_
  refine ex_nx (T1 := T6) (ρ1 := (Cell.un :: Cell.tp :: .fr nearD :: .fr (iD (1 + d)) :: .fr (iD p) :: .fr (iD l) :: .fr (iD t) :: .fr (iD u) :: .fr (iD 6) :: .fr r90 :: .fr (key (1 + d) v) :: c11' :: .fr (tl [t, u]) :: .fr (tl [a, q]) :: .fr (iD (2 + r)) :: .ow (.list [iD f0, iD f1, iD f2]) :: .fr (rl (ruleF [f0, f1, f2])) :: .fr (iD ([f0, f1, f2].sum % (2 + r))) :: .fr (iD (wideOf (2 + r) k)) :: .fr (tl xs) :: .fr (tl (itL (2 + r) (ruleF [f0, f1, f2]) xs (wideOf (2 + r) k))) :: Cell.un :: .fr wh :: c23' :: .fr far :: Cell.un :: Cell.un :: Cell.un :: Cell.un :: Cell.un :: Cell.un :: Cell.un :: Cell.un :: [])) (L25 a1) ?_
  refine ex_nx (T1 := T6) (ρ1 := (Cell.un :: Cell.tp :: .fr nearD :: .fr (iD (1 + d)) :: .fr (iD p) :: .fr (iD l) :: .fr (iD t) :: .fr (iD u) :: .fr (iD 6) :: .fr r90 :: .fr (key (1 + d) v) :: c11' :: .fr (tl [t, u]) :: .fr (tl [a, q]) :: .fr (iD (2 + r)) :: .ow (.list [iD f0, iD f1, iD f2]) :: .fr (rl (ruleF [f0, f1, f2])) :: .fr (iD ([f0, f1, f2].sum % (2 + r))) :: .fr (iD (wideOf (2 + r) k)) :: .fr (tl xs) :: .fr (tl (itL (2 + r) (ruleF [f0, f1, f2]) xs (wideOf (2 + r) k))) :: Cell.un :: .fr wh :: c23' :: .fr far :: Cell.un :: Cell.un :: Cell.un :: Cell.un :: Cell.un :: Cell.un :: Cell.un :: Cell.un :: [])) (L26 (by omega) a2 a3 a4 a5) ?_
  obtain ⟨o, T7, ho, i7, e27⟩ := L27 (T := T6) (c0 := Cell.un) (c2 := .fr nearD) (c3 := .fr (iD (1 + d))) (c4 := .fr (iD p)) (c5 := .fr (iD l)) (c6 := .fr (iD t)) (c7 := .fr (iD u)) (c8 := .fr (iD 6)) (c9 := .fr r90) (c10 := .fr (key (1 + d) v)) (c11 := c11') (c12 := .fr (tl [t, u])) (c13 := .fr (tl [a, q])) (c14 := .fr (iD (2 + r))) (c15 := .ow (.list [iD f0, iD f1, iD f2])) (c16 := .fr (rl (ruleF [f0, f1, f2]))) (c17 := .fr (iD ([f0, f1, f2].sum % (2 + r)))) (c18 := .fr (iD (wideOf (2 + r) k))) (c19 := .fr (tl xs)) (c20 := .fr (tl (itL (2 + r) (ruleF [f0, f1, f2]) xs (wideOf (2 + r) k)))) (c21 := Cell.un) (c22 := .fr wh) (c23 := c23') (c24 := .fr far) (c25 := Cell.un) (c26 := Cell.un) (c27 := Cell.un) (c28 := Cell.un) (c29 := Cell.un) (c30 := Cell.un) (c31 := Cell.un) (c32 := Cell.un) i6
  obtain ⟨ho2, b, left, p1, p2, right, lb, o1, o2, o3, o4, o5, o6, o7, o8⟩ := useO (cO_ok hr h0 h1 h2 ho)
  have lq : (otherR (1 + o)).length ≤ 1000 := by unfold otherR; rw [List.length_map, List.length_range]; omega
  refine ex_nx (T1 := T7) (ρ1 := (Cell.un :: Cell.tp :: .fr nearD :: .fr (iD (1 + d)) :: .fr (iD p) :: .fr (iD l) :: .fr (iD t) :: .fr (iD u) :: .fr (iD 6) :: .fr r90 :: .fr (key (1 + d) v) :: c11' :: .fr (tl [t, u]) :: .fr (tl [a, q]) :: .fr (iD (2 + r)) :: .ow (.list [iD f0, iD f1, iD f2]) :: .fr (rl (ruleF [f0, f1, f2])) :: .fr (iD ([f0, f1, f2].sum % (2 + r))) :: .fr (iD (wideOf (2 + r) k)) :: .fr (tl xs) :: .fr (tl (itL (2 + r) (ruleF [f0, f1, f2]) xs (wideOf (2 + r) k))) :: Cell.un :: .fr wh :: c23' :: .fr far :: .fr (rl (otherR (1 + o))) :: Cell.un :: Cell.un :: Cell.un :: Cell.un :: Cell.un :: Cell.un :: Cell.un :: [])) (e27) ?_
  refine ex_nx (T1 := T7) (ρ1 := (Cell.un :: Cell.tp :: .fr nearD :: .fr (iD (1 + d)) :: .fr (iD p) :: .fr (iD l) :: .fr (iD t) :: .fr (iD u) :: .fr (iD 6) :: .fr r90 :: .fr (key (1 + d) v) :: c11' :: .fr (tl [t, u]) :: .fr (tl [a, q]) :: .fr (iD (2 + r)) :: .ow (.list [iD f0, iD f1, iD f2]) :: .fr (rl (ruleF [f0, f1, f2])) :: .fr (iD ([f0, f1, f2].sum % (2 + r))) :: .fr (iD (wideOf (2 + r) k)) :: .fr (tl xs) :: .fr (tl (itL (2 + r) (ruleF [f0, f1, f2]) xs (wideOf (2 + r) k))) :: Cell.un :: .fr wh :: c23' :: .fr far :: .fr (rl (otherR (1 + o))) :: .fr (rl b) :: Cell.un :: Cell.un :: Cell.un :: Cell.un :: Cell.un :: Cell.un :: [])) (L28 o1) ?_
  refine ex_nx (T1 := T7) (ρ1 := (Cell.un :: Cell.tp :: .fr nearD :: .fr (iD (1 + d)) :: .fr (iD p) :: .fr (iD l) :: .fr (iD t) :: .fr (iD u) :: .fr (iD 6) :: .fr r90 :: .fr (key (1 + d) v) :: c11' :: .fr (tl [t, u]) :: .fr (tl [a, q]) :: .fr (iD (2 + r)) :: .ow (.list [iD f0, iD f1, iD f2]) :: .fr (rl (ruleF [f0, f1, f2])) :: .fr (iD ([f0, f1, f2].sum % (2 + r))) :: .fr (iD (wideOf (2 + r) k)) :: .fr (tl xs) :: .fr (tl (itL (2 + r) (ruleF [f0, f1, f2]) xs (wideOf (2 + r) k))) :: Cell.un :: .fr wh :: c23' :: .fr far :: .fr (rl (otherR (1 + o))) :: .fr (rl b) :: Cell.un :: Cell.un :: Cell.un :: Cell.un :: Cell.un :: Cell.un :: [])) (L29 (by omega) (by omega) hc x1 hw.1 hw.2 x2 hr3 ho2 o2 lq lb (o3 k hk)) ?_
  refine ex_nx (T1 := T7) (ρ1 := (Cell.un :: Cell.tp :: .fr nearD :: .fr (iD (1 + d)) :: .fr (iD p) :: .fr (iD l) :: .fr (iD t) :: .fr (iD u) :: .fr (iD 6) :: .fr r90 :: .fr (key (1 + d) v) :: c11' :: .fr (tl [t, u]) :: .fr (tl [a, q]) :: .fr (iD (2 + r)) :: .ow (.list [iD f0, iD f1, iD f2]) :: .fr (rl (ruleF [f0, f1, f2])) :: .fr (iD ([f0, f1, f2].sum % (2 + r))) :: .fr (iD (wideOf (2 + r) k)) :: .fr (tl xs) :: .fr (tl (itL (2 + r) (ruleF [f0, f1, f2]) xs (wideOf (2 + r) k))) :: Cell.un :: .fr wh :: c23' :: .fr far :: .fr (rl (otherR (1 + o))) :: .fr (rl b) :: Cell.un :: .fr left :: .fr right :: Cell.un :: Cell.un :: Cell.un :: [])) (L30 o1 o4 o5 o6 o7) ?_
  refine ex_nx (T1 := T7) (ρ1 := (Cell.un :: Cell.tp :: .fr nearD :: .fr (iD (1 + d)) :: .fr (iD p) :: .fr (iD l) :: .fr (iD t) :: .fr (iD u) :: .fr (iD 6) :: .fr r90 :: .fr (key (1 + d) v) :: c11' :: .fr (tl [t, u]) :: .fr (tl [a, q]) :: .fr (iD (2 + r)) :: .ow (.list [iD f0, iD f1, iD f2]) :: .fr (rl (ruleF [f0, f1, f2])) :: .fr (iD ([f0, f1, f2].sum % (2 + r))) :: .fr (iD (wideOf (2 + r) k)) :: .fr (tl xs) :: .fr (tl (itL (2 + r) (ruleF [f0, f1, f2]) xs (wideOf (2 + r) k))) :: Cell.un :: .fr wh :: c23' :: .fr far :: .fr (rl (otherR (1 + o))) :: .fr (rl b) :: Cell.un :: .fr left :: .fr right :: Cell.un :: Cell.un :: Cell.un :: [])) (L31 o8) ?_
  obtain ⟨d4, fr4, T8, F4, i8, e32⟩ := L32 (T := T7) (c0 := Cell.un) (c2 := .fr nearD) (c3 := .fr (iD (1 + d))) (c4 := .fr (iD p)) (c5 := .fr (iD l)) (c6 := .fr (iD t)) (c7 := .fr (iD u)) (c8 := .fr (iD 6)) (c9 := .fr r90) (c10 := .fr (key (1 + d) v)) (c11 := c11') (c12 := .fr (tl [t, u])) (c13 := .fr (tl [a, q])) (c14 := .fr (iD (2 + r))) (c15 := .ow (.list [iD f0, iD f1, iD f2])) (c16 := .fr (rl (ruleF [f0, f1, f2]))) (c17 := .fr (iD ([f0, f1, f2].sum % (2 + r)))) (c18 := .fr (iD (wideOf (2 + r) k))) (c19 := .fr (tl xs)) (c20 := .fr (tl (itL (2 + r) (ruleF [f0, f1, f2]) xs (wideOf (2 + r) k)))) (c21 := Cell.un) (c22 := .fr wh) (c23 := c23') (c24 := .fr far) (c25 := .fr (rl (otherR (1 + o)))) (c26 := .fr (rl b)) (c27 := Cell.un) (c28 := .fr left) (c29 := .fr right) (c30 := Cell.un) (c31 := Cell.un) (c32 := Cell.un) i7
  refine ex_nx (T1 := T8) (ρ1 := (Cell.un :: Cell.tp :: .fr nearD :: .fr (iD (1 + d)) :: .fr (iD p) :: .fr (iD l) :: .fr (iD t) :: .fr (iD u) :: .fr (iD 6) :: .fr r90 :: .fr (key (1 + d) v) :: c11' :: .fr (tl [t, u]) :: .fr (tl [a, q]) :: .fr (iD (2 + r)) :: .ow (.list [iD f0, iD f1, iD f2]) :: .fr (rl (ruleF [f0, f1, f2])) :: .fr (iD ([f0, f1, f2].sum % (2 + r))) :: .fr (iD (wideOf (2 + r) k)) :: .fr (tl xs) :: .fr (tl (itL (2 + r) (ruleF [f0, f1, f2]) xs (wideOf (2 + r) k))) :: Cell.un :: .fr wh :: c23' :: .fr far :: .fr (rl (otherR (1 + o))) :: .fr (rl b) :: Cell.un :: .fr left :: .fr right :: .fr d4 :: Cell.un :: Cell.un :: [])) (e32) ?_
  refine ex_nx (T1 := T8) (ρ1 := (Cell.un :: Cell.tp :: .fr nearD :: .fr (iD (1 + d)) :: .fr (iD p) :: .fr (iD l) :: .fr (iD t) :: .fr (iD u) :: .fr (iD 6) :: .fr r90 :: .fr (key (1 + d) v) :: c11' :: .fr (tl [t, u]) :: .fr (tl [a, q]) :: .fr (iD (2 + r)) :: .ow (.list [iD f0, iD f1, iD f2]) :: .fr (rl (ruleF [f0, f1, f2])) :: .fr (iD ([f0, f1, f2].sum % (2 + r))) :: .fr (iD (wideOf (2 + r) k)) :: .fr (tl xs) :: .fr (tl (itL (2 + r) (ruleF [f0, f1, f2]) xs (wideOf (2 + r) k))) :: Cell.un :: .fr wh :: c23' :: .fr far :: .fr (rl (otherR (1 + o))) :: .fr (rl b) :: Cell.un :: .fr left :: .fr right :: .fr (rl fr4) :: Cell.un :: Cell.un :: [])) (L33 F4) ?_
  obtain ⟨c31', c32', T9, i9, e34⟩ := L34 (T := T8) (c0 := Cell.un) (c2 := .fr nearD) (c3 := .fr (iD (1 + d))) (c4 := .fr (iD p)) (c5 := .fr (iD l)) (c6 := .fr (iD t)) (c7 := .fr (iD u)) (c8 := .fr (iD 6)) (c9 := .fr r90) (c10 := .fr (key (1 + d) v)) (c11 := c11') (c12 := .fr (tl [t, u])) (c13 := .fr (tl [a, q])) (c14 := .fr (iD (2 + r))) (c15 := .ow (.list [iD f0, iD f1, iD f2])) (c16 := .fr (rl (ruleF [f0, f1, f2]))) (c17 := .fr (iD ([f0, f1, f2].sum % (2 + r)))) (c18 := .fr (iD (wideOf (2 + r) k))) (c19 := .fr (tl xs)) (c20 := .fr (tl (itL (2 + r) (ruleF [f0, f1, f2]) xs (wideOf (2 + r) k)))) (c21 := Cell.un) (c22 := .fr wh) (c23 := c23') (c24 := .fr far) (c25 := .fr (rl (otherR (1 + o)))) (c26 := .fr (rl b)) (c27 := Cell.un) (c28 := .fr left) (c29 := .fr right) (c31 := Cell.un) (c32 := Cell.un) i8 F4
  refine ex_nx (T1 := T9) (ρ1 := (Cell.un :: Cell.tp :: .fr nearD :: .fr (iD (1 + d)) :: .fr (iD p) :: .fr (iD l) :: .fr (iD t) :: .fr (iD u) :: .fr (iD 6) :: .fr r90 :: .fr (key (1 + d) v) :: c11' :: .fr (tl [t, u]) :: .fr (tl [a, q]) :: .fr (iD (2 + r)) :: .ow (.list [iD f0, iD f1, iD f2]) :: .fr (rl (ruleF [f0, f1, f2])) :: .fr (iD ([f0, f1, f2].sum % (2 + r))) :: .fr (iD (wideOf (2 + r) k)) :: .fr (tl xs) :: .fr (tl (itL (2 + r) (ruleF [f0, f1, f2]) xs (wideOf (2 + r) k))) :: Cell.un :: .fr wh :: c23' :: .fr far :: .fr (rl (otherR (1 + o))) :: .fr (rl b) :: Cell.un :: .fr left :: .fr right :: .fr (rl fr4) :: c31' :: c32' :: [])) (e34) ?_
  exact ⟨T9, L35 C hv⟩
end Dv

open PySem PySem.W PyProof.Rows
set_option maxHeartbeats 0 in
theorem PySem.Challenge.cw_shiftsandcells_k41_whole_rounds_of_sums_holds : PySem.Challenge.rw_shiftsandcells_k41_whole_rounds_of_sums.Holds := by
  w_on; o_law; k_head; (case hw => w_witness2)
  k_fill
  refine L2.walk_of (l := PySem.Challenge.rw_shiftsandcells_k41_whole_rounds_of_sums) (n := 63) (k := 6) (x := "script") (CX := fun _ => L2.CX0) (sp := fun w => Dv.spLaw _) rfl (by decide) rfl ⟨rfl, by decide, by decide⟩ (fun w h Y => PySem.W.kIn_of Y) ?F (fun _ _ a ns hl ho hS => ⟨a, ns, rfl, Dv.SqF.of ho hS, hl, fun _ => rfl⟩) (fun _ _ _ _ _ h => h)
  case F =>
    intro w mg fa h KX G hmg
    refine' Dv.all_mk KX G hmg ?x1_0 ?x2_0 ?x3_0 ?x4_0 ?x1_1 ?x2_1 ?x3_1 ?x4_1 ?x1_2 ?x2_2 ?x3_2 ?x4_2 ?x1_3 ?x2_3 ?x3_3 ?x4_3 ?x1_4 ?x2_4 ?x3_4 ?x4_4 ?x1_5 ?x2_5 ?x3_5 ?x4_5 ?x1_6 ?x2_6 ?x3_6 ?x4_6 ?x1_7 ?x2_7 ?x3_7 ?x4_7 ?x1_8 ?x2_8 ?x3_8 ?x4_8 ?x1_9 ?x2_9 ?x3_9 ?x4_9 ?x1_10 ?x2_10 ?x3_10 ?x4_10 ?x1_11 ?x2_11 ?x3_11 ?x4_11 ?x1_12 ?x2_12 ?x3_12 ?x4_12 ?x1_13 ?x2_13 ?x3_13 ?x4_13 ?x1_14 ?x2_14 ?x3_14 ?x4_14 ?x1_15 ?x2_15 ?x3_15 ?x4_15 ?x1_16 ?x2_16 ?x3_16 ?x4_16 ?x1_17 ?x2_17 ?x3_17 ?x4_17 ?x1_18 ?x2_18 ?x3_18 ?x4_18 ?x1_19 ?x2_19 ?x3_19 ?x4_19 ?x1_20 ?x2_20 ?x3_20 ?x4_20 ?x1_21 ?x2_21 ?x3_21 ?x4_21 ?x1_22 ?x2_22 ?x3_22 ?x4_22 ?x1_23 ?x2_23 ?x3_23 ?x4_23 ?x1_24 ?x2_24 ?x3_24 ?x4_24 ?x1_25 ?x2_25 ?x3_25 ?x4_25 ?x1_26 ?x2_26 ?x3_26 ?x4_26 ?x1_27 ?x2_27 ?x3_27 ?x4_27 ?x1_28 ?x2_28 ?x3_28 ?x4_28 ?x1_29 ?x2_29 ?x3_29 ?x4_29 ?x1_30 ?x2_30 ?x3_30 ?x4_30 ?x1_31 ?x2_31 ?x3_31 ?x4_31 ?x1_32 ?x2_32 ?x3_32 ?x4_32 ?x1_33 ?x2_33 ?x3_33 ?x4_33 ?x1_34 ?x2_34 ?x3_34 ?x4_34 ?x1_35 ?x2_35 ?x3_35 ?x4_35 ?z_abs ?z_all ?z_dict ?z_int ?z_len ?z_list ?z_range ?z_sorted ?z_str ?z_sum ?z_tuple ?z_zip ?u_DIGITS ?u_MOST_MODULUS ?u_MOST_RING ?u_MOST_SPREAD ?u_MOST_TABLE Dv.law_math
    (case x1_0 => k_is); (case x2_0 => k_is); (case x3_0 => k_is); (case x4_0 => k_is); (case x1_1 => k_is); (case x2_1 => k_is); (case x3_1 => k_is); (case x4_1 => k_is); (case x1_2 => k_is); (case x2_2 => k_is); (case x3_2 => k_is); (case x4_2 => k_is); (case x1_3 => k_is); (case x2_3 => k_is); (case x3_3 => k_is); (case x4_3 => k_is); (case x1_4 => k_is); (case x2_4 => k_is); (case x3_4 => k_is); (case x4_4 => k_is); (case x1_5 => k_is); (case x2_5 => k_is); (case x3_5 => k_is); (case x4_5 => k_is); (case x1_6 => k_is); (case x2_6 => k_is); (case x3_6 => k_is); (case x4_6 => k_is); (case x1_7 => k_is); (case x2_7 => k_is); (case x3_7 => k_is); (case x4_7 => k_is); (case x1_8 => k_is); (case x2_8 => k_is); (case x3_8 => k_is); (case x4_8 => k_is); (case x1_9 => k_is); (case x2_9 => k_is); (case x3_9 => k_is); (case x4_9 => k_is); (case x1_10 => k_is); (case x2_10 => k_is); (case x3_10 => k_is); (case x4_10 => k_is); (case x1_11 => k_is); (case x2_11 => k_is); (case x3_11 => k_is); (case x4_11 => k_is); (case x1_12 => k_is); (case x2_12 => k_is); (case x3_12 => k_is); (case x4_12 => k_is); (case x1_13 => k_is); (case x2_13 => k_is); (case x3_13 => k_is); (case x4_13 => k_is); (case x1_14 => k_is); (case x2_14 => k_is); (case x3_14 => k_is); (case x4_14 => k_is); (case x1_15 => k_is); (case x2_15 => k_is); (case x3_15 => k_is); (case x4_15 => k_is); (case x1_16 => k_is); (case x2_16 => k_is); (case x3_16 => k_is); (case x4_16 => k_is); (case x1_17 => k_is); (case x2_17 => k_is); (case x3_17 => k_is); (case x4_17 => k_is); (case x1_18 => k_is); (case x2_18 => k_is); (case x3_18 => k_is); (case x4_18 => k_is); (case x1_19 => k_is); (case x2_19 => k_is); (case x3_19 => k_is); (case x4_19 => k_is); (case x1_20 => k_is); (case x2_20 => k_is); (case x3_20 => k_is); (case x4_20 => k_is); (case x1_21 => k_is); (case x2_21 => k_is); (case x3_21 => k_is); (case x4_21 => k_is); (case x1_22 => k_is); (case x2_22 => k_is); (case x3_22 => k_is); (case x4_22 => k_is); (case x1_23 => k_is); (case x2_23 => k_is); (case x3_23 => k_is); (case x4_23 => k_is); (case x1_24 => k_is); (case x2_24 => k_is); (case x3_24 => k_is); (case x4_24 => k_is); (case x1_25 => k_is); (case x2_25 => k_is); (case x3_25 => k_is); (case x4_25 => k_is); (case x1_26 => k_is); (case x2_26 => k_is); (case x3_26 => k_is); (case x4_26 => k_is); (case x1_27 => k_is); (case x2_27 => k_is); (case x3_27 => k_is); (case x4_27 => k_is); (case x1_28 => k_is); (case x2_28 => k_is); (case x3_28 => k_is); (case x4_28 => k_is); (case x1_29 => k_is); (case x2_29 => k_is); (case x3_29 => k_is); (case x4_29 => k_is); (case x1_30 => k_is); (case x2_30 => k_is); (case x3_30 => k_is); (case x4_30 => k_is); (case x1_31 => k_is); (case x2_31 => k_is); (case x3_31 => k_is); (case x4_31 => k_is); (case x1_32 => k_is); (case x2_32 => k_is); (case x3_32 => k_is); (case x4_32 => k_is); (case x1_33 => k_is); (case x2_33 => k_is); (case x3_33 => k_is); (case x4_33 => k_is); (case x1_34 => k_is); (case x2_34 => k_is); (case x3_34 => k_is); (case x4_34 => k_is); (case x1_35 => k_is); (case x2_35 => k_is); (case x3_35 => k_is); (case x4_35 => k_is); (case z_abs => k_is); (case z_all => k_is); (case z_dict => k_is); (case z_int => k_is); (case z_len => k_is); (case z_list => k_is); (case z_range => k_is); (case z_sorted => k_is); (case z_str => k_is); (case z_sum => k_is); (case z_tuple => k_is); (case z_zip => k_is); (case u_DIGITS => k_is); (case u_MOST_MODULUS => k_is); (case u_MOST_RING => k_is); (case u_MOST_SPREAD => k_is); (case u_MOST_TABLE => k_is)

