import PyProof.Rows.All
import Wide.All
import OpenK.AllK
import Wide.FinOn
import HandS.Dict
import HandS.DictComp
import HandS.ForMost
import HandS.Replace
import HandS.ReplaceList
import HandS.ReplaceLit
import HandS.Rev
import HandS.Style
import HandS.Text
import HandS.TupAny
import HandS.TupLen
import HandS.Wide
import KE.GoesEnum
import PyProof.ToksMono
import PySem.Challenge.RW_shiftsandcells_k47_whole_slopes_between
set_option Elab.async false
set_option linter.all false
set_option maxRecDepth 100000
/-! Dv1: pure values over the hand layer: what a value stands for (Rep), frames as lists of cells (Env), readings by pure functions. -/
namespace Dv
open PySem PySem.Spec PyProof.Rows L2

abbrev D := PyData
abbrev OS := Addr → Prop

def keyD : Key → D
  | .inl i => .int i
  | .inr x => .str x
def keyTD (k : List Key) : D := .tuple (k.map keyD)

mutual
/-- v stands for d in H, away from what is owned -/
inductive Rep (K : PySem.W.Frag) (O : OS) (H : Hp) : V → D → Prop
  | non : Rep K O H .non .none
  | bl (b : Bool) : Rep K O H (.bl b) (.bool b)
  | int (i : Int) : Rep K O H (.int i) (.int i)
  | str (x : Str) : Rep K O H (.str x) (.str x)
  | lst {a : Addr} {xs : List V} {ds : List D} : ¬ O a → H a = some (.lst xs) → RepL K O H xs ds → Rep K O H (.ref a) (.list ds)
  | tup {a : Addr} {xs : List V} {ds : List D} : SqT K H a xs → RepL K O H xs ds → Rep K O H (.ref a) (.tuple ds)
  | dK {a : Addr} {kvs : List (Key × V)} {es : List (D × D)} : ¬ O a → H a = some (.dK kvs) → RepK K O H kvs es → Rep K O H (.ref a) (.dict es)
  | dT {a : Addr} {kvs : List (List Key × V)} {es : List (D × D)} : ¬ O a → H a = some (.dT kvs) → RepT K O H kvs es → Rep K O H (.ref a) (.dict es)
inductive RepL (K : PySem.W.Frag) (O : OS) (H : Hp) : List V → List D → Prop
  | nil : RepL K O H [] []
  | cons {v : V} {vs : List V} {d : D} {ds : List D} : Rep K O H v d → RepL K O H vs ds → RepL K O H (v :: vs) (d :: ds)
inductive RepK (K : PySem.W.Frag) (O : OS) (H : Hp) : List (Key × V) → List (D × D) → Prop
  | nil : RepK K O H [] []
  | cons {k : Key} {v : V} {kvs : List (Key × V)} {d : D} {es : List (D × D)} : Rep K O H v d → RepK K O H kvs es → RepK K O H ((k, v) :: kvs) ((keyD k, d) :: es)
inductive RepT (K : PySem.W.Frag) (O : OS) (H : Hp) : List (List Key × V) → List (D × D) → Prop
  | nil : RepT K O H [] []
  | cons {k : List Key} {v : V} {kvs : List (List Key × V)} {d : D} {es : List (D × D)} : Rep K O H v d → RepT K O H kvs es → RepT K O H ((k, v) :: kvs) ((keyTD k, d) :: es)
end

/-- what is never changed -/
def Fix : HO → Prop
  | .tup _ => True
  | .frz _ _ => True
  | _ => False
/-- all stands but what S may change -/
def Xt (S : OS) (H H' : Hp) : Prop := ∀ a o, H a = some o → (¬ S a ∨ Fix o) → H' a = some o
theorem Xt.refl {S : OS} (H : Hp) : Xt S H H := fun _ _ h _ => h
theorem Xt.trans {S S' : OS} {H H1 H2 : Hp} (a : Xt S H H1) (b : Xt S' H1 H2) (h : ∀ x, S' x → H x ≠ none → S x) : Xt S H H2 := fun x o e n => by
  refine b x o (a x o e n) ?_
  rcases n with n | n
  · exact .inl fun z => n (h x z (by rw [e]; simp))
  · exact .inr n
theorem Xt.tr {S : OS} {H H1 H2 : Hp} (a : Xt S H H1) (b : Xt S H1 H2) : Xt S H H2 := a.trans b fun _ h _ => h
theorem Xt.mono {S S' : OS} {H H1 : Hp} (a : Xt S H H1) (h : ∀ x, S x → S' x) : Xt S' H H1 := fun x o e n => a x o e (n.imp (fun z w => z (h x w)) id)
theorem Xt.ofSame {S : OS} {H H' : Hp} (h : Same H H') : Xt S H H' := fun a o e _ => h a o e
theorem Xt.new {S : OS} {H : Hp} {p : Addr} {o : HO} (h : H p = none) : Xt S H (upd H p o) := fun a u e _ => by
  rw [upd_ne (ne_of_none e h)]; exact e
theorem Xt.wr {S : OS} {H : Hp} {p : Addr} {o u : HO} (hs : S p) (hp : H p = some u) (nf : ¬ Fix u) : Xt S H (upd H p o) := fun a w e n => by
  by_cases ha : a = p
  · subst ha
    rw [hp] at e; cases e
    exact absurd (n.resolve_left fun z => z hs) nf
  · rw [upd_ne ha]; exact e
theorem Xt.dom {S : OS} {H H' : Hp} (x : Xt S H H') {a : Addr} {o : HO} (h : H a = some o) (n : ¬ S a) : H' a ≠ none := by
  rw [x a o h (.inl n)]; simp

theorem Xt.rd {S : OS} {H H' : Hp} {a : Addr} {xs : List V} (x : Xt S H H') (h : Rd H a (.tup xs)) : Rd H' a (.tup xs) := by
  rcases h with h | ⟨o, h⟩
  · exact .inl (x _ _ h (.inr trivial))
  · exact .inr ⟨o, x _ _ h (.inr trivial)⟩
theorem Xt.sqT {S : OS} {K : PySem.W.Frag} {H H' : Hp} {a : Addr} {xs : List V} (x : Xt S H H') (h : SqT K H a xs) : SqT K H' a xs := by
  rcases h with h | h
  · exact .inl (x.rd h)
  · exact .inr h

mutual
/-- a value stays: what changes is owned; the new owned set may be less, or more by what was not there -/
theorem Rep.go {K : PySem.W.Frag} {O O' S : OS} {H H' : Hp} (x : Xt S H H') (hS : ∀ a, S a → H a ≠ none → O a) (hO : ∀ a, O' a → O a ∨ H a = none) : ∀ {d : D} {v : V}, Rep K O H v d → Rep K O' H' v d
  | .none, _, .non => .non
  | .bool _, _, .bl b => .bl b
  | .int _, _, .int i => .int i
  | .str _, _, .str y => .str y
  | .list ds, _, .lst (xs := xs) n e r => by
    refine .lst (fun z => ?_) (x _ _ e (.inl fun z => n (hS _ z (by rw [e]; simp)))) (RepL.go x hS hO r)
    rcases hO _ z with q | q
    · exact n q
    · rw [e] at q; cases q
  | .tuple ds, _, .tup (xs := xs) e r => .tup (x.sqT e) (RepL.go x hS hO r)
  | .dict es, _, .dK n e r => by
    refine .dK (fun z => ?_) (x _ _ e (.inl fun z => n (hS _ z (by rw [e]; simp)))) (RepK.go x hS hO r)
    rcases hO _ z with q | q
    · exact n q
    · rw [e] at q; cases q
  | .dict es, _, .dT n e r => by
    refine .dT (fun z => ?_) (x _ _ e (.inl fun z => n (hS _ z (by rw [e]; simp)))) (RepT.go x hS hO r)
    rcases hO _ z with q | q
    · exact n q
    · rw [e] at q; cases q
theorem RepL.go {K : PySem.W.Frag} {O O' S : OS} {H H' : Hp} (x : Xt S H H') (hS : ∀ a, S a → H a ≠ none → O a) (hO : ∀ a, O' a → O a ∨ H a = none) : ∀ {ds : List D} {vs : List V}, RepL K O H vs ds → RepL K O' H' vs ds
  | [], _, .nil => .nil
  | _ :: _, _, .cons r q => .cons (Rep.go x hS hO r) (RepL.go x hS hO q)
theorem RepK.go {K : PySem.W.Frag} {O O' S : OS} {H H' : Hp} (x : Xt S H H') (hS : ∀ a, S a → H a ≠ none → O a) (hO : ∀ a, O' a → O a ∨ H a = none) : ∀ {es : List (D × D)} {vs : List (Key × V)}, RepK K O H vs es → RepK K O' H' vs es
  | [], _, .nil => .nil
  | (_, _) :: _, _, .cons r q => .cons (Rep.go x hS hO r) (RepK.go x hS hO q)
theorem RepT.go {K : PySem.W.Frag} {O O' S : OS} {H H' : Hp} (x : Xt S H H') (hS : ∀ a, S a → H a ≠ none → O a) (hO : ∀ a, O' a → O a ∨ H a = none) : ∀ {es : List (D × D)} {vs : List (List Key × V)}, RepT K O H vs es → RepT K O' H' vs es
  | [], _, .nil => .nil
  | (_, _) :: _, _, .cons r q => .cons (Rep.go x hS hO r) (RepT.go x hS hO q)
end
end Dv

/-! Dv2: frames, the tape, readings by pure functions, expressions. -/
namespace Dv
open PySem PySem.Spec PyProof.Rows L2

/-- a slot: nothing known, a value that is never changed again, a list or dict that this slot alone holds, the tape -/
inductive Cell where
  | un | fr (d : D) | ow (d : D) | tp
abbrev Rho := List Cell
structure Tp where
  cells : List Int
  idx : Int
  left : Int
  seed : Int
  salt : Int

def tS (τ : Option Addr) : OS := fun a => τ = some a
def addO (O : OS) (p : Addr) : OS := fun a => O a ∨ a = p
def delO (O : OS) (p : Addr) : OS := fun a => O a ∧ a ≠ p

/-- the list or dict at a, owned, and all it holds away from what is owned -/
inductive Top (K : PySem.W.Frag) (O : OS) (H : Hp) (a : Addr) : D → Prop
  | lst {xs : List V} {ds : List D} : H a = some (.lst xs) → RepL K O H xs ds → Top K O H a (.list ds)
  | dK {kvs : List (Key × V)} {es : List (D × D)} : H a = some (.dK kvs) → RepK K O H kvs es → Top K O H a (.dict es)
  | dT {kvs : List (List Key × V)} {es : List (D × D)} : H a = some (.dT kvs) → RepT K O H kvs es → Top K O H a (.dict es)
theorem Top.go {K : PySem.W.Frag} {O O' S : OS} {H H' : Hp} {a : Addr} {d : D} (x : Xt S H H') (hS : ∀ a, S a → H a ≠ none → O a) (hO : ∀ a, O' a → O a ∨ H a = none) (na : ¬ S a) : Top K O H a d → Top K O' H' a d
  | .lst e r => .lst (x _ _ e (.inl na)) (RepL.go x hS hO r)
  | .dK e r => .dK (x _ _ e (.inl na)) (RepK.go x hS hO r)
  | .dT e r => .dT (x _ _ e (.inl na)) (RepT.go x hS hO r)
theorem Top.rep {K : PySem.W.Frag} {O : OS} {H : Hp} {a : Addr} {d : D} (n : ¬ O a) : Top K O H a d → Rep K O H (.ref a) d
  | .lst e r => .lst n e r
  | .dK e r => .dK n e r
  | .dT e r => .dT n e r
theorem Top.some {K : PySem.W.Frag} {O : OS} {H : Hp} {a : Addr} {d : D} : Top K O H a d → ∃ o, H a = some o ∧ ¬ Fix o
  | .lst e r => ⟨_, e, id⟩
  | .dK e r => ⟨_, e, id⟩
  | .dT e r => ⟨_, e, id⟩

def tapeHO (c : Addr) (T : Tp) : HO := .dK [(.inr "cells", .ref c), (.inr "at", .int T.idx), (.inr "left", .int T.left), (.inr "seed", .int T.seed), (.inr "salt", .int T.salt)]
def TpOk (O : OS) (τ : Option Addr) (H : Hp) (T : Tp) : Prop := ∀ p, τ = some p → O p ∧ ∃ c, H p = some (tapeHO c T) ∧ ¬ O c ∧ H c = some (.lst (T.cells.map V.int))
theorem TpOk.go {O O' S : OS} {τ : Option Addr} {H H' : Hp} {T : Tp} (x : Xt S H H') (hS : ∀ a, S a → H a ≠ none → O a ∧ τ ≠ some a) (hO : ∀ a, O' a → O a ∨ H a = none) (hp : ∀ p, τ = some p → O' p) (h : TpOk O τ H T) : TpOk O' τ H' T := fun p e => by
  obtain ⟨o, c, h1, h2, h3⟩ := h p e
  refine ⟨hp p e, c, x _ _ h1 (.inl fun z => (hS _ z (by rw [h1]; simp)).2 e), fun z => ?_, x _ _ h3 (.inl fun z => h2 (hS _ z (by rw [h3]; simp)).1)⟩
  rcases hO _ z with q | q
  · exact h2 q
  · rw [h3] at q; cases q

theorem TpOk.less {O : OS} {τ : Option Addr} {H : Hp} {T : Tp} {p : Addr} (t : TpOk (addO O p) τ H T) (h : ∀ a, tS τ a → O a) : TpOk O τ H T := fun q e => by
  obtain ⟨_, c, h1, h2, h3⟩ := t q e
  exact ⟨h q e, c, h1, fun z => h2 (.inl z), h3⟩
theorem TpOk.more {O : OS} {τ : Option Addr} {H : Hp} {T : Tp} {p : Addr} {o : HO} (t : TpOk O τ H T) (hp : H p = none) : TpOk (addO O p) τ (upd H p o) T := fun q e => by
  obtain ⟨h0, c, h1, h2, h3⟩ := t q e
  refine ⟨.inl h0, c, by rw [upd_ne (ne_of_none h1 hp)]; exact h1, fun z => ?_, by rw [upd_ne (ne_of_none h3 hp)]; exact h3⟩
  rcases z with z | z
  · exact h2 z
  · exact ne_of_none h3 hp z
/-- the state: G the heap at the def's entry, B what the callers own, O what is owned in all, τ the tape's place -/
structure Sta (K : PySem.W.Frag) (G : Hp) (B O : OS) (τ : Option Addr) (σ : L2.St) (H : Hp) (ρ : Rho) (T : Tp) : Prop where
  len : σ.length = ρ.length
  fr : ∀ (i : Nat) (d : D), ρ[i]? = some (.fr d) → ∃ v, σ[i]? = some (some v) ∧ Rep K O H v d
  ow : ∀ (i : Nat) (d : D), ρ[i]? = some (.ow d) → ∃ a, σ[i]? = some (some (.ref a)) ∧ O a ∧ ¬ B a ∧ G a = none ∧ τ ≠ some a ∧ Top K O H a d
  sep : ∀ (i j : Nat) (d d' : D) (a : Addr), ρ[i]? = some (.ow d) → ρ[j]? = some (.ow d') → σ[i]? = some (some (.ref a)) → σ[j]? = some (some (.ref a)) → i = j
  tp : ∀ (i : Nat), ρ[i]? = some .tp → ∃ p, τ = some p ∧ σ[i]? = some (some (.ref p))
  tok : TpOk O τ H T
  tb : ∀ p, τ = some p → B p
  dom : ∀ a, O a → H a ≠ none
  gb : ∀ a, B a → O a
  gd : ∀ a, B a → G a ≠ none
  gk : Xt (tS τ) G H
section
variable {K : PySem.W.Frag} {G : Hp} {B O O' : OS} {τ : Option Addr} {σ : L2.St} {H H' : Hp} {ρ : Rho} {T T' : Tp}
theorem Sta.tO (E : Sta K G B O τ σ H ρ T) : ∀ a, tS τ a → O a := fun a h => E.gb a (E.tb a h)
/-- the heap grows, the tape turns -/
theorem Sta.step (E : Sta K G B O τ σ H ρ T) (x : Xt (tS τ) H H') (t : TpOk O τ H' T') : Sta K G B O τ σ H' ρ T' where
  len := E.len
  fr := fun i d h => by
    obtain ⟨v, e, r⟩ := E.fr i d h
    exact ⟨v, e, r.go x (fun a z _ => E.tO a z) fun a z => .inl z⟩
  ow := fun i d h => by
    obtain ⟨a, e, oa, nb, ga, ta, r⟩ := E.ow i d h
    exact ⟨a, e, oa, nb, ga, ta, r.go x (fun a z _ => E.tO a z) (fun a z => .inl z) ta⟩
  sep := E.sep
  tp := E.tp
  tok := t
  tb := E.tb
  dom := fun a z => by
    cases q : H a with
    | none => exact absurd q (E.dom a z)
    | some o =>
      by_cases hs : tS τ a
      · obtain ⟨_, c, h1, _⟩ := t a hs
        rw [h1]; simp
      · exact x.dom q hs
  gb := E.gb
  gd := E.gd
  gk := E.gk.tr x
theorem Sta.grow (E : Sta K G B O τ σ H ρ T) (x : Xt (fun _ => False) H H') : Sta K G B O τ σ H' ρ T :=
  E.step (x.mono fun _ z => z.elim) (E.tok.go x (fun _ z _ => z.elim) (fun _ z => .inl z) fun p e => E.tO p e)
end

/-- no owned set but the tape's -/
abbrev Gr := Xt fun _ => False
theorem Gr.new {H : Hp} {p : Addr} {o : HO} (h : H p = none) : Gr H (upd H p o) := Xt.new h

def RepB (K : PySem.W.Frag) (O : OS) (H : Hp) (v : V) (d : D) : Prop := Rep K O H v d ∨ ∃ p, v = .ref p ∧ Top K O H p d
inductive RepBL (K : PySem.W.Frag) (O : OS) (H : Hp) : List V → List D → Prop
  | nil : RepBL K O H [] []
  | cons {v : V} {vs : List V} {d : D} {ds : List D} : RepB K O H v d → RepBL K O H vs ds → RepBL K O H (v :: vs) (d :: ds)
def RepBT (K : PySem.W.Frag) (O : OS) (τ : Option Addr) (H : Hp) (v : V) (d : D) : Prop := Rep K O H v d ∨ ∃ p, v = .ref p ∧ τ ≠ some p ∧ Top K O H p d
theorem RepBT.b {K : PySem.W.Frag} {O : OS} {τ : Option Addr} {H : Hp} {v : V} {d : D} (h : RepBT K O τ H v d) : RepB K O H v d := h.imp id fun ⟨p, e, _, t⟩ => ⟨p, e, t⟩
/-! ### readings -/
abbrev FE := Rho → Tp → Option (D × Tp)
abbrev FT := Rho → Tp → Option (Bool × Tp)
abbrev FA := Rho → Tp → Option (List D × Tp)
/-- an expression gives a value that is not changed any more -/
def rdE (K : PySem.W.Frag) (f : FE) : TE := fun σ H Q => ∃ G B O τ ρ T d T', Sta K G B O τ σ H ρ T ∧ f ρ T = some (d, T') ∧
  ∀ v H', Xt (tS τ) H H' → TpOk O τ H' T' → Rep K O H' v d → Q v H'
def rdT (K : PySem.W.Frag) (f : FT) : TT := fun σ H Q => ∃ G B O τ ρ T d T', Sta K G B O τ σ H ρ T ∧ f ρ T = some (d, T') ∧
  ∀ H', Xt (tS τ) H H' → TpOk O τ H' T' → Q d H'
def rdA (K : PySem.W.Frag) (f : FA) : TA := fun σ H Q => ∃ G B O τ ρ T ds T', Sta K G B O τ σ H ρ T ∧ f ρ T = some (ds, T') ∧
  ∀ vs H', Xt (tS τ) H H' → TpOk O τ H' T' → RepL K O H' vs ds → Q vs H'
/-- an expression gives a new list or dict -/
def rdN (K : PySem.W.Frag) (f : FE) : TE := fun σ H Q => ∃ G B O τ ρ T d T', Sta K G B O τ σ H ρ T ∧ f ρ T = some (d, T') ∧
  ∀ p H', H p = none → Xt (tS τ) H H' → TpOk (addO O p) τ H' T' → Top K (addO O p) H' p d → Q (.ref p) H'
/-- a list or dict that is looked at for the moment: one's own, or any other -/
def rdB (K : PySem.W.Frag) (f : FE) : TE := fun σ H Q => ∃ G B O τ ρ T d T', Sta K G B O τ σ H ρ T ∧ f ρ T = some (d, T') ∧
  ∀ v H', Xt (tS τ) H H' → TpOk O τ H' T' → RepBT K O τ H' v d → Q v H'

/-- arguments that are looked at -/
def rdAB (K : PySem.W.Frag) (f : FA) : TA := fun σ H Q => ∃ G B O τ ρ T ds T', Sta K G B O τ σ H ρ T ∧ f ρ T = some (ds, T') ∧
  ∀ vs H', Xt (tS τ) H H' → TpOk O τ H' T' → RepBL K O H' vs ds → Q vs H'
structure SE (X : Cx) (e : Expr) (f : FE) : Prop where
  pe : PE X e (rdE X.K f)
structure SN (X : Cx) (e : Expr) (f : FE) : Prop where
  pe : PE X e (rdN X.K f)
structure SB (X : Cx) (e : Expr) (f : FE) : Prop where
  pe : PE X e (rdB X.K f)
structure ST (X : Cx) (e : Expr) (f : FT) : Prop where
  pe : PT X e (rdT X.K f)
structure SA (X : Cx) (es : List Expr) (f : FA) : Prop where
  pe : PA X es (rdA X.K f)
structure SAB (X : Cx) (es : List Expr) (f : FA) : Prop where
  pe : PA X es (rdAB X.K f)

section
variable {X : Cx} {e a b : Expr} {f fa fb : FE} {pos : Pos}
theorem PE.imp {t u : TE} (h : PE X e t) (w : ∀ σ H Q, u σ H Q → t σ H Q) : PE X e u := ⟨fun pins s σ H Q I q => h.run pins s σ H Q I (w σ H Q q)⟩
theorem PT.imp {t u : TT} (h : PT X e t) (w : ∀ σ H Q, u σ H Q → t σ H Q) : PT X e u := ⟨fun pins s σ H Q I q => h.run pins s σ H Q I (w σ H Q q)⟩
theorem PA.imp {es : List Expr} {t u : TA} (h : PA X es t) (w : ∀ σ H Q, u σ H Q → t σ H Q) : PA X es u := ⟨fun pos pins s σ H Q I q => h.run pos pins s σ H Q I (w σ H Q q)⟩

theorem addO_new {O : OS} {H : Hp} {p : Addr} (hp : H p = none) : ∀ a, addO O p a → O a ∨ H a = none := fun a z => z.imp id fun e => by rw [e]; exact hp
/-- a new thing is a value -/
theorem SN.se (h : SN X e f) : SE X e f := ⟨PE.imp h.pe fun σ H Q ⟨G, B, O, τ, ρ, T, d, T', E, hf, q⟩ => ⟨G, B, O, τ, ρ, T, d, T', E, hf, fun p H' hp x t r =>
  q _ _ x (t.less E.tO) ((r.go (Xt.refl H') (S := fun _ => False) (fun _ z => z.elim) (fun a z => .inl (.inl z)) id).rep fun z => E.dom p z hp)⟩⟩
theorem SE.sb (h : SE X e f) : SB X e f := ⟨PE.imp h.pe fun σ H Q ⟨G, B, O, τ, ρ, T, d, T', E, hf, q⟩ => ⟨G, B, O, τ, ρ, T, d, T', E, hf, fun v H' x t r => q _ _ x t (.inl r)⟩⟩

/-! ### names, constants -/
def eVar (i : Nat) : FE := fun ρ T => match ρ[i]? with
  | some (.fr d) => some (d, T)
  | _ => none
def eOwn (i : Nat) : FE := fun ρ T => match ρ[i]? with
  | some (.fr d) => some (d, T)
  | some (.ow d) => some (d, T)
  | _ => none
def eC (d : D) : FE := fun _ T => some (d, T)
theorem se_var' {i : Nat} (h : PE X e (tVar i)) : SE X e (eVar i) := ⟨PE.imp h fun σ H Q ⟨G, B, O, τ, ρ, T, d, T', E, hf, q⟩ => by
  unfold eVar at hf
  split at hf
  · rename_i d' e1
    cases hf
    obtain ⟨v, e2, r⟩ := E.fr i d e1
    exact ⟨v, e2, q v H (Xt.refl H) E.tok r⟩
  · cases hf⟩
theorem sb_var' {i : Nat} (h : PE X e (tVar i)) : SB X e (eOwn i) := ⟨PE.imp h fun σ H Q ⟨G, B, O, τ, ρ, T, d, T', E, hf, q⟩ => by
  unfold eOwn at hf
  split at hf
  · rename_i d' e1
    cases hf
    obtain ⟨v, e2, r⟩ := E.fr i d e1
    exact ⟨v, e2, q v H (Xt.refl H) E.tok (.inl r)⟩
  · rename_i d' e1
    cases hf
    obtain ⟨a, e2, _, _, _, ta, r⟩ := E.ow i d e1
    exact ⟨_, e2, q _ H (Xt.refl H) E.tok (.inr ⟨a, rfl, ta, r⟩)⟩
  · cases hf⟩
theorem sv (i : Nat) {x : Str} {pos : Pos} (hN : X.N[i]? = some x := by rfl) (hv : Vis X.env.scope x := by first | exact Or.inl rfl | exact Or.inr (Or.inl rfl) | exact Or.inr (Or.inr rfl)) (hd : (x == ("__debug__" : Str)) = false := by decide)
    (hcd : (x == ("__classdict__" : Str)) = false := by decide) : SE X (.Name x pos) (eVar i) := se_var' (pe_var hN hv hd hcd)
theorem sbv (i : Nat) {x : Str} {pos : Pos} (hN : X.N[i]? = some x := by rfl) (hv : Vis X.env.scope x := by first | exact Or.inl rfl | exact Or.inr (Or.inl rfl) | exact Or.inr (Or.inr rfl)) (hd : (x == ("__debug__" : Str)) = false := by decide)
    (hcd : (x == ("__classdict__" : Str)) = false := by decide) : SB X (.Name x pos) (eOwn i) := sb_var' (pe_var hN hv hd hcd)
theorem se_c' {v : V} {d : D} (h : PE X e (tC v)) (r : ∀ K O H, Rep K O H v d) : SE X e (eC d) := ⟨PE.imp h fun σ H Q ⟨G, B, O, τ, ρ, T, d, T', E, hf, q⟩ => by
  cases hf
  exact q v H (Xt.refl H) E.tok (r _ _ _)⟩
theorem se_int {i j pos} : SE X (.Constant (.int i) j pos) (eC (.int i)) := se_c' pe_int fun _ _ _ => .int i
theorem se_bl {b j pos} : SE X (.Constant (.bool b) j pos) (eC (.bool b)) := se_c' pe_bl fun _ _ _ => .bl b
theorem se_non {j pos} : SE X (.Constant .none j pos) (eC .none) := se_c' pe_non fun _ _ _ => .non
theorem se_str {x j pos} : SE X (.Constant (.str x) j pos) (eC (.str x)) := se_c' pe_str fun _ _ _ => .str x

/-! ### two operands -/
def e2 (g : D → D → Option D) (fa fb : FE) : FE := fun ρ T => match fa ρ T with
  | none => none
  | some (x, T1) => match fb ρ T1 with
    | none => none
    | some (y, T2) => match g x y with
      | none => none
      | some z => some (z, T2)
/-- an operation on values: for g's values the reading r may be answered; the heap may grow -/
def Op2 (K : PySem.W.Frag) (r : R2) (g : D → D → Option D) : Prop := ∀ (O : OS) (H : Hp) (x y : V) (dx dy d : D) (Q : VK), (∀ a, O a → H a ≠ none) → RepB K O H x dx → RepB K O H y dy → g dx dy = some d →
  (∀ v H', Gr H H' → Rep K O H' v d → Q v H') → r x y H Q
/-- .. that gives a new thing -/
def Op2N (K : PySem.W.Frag) (r : R2) (g : D → D → Option D) : Prop := ∀ (O : OS) (H : Hp) (x y : V) (dx dy d : D) (Q : VK), (∀ a, O a → H a ≠ none) → RepB K O H x dx → RepB K O H y dy → g dx dy = some d →
  (∀ p o, H p = none → Top K (addO O p) (upd H p o) p d → Q (.ref p) (upd H p o)) → r x y H Q
theorem Rep.step {K : PySem.W.Frag} {G : Hp} {B O : OS} {τ : Option Addr} {σ : L2.St} {H H1 : Hp} {ρ : Rho} {T : Tp} {v : V} {d : D} (E : Sta K G B O τ σ H ρ T) (x : Xt (tS τ) H H1) (r : Rep K O H v d) : Rep K O H1 v d := r.go x (fun a z _ => E.tO a z) fun _ z => .inl z
theorem RepBT.step {K : PySem.W.Frag} {G : Hp} {B O : OS} {τ : Option Addr} {σ : L2.St} {H H1 : Hp} {ρ : Rho} {T : Tp} {v : V} {d : D} (E : Sta K G B O τ σ H ρ T) (x : Xt (tS τ) H H1) (r : RepBT K O τ H v d) : RepBT K O τ H1 v d := by
  rcases r with r | ⟨p, e, n, r⟩
  · exact .inl (r.step E x)
  · exact .inr ⟨p, e, n, r.go x (fun a z _ => E.tO a z) (fun _ z => .inl z) n⟩
theorem TpOk.gr {O : OS} {τ : Option Addr} {H H' : Hp} {T : Tp} (h : TpOk O τ H T) (x : Gr H H') : TpOk O τ H' T := h.go x (fun _ z _ => z.elim) (fun _ z => .inl z) fun p e => (h p e).1
theorem e2_some {g : D → D → Option D} {ρ : Rho} {T T' : Tp} {d : D} (h : e2 g fa fb ρ T = some (d, T')) : ∃ dx T1 dy, fa ρ T = some (dx, T1) ∧ fb ρ T1 = some (dy, T') ∧ g dx dy = some d := by
  unfold e2 at h
  split at h
  · cases h
  rename_i dx T1 h1
  split at h
  · cases h
  rename_i dy T2 h2
  split at h
  · cases h
  rename_i z h3
  cases h
  exact ⟨dx, T1, dy, h1, h2, h3⟩
theorem tOp_of {K : PySem.W.Frag} {r : R2} {g : D → D → Option D} (ho : Op2 K r g) (σ : L2.St) (H : Hp) (Q : VK) (h : rdE K (e2 g fa fb) σ H Q) : tOp r (rdB K fa) (rdB K fb) σ H Q := by
  obtain ⟨G, B, O, τ, ρ, T, d, T', E, hf, q⟩ := h
  obtain ⟨dx, T1, dy, h1, h2, h3⟩ := e2_some hf
  refine ⟨G, B, O, τ, ρ, T, dx, T1, E, h1, fun x H1 x1 t1 r1 => ⟨G, B, O, τ, ρ, T1, dy, T', E.step x1 t1, h2, fun y H2 x2 t2 r2 => ?_⟩⟩
  have E1 := E.step x1 t1
  refine ho O H2 x y dx dy d Q (E1.step x2 t2).dom (r1.step E1 x2).b r2.b h3 fun v H' x3 r3 => q v H' ((x1.tr x2).tr (x3.mono fun _ z => z.elim)) (t2.gr x3) r3
theorem tOp_ofN {K : PySem.W.Frag} {r : R2} {g : D → D → Option D} (ho : Op2N K r g) (σ : L2.St) (H : Hp) (Q : VK) (h : rdN K (e2 g fa fb) σ H Q) : tOp r (rdB K fa) (rdB K fb) σ H Q := by
  obtain ⟨G, B, O, τ, ρ, T, d, T', E, hf, q⟩ := h
  obtain ⟨dx, T1, dy, h1, h2, h3⟩ := e2_some hf
  refine ⟨G, B, O, τ, ρ, T, dx, T1, E, h1, fun x H1 x1 t1 r1 => ⟨G, B, O, τ, ρ, T1, dy, T', E.step x1 t1, h2, fun y H2 x2 t2 r2 => ?_⟩⟩
  have E1 := E.step x1 t1
  refine ho O H2 x y dx dy d Q (E1.step x2 t2).dom (r1.step E1 x2).b r2.b h3 fun p o hp tt => ?_
  have hp0 : H p = none := by
    cases e : H p with
    | none => rfl
    | some u =>
      by_cases hs : tS τ p
      · exact absurd hp ((E1.step x2 t2).dom p (E.tO p hs))
      · have := (x1.tr x2) p u e (.inl hs)
        rw [hp] at this; cases this
  exact q p _ hp0 ((x1.tr x2).tr ((Gr.new hp).mono fun _ z => z.elim)) (t2.more hp) tt
theorem se_op {op : Operator} {r : R2} {g : D → D → Option D} (ho : OpR X (binaryOp op) r) (hg : Op2 X.K r g) (ha : SB X a fa) (hb : SB X b fb) : SE X (.BinOp a op b pos) (e2 g fa fb) :=
  ⟨PE.imp (pe_op ho ha.pe hb.pe) (tOp_of hg)⟩
theorem sn_op {op : Operator} {r : R2} {g : D → D → Option D} (ho : OpR X (binaryOp op) r) (hg : Op2N X.K r g) (ha : SB X a fa) (hb : SB X b fb) : SN X (.BinOp a op b pos) (e2 g fa fb) :=
  ⟨PE.imp (pe_op ho ha.pe hb.pe) (tOp_ofN hg)⟩
theorem se_cmp {op : CmpOp} {r : R2} {g : D → D → Option D} (ho : OpR X (compareOp op) r) (hg : Op2 X.K r g) (ha : SB X a fa) (hb : SB X b fb) (hm : behindInMarks op b = false := by first | exact nobehind _ (by decide) (by decide) | rfl) : SE X (.Compare a [op] [b] pos) (e2 g fa fb) :=
  ⟨PE.imp (pe_cmpR ho ha.pe hb.pe hm) (tOp_of hg)⟩
theorem se_ix {r : R2} {g : D → D → Option D} (ho : IxR X r) (hg : Op2 X.K r g) (ha : SB X a fa) (hb : SB X b fb) (hs : PlainIx b := by intro _ _; rfl) : SE X (.Subscript a b pos) (e2 g fa fb) :=
  ⟨PE.imp (pe_ix ho ha.pe hb.pe hs) (tOp_of hg)⟩
theorem Op2.or {K : PySem.W.Frag} {r r' : R2} {g g' : D → D → Option D} (h : Op2 K r g) (h' : Op2 K r' g') : Op2 K (fun x y H Q => r x y H Q ∨ r' x y H Q) (fun x y => (g x y).or (g' x y)) := by
  intro O H x y dx dy d Q hd rx ry hg q
  have hg : (g dx dy).or (g' dx dy) = some d := hg
  cases e : g dx dy with
  | some z =>
    rw [e] at hg
    have hg : some z = some d := hg
    cases hg
    exact .inl (h O H x y dx dy d Q hd rx ry e q)
  | none =>
    rw [e] at hg
    exact .inr (h' O H x y dx dy d Q hd rx ry hg q)
end
end Dv

/-! Dv3: statements, loops, defs. -/
namespace Dv
open PySem PySem.Spec PyProof.Rows L2

inductive Fl where
  | nx (ρ : Rho) | rt (d : D) | bk (ρ : Rho) | ct (ρ : Rho)
abbrev FS := Rho → Tp → Option (Fl × Tp)
structure Aft (O O' : OS) (H H' : Hp) : Prop where
  xt : Xt O H H'
  od : ∀ a, O' a → O a ∨ H a = none
theorem Aft.refl (O : OS) (H : Hp) : Aft O O H H := ⟨Xt.refl H, fun _ z => .inl z⟩
theorem Aft.tr {O O1 O2 : OS} {H H1 H2 : Hp} (a : Aft O O1 H H1) (b : Aft O1 O2 H1 H2) : Aft O O2 H H2 where
  xt := fun x o e n => by
    refine b.xt x o (a.xt x o e n) (n.imp (fun z w => ?_) id)
    rcases a.od x w with q | q
    · exact z q
    · rw [e] at q; cases q
  od := fun x z => by
    rcases b.od x z with q | q
    · exact a.od x q
    · by_cases ho : O x
      · exact .inl ho
      · refine .inr ?_
        cases e : H x with
        | none => rfl
        | some o => rw [a.xt x o e (.inl ho)] at q; cases q
theorem Aft.rep {K : PySem.W.Frag} {O O' : OS} {H H' : Hp} {v : V} {d : D} (a : Aft O O' H H') (r : Rep K O H v d) : Rep K O' H' v d := r.go a.xt (fun _ z _ => z) a.od
theorem Aft.repL {K : PySem.W.Frag} {O O' : OS} {H H' : Hp} {v : List V} {d : List D} (a : Aft O O' H H') (r : RepL K O H v d) : RepL K O' H' v d := r.go a.xt (fun _ z _ => z) a.od

section
variable {K : PySem.W.Frag} {G : Hp} {B O O' : OS} {τ : Option Addr} {σ σ' : L2.St} {H H' : Hp} {ρ ρ' : Rho} {T T' : Tp}
theorem Sta.aft (E : Sta K G B O τ σ H ρ T) (x : Xt (tS τ) H H') : Aft O O H H' := ⟨x.mono E.tO, fun _ z => .inl z⟩

/-- what is wanted at an end -/
def fin (K : PySem.W.Frag) (G : Hp) (B O : OS) (τ : Option Addr) (H : Hp) (D : Ends) : Fl → Tp → Prop
  | .nx ρ', T' => ∀ σ' H' O', Aft O O' H H' → Sta K G B O' τ σ' H' ρ' T' → D.nx σ' H'
  | .bk ρ', T' => ∀ σ' H' O', Aft O O' H H' → Sta K G B O' τ σ' H' ρ' T' → D.bk σ' H'
  | .ct ρ', T' => ∀ σ' H' O', Aft O O' H H' → Sta K G B O' τ σ' H' ρ' T' → D.ct σ' H'
  | .rt d, T' => ∀ v H', TpOk B τ H' T' → Xt (tS τ) G H' → Rep K B H' v d → D.rt v H'
theorem fin.go {D : Ends} {fl : Fl} (a : Aft O O' H H') (h : fin K G B O τ H D fl T) : fin K G B O' τ H' D fl T := by
  cases fl with
  | nx ρ' => exact fun σ1 H1 O1 b E => h σ1 H1 O1 (a.tr b) E
  | bk ρ' => exact fun σ1 H1 O1 b E => h σ1 H1 O1 (a.tr b) E
  | ct ρ' => exact fun σ1 H1 O1 b E => h σ1 H1 O1 (a.tr b) E
  | rt d => exact h
def rdS (K : PySem.W.Frag) (f : FS) : TS := fun D σ H => ∃ G B O τ ρ T fl T', Sta K G B O τ σ H ρ T ∧ f ρ T = some (fl, T') ∧ fin K G B O τ H D fl T'
structure SS (X : Cx) (st : Stmt) (f : FS) : Prop where
  ps : PS X st (rdS X.K f)
structure SSs (X : Cx) (sts : List Stmt) (f : FS) : Prop where
  ps : PSs X sts (rdS X.K f)
variable {X : Cx} {st : Stmt} {rest : List Stmt} {f g : FS} {e : Expr} {fe : FE} {ft : FT} {pos : Pos}
theorem PS.imp {t u : TS} (h : PS X st t) (w : ∀ D σ H, u D σ H → t D σ H) : PS X st u := ⟨fun pins s σ H D I q => h.run pins s σ H D I (w D σ H q)⟩
theorem PSs.imp {sts : List Stmt} {t u : TS} (h : PSs X sts t) (w : ∀ D σ H, u D σ H → t D σ H) : PSs X sts u := ⟨fun pins s σ H D I q => h.run pins s σ H D I (w D σ H q)⟩

def sSeq (f g : FS) : FS := fun ρ T => match f ρ T with
  | none => none
  | some (.nx ρ1, T1) => g ρ1 T1
  | some (fl, T1) => some (fl, T1)
theorem ss_cons (h1 : SS X st f) (h2 : SSs X rest g) : SSs X (st :: rest) (sSeq f g) := ⟨PSs.imp (pss_cons h1.ps h2.ps) fun D σ H ⟨G, B, O, τ, ρ, T, fl, T', E, hf, q⟩ => by
  unfold sSeq at hf
  split at hf
  · cases hf
  · rename_i ρ1 T1 h
    exact ⟨G, B, O, τ, ρ, T, _, T1, E, h, fun σ' H' O' a E' => ⟨G, B, O', τ, ρ1, T1, fl, T', E', hf, q.go a⟩⟩
  · rename_i fl1 T1 hn h
    cases hf
    refine ⟨G, B, O, τ, ρ, T, _, _, E, h, ?_⟩
    cases fl with
    | nx r => exact absurd rfl (hn r)
    | _ => exact q⟩
theorem ss_one (h1 : SS X st f) : SSs X [st] f := ⟨pss_one h1.ps⟩
theorem ss_nil : SSs X [] (fun ρ T => some (.nx ρ, T)) := ⟨PSs.imp pss_nil fun D σ H ⟨G, B, O, τ, ρ, T, fl, T', E, hf, q⟩ => by
  cases hf
  exact q σ H O (Aft.refl O H) E⟩
def sPass : FS := fun ρ T => some (.nx ρ, T)
theorem ss_pass : SS X (.Pass pos) sPass := ⟨PS.imp ps_pass fun D σ H ⟨G, B, O, τ, ρ, T, fl, T', E, hf, q⟩ => by
  cases hf
  exact q σ H O (Aft.refl O H) E⟩
def sBreak : FS := fun ρ T => some (.bk ρ, T)
theorem ss_break : SS X (.Break pos) sBreak := ⟨PS.imp ps_break fun D σ H ⟨G, B, O, τ, ρ, T, fl, T', E, hf, q⟩ => by
  cases hf
  exact q σ H O (Aft.refl O H) E⟩
def sCont : FS := fun ρ T => some (.ct ρ, T)
theorem ss_cont : SS X (.Continue pos) sCont := ⟨PS.imp ps_continue fun D σ H ⟨G, B, O, τ, ρ, T, fl, T', E, hf, q⟩ => by
  cases hf
  exact q σ H O (Aft.refl O H) E⟩
/-- never come to -/
def sNever : FS := fun _ _ => none
theorem ss_never : SS X st sNever := ⟨PS.imp ps_never fun D σ H ⟨G, B, O, τ, ρ, T, fl, T', E, hf, q⟩ => by cases hf⟩
def sIf (c : FT) (f g : FS) : FS := fun ρ T => match c ρ T with
  | none => none
  | some (true, T1) => f ρ T1
  | some (false, T1) => g ρ T1
theorem ss_if {c : Expr} {fc : FT} {a b : List Stmt} (hc : ST X c fc) (ha : SSs X a f) (hb : SSs X b g) : SS X (.If c a b pos) (sIf fc f g) := ⟨PS.imp (ps_if hc.pe ha.ps hb.ps) fun D σ H ⟨G, B, O, τ, ρ, T, fl, T', E, hf, q⟩ => by
  unfold sIf at hf
  split at hf
  · cases hf
  · rename_i T1 h
    exact ⟨G, B, O, τ, ρ, T, true, T1, E, h, fun H' x t => show rdS X.K f D σ H' from ⟨G, B, O, τ, ρ, T1, fl, T', E.step x t, hf, q.go (E.aft x)⟩⟩
  · rename_i T1 h
    exact ⟨G, B, O, τ, ρ, T, false, T1, E, h, fun H' x t => show rdS X.K g D σ H' from ⟨G, B, O, τ, ρ, T1, fl, T', E.step x t, hf, q.go (E.aft x)⟩⟩⟩
/-- a value that is dropped -/
def sDrop (f : FE) : FS := fun ρ T => match f ρ T with
  | none => none
  | some (_, T1) => some (.nx ρ, T1)
theorem ss_expr (he : SE X e fe) (hs : swapsWith e none pos.line X.env = pure false := by rfl) : SS X (.Expr e pos) (sDrop fe) := ⟨PS.imp (ps_expr he.pe hs) fun D σ H ⟨G, B, O, τ, ρ, T, fl, T', E, hf, q⟩ => by
  unfold sDrop at hf
  split at hf
  · cases hf
  · rename_i d T1 h
    cases hf
    exact ⟨G, B, O, τ, ρ, T, d, T', E, h, fun v H' x t r => q σ H' O (E.aft x) (E.step x t)⟩⟩
theorem ss_doc {x j pos pos'} : SS X (.Expr (.Constant (.str x) j pos) pos') sPass := ⟨PS.imp ps_doc fun D σ H ⟨G, B, O, τ, ρ, T, fl, T', E, hf, q⟩ => by
  cases hf
  exact q σ H O (Aft.refl O H) E⟩
def sRet (f : FE) : FS := fun ρ T => match f ρ T with
  | none => none
  | some (d, T1) => some (.rt d, T1)
theorem Sta.out (E : Sta K G B O τ σ H ρ T) : TpOk B τ H T := E.tok.go (Xt.refl H (S := fun _ => False)) (fun _ z _ => z.elim) (fun a z => .inl (E.gb a z)) E.tb
theorem Rep.out {v : V} {d : D} (E : Sta K G B O τ σ H ρ T) (r : Rep K O H v d) : Rep K B H v d := r.go (Xt.refl H (S := fun _ => False)) (fun _ z _ => z.elim) fun a z => .inl (E.gb a z)
theorem ss_ret (he : SE X e fe) : SS X (.Return (some e) pos) (sRet fe) := ⟨PS.imp (ps_ret he.pe) fun D σ H ⟨G, B, O, τ, ρ, T, fl, T', E, hf, q⟩ => by
  unfold sRet at hf
  split at hf
  · cases hf
  · rename_i d T1 h
    cases hf
    exact ⟨G, B, O, τ, ρ, T, d, T', E, h, fun v H' x t r => q v H' (E.step x t).out (E.step x t).gk (Rep.out (E.step x t) r)⟩⟩
def sRetN : FS := fun _ T => some (.rt .none, T)
theorem ss_retN : SS X (.Return none pos) sRetN := ⟨PS.imp ps_retN fun D σ H ⟨G, B, O, τ, ρ, T, fl, T', E, hf, q⟩ => by
  cases hf
  exact q .non H E.out E.gk .non⟩

/-! ### stores -/
theorem Sta.set {i : Nat} {v : V} {d : D} (E : Sta K G B O τ σ H ρ T) (r : Rep K O H v d) : Sta K G B O τ (σ.set i (some v)) H (ρ.set i (.fr d)) T where
  len := by rw [List.length_set, List.length_set]; exact E.len
  fr := fun j d' h => by
    rw [List.getElem?_set] at h ⊢
    by_cases hj : i = j
    · subst hj
      rw [if_pos rfl] at h ⊢
      have hl : i < ρ.length := by
        by_cases hl : i < ρ.length
        · exact hl
        · rw [if_neg hl] at h; cases h
      rw [if_pos hl] at h
      rw [if_pos (by rw [E.len]; exact hl)]
      cases h
      exact ⟨v, rfl, r⟩
    · rw [if_neg hj] at h ⊢
      exact E.fr j d' h
  ow := fun j d' h => by
    rw [List.getElem?_set] at h ⊢
    by_cases hj : i = j
    · subst hj
      rw [if_pos rfl] at h
      split at h <;> cases h
    · rw [if_neg hj] at h ⊢
      exact E.ow j d' h
  sep := fun j k d' d'' a h1 h2 h3 h4 => by
    rw [List.getElem?_set] at h1 h2 h3 h4
    by_cases hj : i = j
    · rw [if_pos hj] at h1; split at h1 <;> cases h1
    · by_cases hk : i = k
      · rw [if_pos hk] at h2; split at h2 <;> cases h2
      · rw [if_neg hj] at h1 h3
        rw [if_neg hk] at h2 h4
        exact E.sep j k d' d'' a h1 h2 h3 h4
  tp := fun j h => by
    rw [List.getElem?_set] at h ⊢
    by_cases hj : i = j
    · rw [if_pos hj] at h; split at h <;> cases h
    · rw [if_neg hj] at h ⊢
      exact E.tp j h
  tok := E.tok
  tb := E.tb
  dom := E.dom
  gb := E.gb
  gd := E.gd
  gk := E.gk
/-- a new thing at p, which the slot alone holds -/
theorem Sta.own {i : Nat} {p : Addr} {d : D} (E : Sta K G B O τ σ H ρ T) (hp : H p = none) (x : Xt (tS τ) H H') (t' : TpOk (addO O p) τ H' T') (r : Top K (addO O p) H' p d) : Sta K G B (addO O p) τ (σ.set i (some (.ref p))) H' (ρ.set i (.ow d)) T' := by
  have t := t'.less E.tO
  have E1 := E.step x t
  have add : ∀ a, addO O p a → O a ∨ H a = none := addO_new hp
  have np : ∀ a, O a → a ≠ p := fun a z q => E.dom a z (by rw [q]; exact hp)
  exact {
  len := by rw [List.length_set, List.length_set]; exact E.len
  fr := fun j d' h => by
    rw [List.getElem?_set] at h ⊢
    by_cases hj : i = j
    · subst hj
      rw [if_pos rfl] at h
      split at h <;> cases h
    · rw [if_neg hj] at h ⊢
      obtain ⟨v, e, q⟩ := E.fr j d' h
      exact ⟨v, e, q.go x (fun a z _ => E.tO a z) add⟩
  ow := fun j d' h => by
    rw [List.getElem?_set] at h ⊢
    by_cases hj : i = j
    · subst hj
      rw [if_pos rfl] at h ⊢
      have hl : i < ρ.length := by
        by_cases hl : i < ρ.length
        · exact hl
        · rw [if_neg hl] at h; cases h
      rw [if_pos hl] at h
      rw [if_pos (by rw [E.len]; exact hl)]
      cases h
      refine ⟨p, rfl, .inr rfl, fun z => np p (E.gb p z) rfl, ?_, fun z => np p (E.tO p z) rfl, r⟩
      cases q : G p with
      | none => rfl
      | some o =>
        by_cases hs : tS τ p
        · exact absurd rfl (np p (E.tO p hs))
        · have := E.gk p o q (.inl hs)
          rw [hp] at this; cases this
    · rw [if_neg hj] at h ⊢
      obtain ⟨a, e, oa, nb, ga, ta, q⟩ := E.ow j d' h
      exact ⟨a, e, .inl oa, nb, ga, ta, q.go x (fun a z _ => E.tO a z) add ta⟩
  sep := fun j k d' d'' a h1 h2 h3 h4 => by
    rw [List.getElem?_set] at h1 h2 h3 h4
    by_cases hj : i = j
    · by_cases hk : i = k
      · exact hj.symm.trans hk
      · rw [if_neg hk] at h2 h4
        rw [if_pos hj] at h3
        obtain ⟨b, e, ob, _⟩ := E.ow k d'' h2
        rw [e] at h4; cases h4
        split at h3
        · cases h3; exact absurd rfl (np p ob)
        · cases h3
    · by_cases hk : i = k
      · rw [if_neg hj] at h1 h3
        rw [if_pos hk] at h4
        obtain ⟨b, e, ob, _⟩ := E.ow j d' h1
        rw [e] at h3; cases h3
        split at h4
        · cases h4; exact absurd rfl (np p ob)
        · cases h4
      · rw [if_neg hj] at h1 h3
        rw [if_neg hk] at h2 h4
        exact E.sep j k d' d'' a h1 h2 h3 h4
  tp := fun j h => by
    rw [List.getElem?_set] at h ⊢
    by_cases hj : i = j
    · rw [if_pos hj] at h; split at h <;> cases h
    · rw [if_neg hj] at h ⊢
      exact E.tp j h
  tok := t'
  tb := E.tb
  dom := fun a z => by
    rcases z with z | z
    · exact E1.dom a z
    · subst z
      obtain ⟨o, e, _⟩ := r.some
      rw [e]; simp
  gb := fun a z => .inl (E.gb a z)
  gd := E.gd
  gk := E1.gk }
end
end Dv

/-! Dv4: assignments, targets, what is walked, for, while, calls, defs. -/
namespace Dv
open PySem PySem.Spec PyProof.Rows L2
section
variable {X : Cx} {st : Stmt} {rest : List Stmt} {f g : FS} {e a b : Expr} {fe fa fb : FE} {ft : FT} {pos : Pos}

/-! ### assignments to names -/
def sSet (i : Nat) (f : FE) : FS := fun ρ T => match f ρ T with
  | none => none
  | some (d, T1) => some (.nx (ρ.set i (.fr d)), T1)
def sNew (i : Nat) (f : FE) : FS := fun ρ T => match f ρ T with
  | none => none
  | some (d, T1) => some (.nx (ρ.set i (.ow d)), T1)
theorem tAsg_set {K : PySem.W.Frag} {i : Nat} {D : Ends} {σ : L2.St} {H : Hp} (h : rdS K (sSet i fe) D σ H) : tAsg (rdE K fe) (gName i) D σ H := by
  obtain ⟨G, B, O, τ, ρ, T, fl, T', E, hf, q⟩ := h
  unfold sSet at hf
  split at hf
  · cases hf
  · rename_i d T1 h
    cases hf
    exact ⟨G, B, O, τ, ρ, T, d, T', E, h, fun v H' x t r => q _ H' O (E.aft x) ((E.step x t).set r)⟩
theorem tAsg_new {K : PySem.W.Frag} {i : Nat} {D : Ends} {σ : L2.St} {H : Hp} (h : rdS K (sNew i fe) D σ H) : tAsg (rdN K fe) (gName i) D σ H := by
  obtain ⟨G, B, O, τ, ρ, T, fl, T', E, hf, q⟩ := h
  unfold sNew at hf
  split at hf
  · cases hf
  · rename_i d T1 h
    cases hf
    exact ⟨G, B, O, τ, ρ, T, d, T', E, h, fun p H' hp x t r => q _ H' (addO O p) ⟨x.mono E.tO, addO_new hp⟩ (E.own hp x t r)⟩
theorem ss_set {i : Nat} {x : Str} {pos' : Pos} (hN : X.N.Nodup) (he : SE X e fe) (hi : X.N[i]? = some x := by rfl) (hx : Loc X.env.scope x := by first | exact Or.inl rfl | exact Or.inr rfl) (hs : swapsWith e (some (.Name x pos')) pos.line X.env = pure false := by rfl) (hf : X.fn x = true ∨ X.env.scope.names.lookup x = some .local := by first | exact .inl rfl | exact .inr rfl | assumption) :
    SS X (.Assign [.Name x pos'] e pos) (sSet i fe) := ⟨PS.imp (ps_set hN hi hx he.pe hs hf) fun D σ H h => tAsg_set h⟩
theorem ss_new {i : Nat} {x : Str} {pos' : Pos} (hN : X.N.Nodup) (he : SN X e fe) (hi : X.N[i]? = some x := by rfl) (hx : Loc X.env.scope x := by first | exact Or.inl rfl | exact Or.inr rfl) (hs : swapsWith e (some (.Name x pos')) pos.line X.env = pure false := by rfl) (hf : X.fn x = true ∨ X.env.scope.names.lookup x = some .local := by first | exact .inl rfl | exact .inr rfl | assumption) :
    SS X (.Assign [.Name x pos'] e pos) (sNew i fe) := ⟨PS.imp (ps_set hN hi hx he.pe hs hf) fun D σ H h => tAsg_new h⟩
/-- from here on the slot's own thing is never changed -/
def fz (i : Nat) (ρ : Rho) : Rho := match ρ[i]? with
  | some (.ow d) => ρ.set i (.fr d)
  | _ => ρ
def sFz (i : Nat) (f : FS) : FS := fun ρ T => f (fz i ρ) T
theorem Sta.fz {K : PySem.W.Frag} {G : Hp} {B O : OS} {τ : Option Addr} {σ : L2.St} {H : Hp} {ρ : Rho} {T : Tp} (i : Nat) (E : Sta K G B O τ σ H ρ T) : ∃ O', Aft O O' H H ∧ Sta K G B O' τ σ H (fz i ρ) T := by
  unfold Dv.fz
  split
  case h_2 => exact ⟨O, Aft.refl O H, E⟩
  rename_i d e1
  obtain ⟨p, e2, op, nb, gp, tp, tt⟩ := E.ow i d e1
  have sub : ∀ x, delO O p x → O x ∨ H x = none := fun x z => .inl z.1
  have hl : i < ρ.length := (List.getElem?_eq_some_iff.mp e1).1
  have bd : ∀ a, B a → delO O p a := fun a z => ⟨E.gb a z, fun q => nb (q ▸ z)⟩
  refine ⟨delO O p, ⟨Xt.refl H, sub⟩, ?_⟩
  have gor : ∀ {v : V} {d' : D}, Rep K O H v d' → Rep K (delO O p) H v d' := fun r => r.go (Xt.refl H (S := fun _ => False)) (fun _ z _ => z.elim) sub
  exact {
    len := by rw [List.length_set]; exact E.len
    fr := fun j d' h => by
      rw [List.getElem?_set] at h
      by_cases hj : i = j
      · subst hj
        rw [if_pos rfl, if_pos hl] at h
        cases h
        refine ⟨_, e2, ?_⟩
        exact (tt.go (Xt.refl H (S := fun _ => False)) (fun _ z _ => z.elim) sub id).rep fun z => z.2 rfl
      · rw [if_neg hj] at h
        obtain ⟨v, e, r⟩ := E.fr j d' h
        exact ⟨v, e, gor r⟩
    ow := fun j d' h => by
      rw [List.getElem?_set] at h
      by_cases hj : i = j
      · rw [if_pos hj] at h; split at h <;> cases h
      · rw [if_neg hj] at h
        obtain ⟨a, e, oa, nb', ga, ta, q⟩ := E.ow j d' h
        refine ⟨a, e, ⟨oa, fun z => ?_⟩, nb', ga, ta, q.go (Xt.refl H (S := fun _ => False)) (fun _ z _ => z.elim) sub id⟩
        subst z
        exact hj (E.sep i j d d' a e1 h e2 e)
    sep := fun j k d' d'' a h1 h2 h3 h4 => by
      rw [List.getElem?_set] at h1 h2
      by_cases hj : i = j
      · rw [if_pos hj] at h1; split at h1 <;> cases h1
      · by_cases hk : i = k
        · rw [if_pos hk] at h2; split at h2 <;> cases h2
        · rw [if_neg hj] at h1
          rw [if_neg hk] at h2
          exact E.sep j k d' d'' a h1 h2 h3 h4
    tp := fun j h => by
      rw [List.getElem?_set] at h
      by_cases hj : i = j
      · rw [if_pos hj] at h; split at h <;> cases h
      · rw [if_neg hj] at h
        exact E.tp j h
    tok := E.tok.go (Xt.refl H (S := fun _ => False)) (fun _ z _ => z.elim) sub fun q e => bd q (E.tb q e)
    tb := E.tb
    dom := fun a z => E.dom a z.1
    gb := bd
    gd := E.gd
    gk := E.gk }
theorem ss_fz (i : Nat) (h : SS X st f) : SS X st (sFz i f) := ⟨PS.imp h.ps fun D σ H ⟨G, B, O, τ, ρ, T, fl, T', E, hf, q⟩ => by
  obtain ⟨O', a, E'⟩ := E.fz i
  exact ⟨G, B, O', τ, _, T, fl, T', E', hf, q.go a⟩⟩

/-! ### targets: ws are the slots that are written -/
abbrev FG := D → Rho → Option Rho
def Off (ws : List Nat) (σ σ' : L2.St) : Prop := σ'.length = σ.length ∧ ∀ j, j ∉ ws → σ'[j]? = σ[j]?
theorem Off.refl {ws : List Nat} (σ : L2.St) : Off ws σ σ := ⟨rfl, fun _ _ => rfl⟩
theorem Off.set {i : Nat} (σ : L2.St) (v : Option V) : Off [i] σ (σ.set i v) := ⟨List.length_set, fun j h => List.getElem?_set_ne (fun e => h (by rw [e]; exact List.mem_singleton.mpr rfl))⟩
theorem Off.app {ws us : List Nat} {σ σ1 σ2 : L2.St} (a : Off ws σ σ1) (b : Off us σ1 σ2) : Off (ws ++ us) σ σ2 := ⟨b.1.trans a.1, fun j h => by
  rw [List.mem_append] at h
  rw [b.2 j fun z => h (.inr z), a.2 j fun z => h (.inl z)]⟩
def rdG (K : PySem.W.Frag) (ws : List Nat) (f : FG) : TG := fun v σ H Q => ∃ G B O τ ρ T d ρ', Sta K G B O τ σ H ρ T ∧ Rep K O H v d ∧ f d ρ = some ρ' ∧ ∀ σ', Off ws σ σ' → Sta K G B O τ σ' H ρ' T → Q σ' H
abbrev FGs := List D → Rho → Option Rho
def rdGs (K : PySem.W.Frag) (ws : List Nat) (f : FGs) : TGs := fun vs σ H Q => ∃ G B O τ ρ T ds ρ', Sta K G B O τ σ H ρ T ∧ RepL K O H vs ds ∧ f ds ρ = some ρ' ∧ ∀ σ', Off ws σ σ' → Sta K G B O τ σ' H ρ' T → Q σ' H
structure SG (X : Cx) (tg : Expr) (ws : List Nat) (f : FG) : Prop where
  pg : PG X tg (rdG X.K ws f)
structure SGs (X : Cx) (tg : List Expr) (ws : List Nat) (f : FGs) : Prop where
  pg : PGs X tg (rdGs X.K ws f)
theorem PG.imp {tg : Expr} {t u : TG} (h : PG X tg t) (w : ∀ v σ H Q, u v σ H Q → t v σ H Q) : PG X tg u := ⟨fun pins s σ H v uu Q I r q => h.run pins s σ H v uu Q I r (w v σ H Q q)⟩
theorem PGs.imp {tg : List Expr} {t u : TGs} (h : PGs X tg t) (w : ∀ v σ H Q, u v σ H Q → t v σ H Q) : PGs X tg u := ⟨fun pins s σ H v uu Q I r q => h.run pins s σ H v uu Q I r (w v σ H Q q)⟩
def gSet (i : Nat) : FG := fun d ρ => some (ρ.set i (.fr d))
theorem sg_name (i : Nat) {x : Str} (hN : X.N.Nodup) (hi : X.N[i]? = some x := by rfl) (hx : Loc X.env.scope x := by first | exact Or.inl rfl | exact Or.inr rfl) (hf : X.fn x = true ∨ X.env.scope.names.lookup x = some .local := by first | exact .inl rfl | exact .inr rfl | assumption) : SG X (.Name x pos) [i] (gSet i) := ⟨PG.imp (pg_name hN hi hx hf) fun v σ H Q ⟨G, B, O, τ, ρ, T, d, ρ', E, r, h, q⟩ => by
  cases h
  exact q _ (Off.set σ _) (E.set r)⟩
def gsNil : FGs := fun ds ρ => match ds with
  | [] => some ρ
  | _ => none
def gsCons (f : FG) (g : FGs) : FGs := fun ds ρ => match ds with
  | [] => none
  | d :: r => match f d ρ with
    | none => none
    | some ρ1 => g r ρ1
theorem sgs_nil : SGs X [] [] gsNil := ⟨PGs.imp pgs_nil fun v σ H Q ⟨G, B, O, τ, ρ, T, ds, ρ', E, r, h, q⟩ => by
  cases r with
  | nil => cases h; exact ⟨rfl, q _ (Off.refl σ) E⟩
  | cons _ _ => cases h⟩
theorem sgs_cons {es : List Expr} {f : FG} {g : FGs} {ws us : List Nat} (h1 : SG X e ws f) (h2 : SGs X es us g) (hs : (assignEach (e :: es) X.env).map (·.2) = assign e X.env :: (assignEach es X.env).map (·.2) := by rfl) : SGs X (e :: es) (ws ++ us) (gsCons f g) := ⟨PGs.imp (pgs_cons h1.pg h2.pg hs) fun v σ H Q ⟨G, B, O, τ, ρ, T, ds, ρ', E, r, h, q⟩ => by
  cases r with
  | nil => cases h
  | @cons v vs d ds r rr =>
    have h : (match f d ρ with | none => none | some ρ1 => g ds ρ1) = some ρ' := h
    split at h
    · cases h
    · rename_i ρ1 h1
      exact ⟨v, vs, rfl, G, B, O, τ, ρ, T, d, ρ1, E, r, h1, fun σ1 o1 E' => ⟨G, B, O, τ, ρ1, T, ds, ρ', E', rr, h, fun σ2 o2 E2 => q σ2 (o1.app o2) E2⟩⟩⟩
def gTupD (n : Nat) (g : FGs) : FG := fun d ρ => match d with
  | .tuple ds => if ds.length = n then g ds ρ else none
  | _ => none
theorem RepL.length {K : PySem.W.Frag} {O : OS} {H : Hp} : ∀ {ds : List D} {vs : List V}, RepL K O H vs ds → vs.length = ds.length
  | [], _, .nil => rfl
  | _ :: _, _, .cons _ q => by rw [List.length_cons, List.length_cons, RepL.length q]
theorem sg_tup {es : List Expr} {k : Nat} {g : FGs} {n : Nat} {ws : List Nat} (hc : X.calm = true) (h : SGs X es ws g)
    (hn : (assignEach es X.env).length = n := by rfl) (hst : (assignEach es X.env).findIdx? (·.1) = none := by rfl) : SG X (.Tuple es k pos) ws (gTupD n g) := ⟨PG.imp (pg_tup hc h.pg hn hst) fun v σ H Q ⟨G, B, O, τ, ρ, T, d, ρ', E, r, h, q⟩ => by
  cases r with
  | tup hs rr =>
    have h : (if _ then _ else _) = _ := h
    split at h
    · rename_i hl
      exact ⟨_, _, rfl, hs, by rw [rr.length]; exact hl, G, B, O, τ, ρ, T, _, ρ', E, rr, h, q⟩
    · cases h
  | _ => cases h⟩
/-- target = value -/
def sAsgG (f : FE) (g : FG) : FS := fun ρ T => match f ρ T with
  | none => none
  | some (d, T1) => match g d ρ with
    | none => none
    | some ρ1 => some (.nx ρ1, T1)
theorem ss_asg {tg : Expr} {g : FG} {ws : List Nat} (he : SE X e fe) (hg : SG X tg ws g) (hs : swapsWithSole [tg] e pos.line X.env = pure false := by rfl) (hw : swappedStores [tg] e X.env = pure none := by rfl)
    (h1 : (assignEach [tg] X.env).map (·.2) = [assign tg X.env] := by rfl) : SS X (.Assign [tg] e pos) (sAsgG fe g) := ⟨PS.imp (ps_asg he.pe hg.pg hs hw h1) fun D σ H ⟨G, B, O, τ, ρ, T, fl, T', E, hf, q⟩ => by
  unfold sAsgG at hf
  split at hf
  · cases hf
  rename_i d T1 h
  split at hf
  · cases hf
  rename_i ρ1 h2
  cases hf
  exact ⟨G, B, O, τ, ρ, T, d, T', E, h, fun v H' x t r => ⟨G, B, O, τ, ρ, T', d, ρ1, E.step x t, r, h2, fun σ' _ E' => q σ' H' O (E.aft x) E'⟩⟩⟩
/-- a, b = x, y with plain local names -/
def sPar (i j : Nat) (fa fb : FE) : FS := fun ρ T => match fa ρ T with
  | none => none
  | some (x, T1) => match fb ρ T1 with
    | none => none
    | some (y, T2) => some (.nx ((ρ.set i (.fr x)).set j (.fr y)), T2)
end

/-! ### arguments -/
section
variable {X : Cx} {e : Expr} {fe : FE}
def aNil : FA := fun _ T => some ([], T)
def aCons (f : FE) (g : FA) : FA := fun ρ T => match f ρ T with
  | none => none
  | some (d, T1) => match g ρ T1 with
    | none => none
    | some (ds, T2) => some (d :: ds, T2)
theorem sa_nil : SA X [] aNil := ⟨PA.imp pa_nil fun σ H Q ⟨G, B, O, τ, ρ, T, ds, T', E, hf, q⟩ => by
  cases hf
  exact q [] H (Xt.refl H) E.tok .nil⟩
theorem sa_cons {es : List Expr} {g : FA} (he : SE X e fe) (hr : SA X es g) (hs : starEach (e :: es) X.env = (false, eval e X.env) :: starEach es X.env := by rfl) : SA X (e :: es) (aCons fe g) := ⟨PA.imp (pa_cons he.pe hr.pe hs) fun σ H Q ⟨G, B, O, τ, ρ, T, ds, T', E, hf, q⟩ => by
  unfold aCons at hf
  split at hf
  · cases hf
  rename_i d T1 h1
  split at hf
  · cases hf
  rename_i ds T2 h2
  cases hf
  refine ⟨G, B, O, τ, ρ, T, d, T1, E, h1, fun v H1 x1 t1 r1 => ⟨G, B, O, τ, ρ, T1, ds, T', E.step x1 t1, h2, fun vs H2 x2 t2 r2 => ?_⟩⟩
  exact q _ H2 (x1.tr x2) t2 (.cons (r1.step (E.step x1 t1) x2) r2)⟩
end
end Dv

/-! Dv5: what is walked, for, while, comprehensions. -/
namespace Dv
open PySem PySem.Spec PyProof.Rows L2

/-- the walk yields ds, whatever else turns -/
def Walk (K : PySem.W.Frag) (O : OS) (H : Hp) (J : It) (ds : List D) : Prop := ∀ (i : Nat) (O' : OS) (H' : Hp), Aft O O' H H' → (∀ a, O' a → H' a ≠ none) →
  (∀ d, ds[i]? = some d → J.go i H' ∧ ∀ x H'', J.yld i H' x H'' → Gr H' H'' ∧ Rep K O' H'' x d) ∧ (ds.length ≤ i → J.stop i H')
abbrev FI := Rho → Tp → Option (List D × Tp)
def rdI (K : PySem.W.Frag) (f : FI) : TI := fun σ H R => ∃ G B O τ ρ T ds T', Sta K G B O τ σ H ρ T ∧ f ρ T = some (ds, T') ∧
  ∀ J H', Xt (tS τ) H H' → TpOk O τ H' T' → Walk K O H' J ds → R J H'
structure SI (X : Cx) (tg it : Expr) (f : FI) : Prop where
  pi : PI X tg it (rdI X.K f)
theorem PI.imp {X : Cx} {tg it : Expr} {t u : TI} (h : PI X tg it t) (w : ∀ σ H Q, u σ H Q → t σ H Q) : PI X tg it u := ⟨fun pins s σ H Q I q => h.run pins s σ H Q I (w σ H Q q)⟩

/-! ### for -/
def forL (g : FG) (b : FS) : List D → FS
  | [], ρ, T => some (.nx ρ, T)
  | d :: ds, ρ, T => match g d ρ with
    | none => none
    | some ρ1 => match b ρ1 T with
      | none => none
      | some (.nx ρ2, T2) => forL g b ds ρ2 T2
      | some (.ct ρ2, T2) => forL g b ds ρ2 T2
      | some (.bk ρ2, T2) => some (.nx ρ2, T2)
      | some (.rt d, T2) => some (.rt d, T2)
def sFor (fi : FI) (g : FG) (b : FS) : FS := fun ρ T => match fi ρ T with
  | none => none
  | some (ds, T1) => forL g b ds ρ T1
theorem tFor_of {K : PySem.W.Frag} {fi : FI} {g : FG} {ws : List Nat} {b : FS} {D : Ends} {σ : L2.St} {H : Hp} (h : rdS K (sFor fi g b) D σ H) : tFor (rdI K fi) (rdG K ws g) (rdS K b) D σ H := by
  obtain ⟨G, B, O, τ, ρ, T, fl, T', E, hf, q⟩ := h
  unfold sFor at hf
  split at hf
  · cases hf
  rename_i ds T1 h1
  refine ⟨G, B, O, τ, ρ, T, ds, T1, E, h1, fun J H1 x1 t1 w1 => ?_⟩
  have E1 := E.step x1 t1
  have a1 := E.aft x1
  refine ⟨fun i m σ' H' => i + m = ds.length ∧ ∃ O' ρ' T2, Aft O O' H1 H' ∧ Sta K G B O' τ σ' H' ρ' T2 ∧ forL g b (ds.drop i) ρ' T2 = some (fl, T'), ⟨ds.length, by omega, O, ρ, T1, Aft.refl O H1, E1, by rw [List.drop_zero]; exact hf⟩, ?_⟩
  rintro i m σ' H' ⟨im, O', ρ', T2, a, E', hl⟩
  obtain ⟨wg, ws⟩ := w1 i O' H' a E'.dom
  by_cases hi : i < ds.length
  · have e : ds[i]? = some ds[i] := List.getElem?_eq_getElem hi
    obtain ⟨go, yl⟩ := wg _ e
    rw [List.drop_eq_getElem_cons hi] at hl
    generalize ds[i] = d at *
    have hl : (match g d ρ' with
      | none => none
      | some ρ1 => match b ρ1 T2 with
        | none => none
        | some (.nx ρ2, T2) => forL g b (ds.drop (i + 1)) ρ2 T2
        | some (.ct ρ2, T2) => forL g b (ds.drop (i + 1)) ρ2 T2
        | some (.bk ρ2, T2) => some (.nx ρ2, T2)
        | some (.rt d, T2) => some (.rt d, T2)) = some (fl, T') := hl
    refine .inr ⟨go, fun σ3 H3 => ∃ O3 ρ3 T3, Aft O O3 H1 H3 ∧ Sta K G B O3 τ σ3 H3 ρ3 T3 ∧ forL g b (ds.drop (i + 1)) ρ3 T3 = some (fl, T'), fun σ3 H3 ⟨O3, ρ3, T3, h1, h2, h3⟩ => ⟨m - 1, by omega, by omega, O3, ρ3, T3, h1, h2, h3⟩, fun x H2 hy => ?_⟩
    obtain ⟨gr, rx⟩ := yl x H2 hy
    split at hl
    · cases hl
    rename_i ρ1 hg
    refine ⟨G, B, O', τ, ρ', T2, d, ρ1, E'.grow gr, rx, hg, fun σ2 _ E2 => ?_⟩
    have a2 : Aft O O' H1 H2 := a.tr (E'.aft (gr.mono fun _ z => z.elim))
    split at hl
    · cases hl
    · rename_i ρ2 T3 hb
      exact ⟨G, B, O', τ, ρ1, T2, _, T3, E2, hb, fun σ3 H3 O3 a3 E3 => ⟨O3, ρ2, T3, a2.tr a3, E3, hl⟩⟩
    · rename_i ρ2 T3 hb
      exact ⟨G, B, O', τ, ρ1, T2, _, T3, E2, hb, fun σ3 H3 O3 a3 E3 => ⟨O3, ρ2, T3, a2.tr a3, E3, hl⟩⟩
    · rename_i ρ2 T3 hb
      cases hl
      exact ⟨G, B, O', τ, ρ1, T2, _, _, E2, hb, fun σ3 H3 O3 a3 E3 => q σ3 H3 O3 ((a1.tr a2).tr a3) E3⟩
    · rename_i d' T3 hb
      cases hl
      exact ⟨G, B, O', τ, ρ1, T2, _, _, E2, hb, q⟩
  · have e : i = ds.length := by omega
    subst e
    rw [List.drop_length] at hl
    cases hl
    exact .inl ⟨ws (Nat.le_refl _), q σ' H' O' (a1.tr a) E'⟩
theorem ss_for {X : Cx} {tg it : Expr} {body : List Stmt} {fi : FI} {g : FG} {ws : List Nat} {b : FS} {pos : Pos} (hp : PassesOwn (model X.prog X.w) X.A X.env X.xe) (hc : X.calm = true) (hi : SI X tg it fi) (hg : SG X tg ws g) (hb : SSs X body b)
    (hs : ∀ x, foldedSetIterable it X.env x = pure x := by intro _; rfl) : SS X (.For tg it body [] pos) (sFor fi g b) := ⟨PS.imp (ps_for hp hc hi.pi hg.pg hb.ps hs) fun D σ H h => tFor_of h⟩

/-! ### while -/
def whL (c : FT) (b : FS) : Nat → FS
  | 0, _, _ => none
  | n + 1, ρ, T => match c ρ T with
    | none => none
    | some (false, T1) => some (.nx ρ, T1)
    | some (true, T1) => match b ρ T1 with
      | none => none
      | some (.nx ρ2, T2) => whL c b n ρ2 T2
      | some (.ct ρ2, T2) => whL c b n ρ2 T2
      | some (.bk ρ2, T2) => some (.nx ρ2, T2)
      | some (.rt d, T2) => some (.rt d, T2)
theorem ss_while {X : Cx} {c : Expr} {body : List Stmt} {fc : FT} {b : FS} {pos : Pos} (n : Nat) (hp : PassesOwn (model X.prog X.w) X.A X.env X.xe) (hc : ST X c fc) (hb : SSs X body b) : SS X (.While c body [] pos) (whL fc b n) := ⟨PS.imp (ps_while hp hc.pe hb.ps) fun D σ H ⟨G, B, O, τ, ρ, T, fl, T', E, hf, q⟩ => by
  refine ⟨fun m σ' H' => ∃ O' ρ' T2, Aft O O' H H' ∧ Sta X.K G B O' τ σ' H' ρ' T2 ∧ whL fc b m ρ' T2 = some (fl, T'), ⟨n, O, ρ, T, Aft.refl O H, E, hf⟩, ?_⟩
  rintro m σ' H' ⟨O', ρ', T2, a, E', hl⟩
  cases m with
  | zero => cases hl
  | succ m =>
    have hl : (match fc ρ' T2 with
    | none => none
    | some (false, T1) => some (.nx ρ', T1)
    | some (true, T1) => match b ρ' T1 with
      | none => none
      | some (.nx ρ2, T2) => whL fc b m ρ2 T2
      | some (.ct ρ2, T2) => whL fc b m ρ2 T2
      | some (.bk ρ2, T2) => some (.nx ρ2, T2)
      | some (.rt d, T2) => some (.rt d, T2)) = some (fl, T') := hl
    split at hl
    · cases hl
    · rename_i T3 h3
      cases hl
      refine ⟨G, B, O', τ, ρ', T2, false, _, E', h3, fun H3 x t => ?_⟩
      show D.nx σ' H3
      exact q σ' H3 O' (a.tr (E'.aft x)) (E'.step x t)
    · rename_i T3 h3
      refine ⟨G, B, O', τ, ρ', T2, true, T3, E', h3, fun H3 x t => ?_⟩
      have a3 := a.tr (E'.aft x)
      show ∃ N : L2.St → Hp → Prop, _ ∧ _
      refine ⟨fun σ4 H4 => ∃ O4 ρ4 T4, Aft O O4 H H4 ∧ Sta X.K G B O4 τ σ4 H4 ρ4 T4 ∧ whL fc b m ρ4 T4 = some (fl, T'), fun σ4 H4 h => ⟨m, Nat.lt_succ_self m, h⟩, ?_⟩
      split at hl
      · cases hl
      · rename_i ρ2 T4 hb
        exact ⟨G, B, O', τ, ρ', T3, _, T4, E'.step x t, hb, fun σ3 H3 O3 b3 E3 => ⟨O3, ρ2, T4, a3.tr b3, E3, hl⟩⟩
      · rename_i ρ2 T4 hb
        exact ⟨G, B, O', τ, ρ', T3, _, T4, E'.step x t, hb, fun σ3 H3 O3 b3 E3 => ⟨O3, ρ2, T4, a3.tr b3, E3, hl⟩⟩
      · rename_i ρ2 T4 hb
        cases hl
        exact ⟨G, B, O', τ, ρ', T3, _, _, E'.step x t, hb, fun σ3 H3 O3 b3 E3 => q σ3 H3 O3 (a3.tr b3) E3⟩
      · rename_i d' T4 hb
        cases hl
        exact ⟨G, B, O', τ, ρ', T3, _, _, E'.step x t, hb, q⟩⟩
end Dv

/-! Dv6: comprehensions. -/
namespace Dv
open PySem PySem.Spec PyProof.Rows L2

def wipeR (ρ : Rho) : List Nat → Rho
  | [] => ρ
  | v :: vs => (wipeR ρ vs).set v .un
theorem wipe_ix {σ : L2.St} {i : Nat} : ∀ {vs : List Nat}, i ∈ vs → (wipe σ vs)[i]? = if i < σ.length then some none else none
  | v :: vs, h => by
    unfold wipe
    rw [List.getElem?_set, wipe_length]
    by_cases e : v = i
    · subst e; rw [if_pos rfl]
    · rw [if_neg e]
      rcases List.mem_cons.mp h with z | z
      · exact absurd z.symm e
      · exact wipe_ix z
theorem wipe_off {ws vs : List Nat} {σ σ' : L2.St} (o : Off ws (wipe σ vs) σ') (h : ∀ j ∈ ws, j ∈ vs) : wipe σ' vs = wipe σ vs := by
  have hl : σ'.length = σ.length := by rw [o.1, wipe_length]
  refine List.ext_getElem? fun i => ?_
  by_cases hi : i ∈ vs
  · rw [wipe_ix hi, wipe_ix hi, hl]
  · rw [wipe_out hi, o.2 i fun z => hi (h i z)]
section
variable {K : PySem.W.Frag} {G : Hp} {B O : OS} {τ : Option Addr} {σ : L2.St} {H H' : Hp} {ρ : Rho} {T T' : Tp}
theorem Sta.wipe1 (E : Sta K G B O τ σ H ρ T) (v : Nat) : Sta K G B O τ (σ.set v none) H (ρ.set v .un) T where
  len := by rw [List.length_set, List.length_set]; exact E.len
  fr := fun j d h => by
    rw [List.getElem?_set] at h ⊢
    by_cases hj : v = j
    · rw [if_pos hj] at h; split at h <;> cases h
    · rw [if_neg hj] at h ⊢; exact E.fr j d h
  ow := fun j d h => by
    rw [List.getElem?_set] at h ⊢
    by_cases hj : v = j
    · rw [if_pos hj] at h; split at h <;> cases h
    · rw [if_neg hj] at h ⊢; exact E.ow j d h
  sep := fun j k d d' a h1 h2 h3 h4 => by
    rw [List.getElem?_set] at h1 h2 h3 h4
    by_cases hj : v = j
    · rw [if_pos hj] at h1; split at h1 <;> cases h1
    · by_cases hk : v = k
      · rw [if_pos hk] at h2; split at h2 <;> cases h2
      · rw [if_neg hj] at h1 h3; rw [if_neg hk] at h2 h4
        exact E.sep j k d d' a h1 h2 h3 h4
  tp := fun j h => by
    rw [List.getElem?_set] at h ⊢
    by_cases hj : v = j
    · rw [if_pos hj] at h; split at h <;> cases h
    · rw [if_neg hj] at h ⊢; exact E.tp j h
  tok := E.tok
  tb := E.tb
  dom := E.dom
  gb := E.gb
  gd := E.gd
  gk := E.gk
theorem Sta.wipe (E : Sta K G B O τ σ H ρ T) : ∀ vs : List Nat, Sta K G B O τ (wipe σ vs) H (wipeR ρ vs) T
  | [] => E
  | v :: vs => (E.wipe vs).wipe1 v
/-- a new thing that is filled -/
theorem Sta.fill (E : Sta K G B O τ σ H ρ T) {p : Addr} {o : HO} (hp : H p = none) : Sta K G B (addO O p) τ σ (upd H p o) ρ T where
  len := E.len
  fr := fun j d h => by
    obtain ⟨v, e, r⟩ := E.fr j d h
    exact ⟨v, e, r.go (Gr.new hp) (fun _ z _ => z.elim) (addO_new hp)⟩
  ow := fun j d h => by
    obtain ⟨a, e, oa, nb, ga, ta, r⟩ := E.ow j d h
    exact ⟨a, e, .inl oa, nb, ga, ta, r.go (Gr.new hp) (fun _ z _ => z.elim) (addO_new hp) id⟩
  sep := E.sep
  tp := E.tp
  tok := E.tok.more hp
  tb := E.tb
  dom := fun a z => by
    rcases z with z | z
    · rw [upd_ne fun e => E.dom a z (by rw [e]; exact hp)]; exact E.dom a z
    · rw [z, upd_same]; simp
  gb := fun a z => .inl (E.gb a z)
  gd := E.gd
  gk := E.gk.tr (Xt.new hp)
/-- the filled thing changes: it is no slot's and no tape's -/
theorem Sta.turnAt (E : Sta K G B O τ σ H ρ T) {p : Addr} {o u : HO} (hp : H p = some u) (nf : ¬ Fix u) (op : O p) (nt : τ ≠ some p) (ng : G p = none) (ns : ∀ (i : Nat) (d : D), ρ[i]? = some (.ow d) → σ[i]? ≠ some (some (.ref p))) : Sta K G B O τ σ (upd H p o) ρ T := by
  have x : Xt O H (upd H p o) := Xt.wr op hp nf
  exact {
    len := E.len
    fr := fun j d h => by
      obtain ⟨v, e, r⟩ := E.fr j d h
      exact ⟨v, e, r.go x (fun _ z _ => z) fun _ z => .inl z⟩
    ow := fun j d h => by
      obtain ⟨a, e, oa, nb, ga, ta, r⟩ := E.ow j d h
      have hne : a ≠ p := fun z => ns j d h (by rw [e, z])
      refine ⟨a, e, oa, nb, ga, ta, ?_⟩
      have x' : Xt (fun b => b = p) H (upd H p o) := Xt.wr rfl hp nf
      exact r.go x' (fun b z _ => by rw [z]; exact op) (fun _ z => .inl z) hne
    sep := E.sep
    tp := E.tp
    tok := E.tok.go (S := fun b => b = p) (Xt.wr rfl hp nf) (fun b z _ => by subst z; exact ⟨op, nt⟩) (fun _ z => .inl z) E.tO
    tb := E.tb
    dom := fun a z => by
      by_cases h : a = p
      · rw [h, upd_same]; simp
      · rw [upd_ne h]; exact E.dom a z
    gb := E.gb
    gd := E.gd
    gk := fun a u' h n => by
      have h1 := E.gk a u' h n
      have hne : a ≠ p := fun z => by rw [z, ng] at h; cases h
      rw [upd_ne hne]; exact h1 }
end

def lcL (g : FG) (ft : FT) (fe : FE) (ρ : Rho) : List D → Tp → Option (List D × Tp)
  | [], T => some ([], T)
  | d :: ds, T => match g d ρ with
    | none => none
    | some ρ1 => match ft ρ1 T with
      | none => none
      | some (false, T1) => lcL g ft fe ρ ds T1
      | some (true, T1) => match fe ρ1 T1 with
        | none => none
        | some (y, T2) => match lcL g ft fe ρ ds T2 with
          | none => none
          | some (ys, T3) => some (y :: ys, T3)
def eLc (fi : FI) (g : FG) (ft : FT) (fe : FE) (vs : List Nat) : FE := fun ρ T => match fi ρ T with
  | none => none
  | some (ds, T1) => match lcL g ft fe (wipeR ρ vs) ds T1 with
    | none => none
    | some (ys, T2) => if ds.length ≤ sizeLine then some (.list ys, T2) else none
theorem RepL.app {K : PySem.W.Frag} {O : OS} {H : Hp} {v : V} {d : D} (r : Rep K O H v d) : ∀ {ds : List D} {vs : List V}, RepL K O H vs ds → RepL K O H (vs ++ [v]) (ds ++ [d])
  | [], _, .nil => .cons r .nil
  | _ :: _, _, .cons q t => .cons q (RepL.app r t)
theorem Xt.mut {S : OS} {H H' : Hp} {p : Addr} {o : HO} (x : Xt S H H') (hp : H p = none) : Xt S H (upd H' p o) := fun a u e n => by
  rw [upd_ne (ne_of_none e hp)]
  exact x a u e n
theorem tLc_of {K : PySem.W.Frag} {fi : FI} {g : FG} {ft : FT} {fe : FE} {ws vs : List Nat} (hw : ∀ j ∈ ws, j ∈ vs) {σ : L2.St} {H : Hp} {Q : VK} (h : rdN K (eLc fi g ft fe vs) σ H Q) : tLc (rdI K fi) (rdG K ws g) (rdT K ft) (rdE K fe) vs σ H Q := by
  obtain ⟨G, B, O, τ, ρ, T, d, T', E, hf, q⟩ := h
  unfold eLc at hf
  split at hf
  · cases hf
  rename_i ds T1 h1
  split at hf
  · cases hf
  rename_i ys T2 h2
  split at hf
  case isFalse => cases hf
  rename_i hsz
  cases hf
  refine ⟨G, B, O, τ, ρ, T, ds, T1, E, h1, fun J H1 x1 t1 w1 p hp => ?_⟩
  have E1 := E.step x1 t1
  have np : ∀ a, O a → a ≠ p := fun a z e => E1.dom a z (by rw [e]; exact hp)
  have ns : ∀ (i : Nat) (d : D), (wipeR ρ vs)[i]? = some (.ow d) → (wipe σ vs)[i]? ≠ some (some (.ref p)) := fun i d e z => by
    obtain ⟨a, e2, oa, _⟩ := (E1.wipe vs).ow i d e
    rw [z] at e2; cases e2
    exact np p oa rfl
  have gp : G p = none := by
    cases e : G p with
    | none => rfl
    | some u =>
      have := E1.gk p u e (.inl fun z => np p (E1.tO p z) rfl)
      rw [hp] at this; cases this
  have nt : τ ≠ some p := fun z => np p (E1.tO p z) rfl
  refine ⟨fun i m H' => i + m = ds.length ∧ ∃ T3 acc ys1 ys2, Sta K G B (addO O p) τ (wipe σ vs) H' (wipeR ρ vs) T3 ∧ Xt (tS τ) H1 H' ∧ H' p = some (.lst acc) ∧ RepL K (addO O p) H' acc ys1 ∧ acc.length ≤ i ∧
      lcL g ft fe (wipeR ρ vs) (ds.drop i) T3 = some (ys2, T') ∧ ys = ys1 ++ ys2, ⟨ds.length, by omega, T1, [], [], ys, (E1.wipe vs).fill hp, Xt.new hp, upd_same, .nil, Nat.le_refl _, by rw [List.drop_zero]; exact h2, rfl⟩, ?_⟩
  rintro i m H' ⟨im, T3, acc, ys1, ys2, E3, x3, hacc, racc, lacc, hl, rfl⟩
  have a3 : Aft O (addO O p) H1 H' := ⟨x3.mono E1.tO, addO_new hp⟩
  obtain ⟨wg, wst⟩ := w1 i (addO O p) H' a3 E3.dom
  by_cases hi : i < ds.length
  · have e : ds[i]? = some ds[i] := List.getElem?_eq_getElem hi
    obtain ⟨go, yl⟩ := wg _ e
    rw [List.drop_eq_getElem_cons hi] at hl
    generalize ds[i] = d at *
    have hl : (match g d (wipeR ρ vs) with
      | none => none
      | some ρ1 => match ft ρ1 T3 with
        | none => none
        | some (false, T1) => lcL g ft fe (wipeR ρ vs) (ds.drop (i + 1)) T1
        | some (true, T1) => match fe ρ1 T1 with
          | none => none
          | some (y, T2) => match lcL g ft fe (wipeR ρ vs) (ds.drop (i + 1)) T2 with
            | none => none
            | some (ys, T3) => some (y :: ys, T3)) = some (ys2, T') := hl
    refine .inr ⟨go, fun H4 => ∃ T3 acc ys1' ys2', Sta K G B (addO O p) τ (wipe σ vs) H4 (wipeR ρ vs) T3 ∧ Xt (tS τ) H1 H4 ∧ H4 p = some (.lst acc) ∧ RepL K (addO O p) H4 acc ys1' ∧ acc.length ≤ i + 1 ∧
      lcL g ft fe (wipeR ρ vs) (ds.drop (i + 1)) T3 = some (ys2', T') ∧ ys1 ++ ys2 = ys1' ++ ys2', fun H4 h4 => ⟨m - 1, by omega, by omega, h4⟩, fun x H2 hy => ?_⟩
    obtain ⟨gr, rx⟩ := yl x H2 hy
    have grt : Xt (tS τ) H' H2 := gr.mono fun _ z => z.elim
    have tOp : ∀ a, tS τ a → addO O p a := fun a z => .inl (E1.tO a z)
    have keep : ∀ {H5 H6 : Hp} {u}, Xt (tS τ) H5 H6 → H5 p = some u → H6 p = some u := fun x e => x p _ e (.inl nt)
    split at hl
    · cases hl
    rename_i ρ1 hg
    refine ⟨G, B, addO O p, τ, _, T3, d, ρ1, E3.grow gr, rx, hg, fun σ2 o2 E4 => ⟨wipe_off o2 hw, ?_⟩⟩
    split at hl
    · cases hl
    · rename_i T4 ht
      refine ⟨G, B, addO O p, τ, ρ1, T3, false, T4, E4, ht, fun H5 x5 t5 => ?_⟩
      have x35 := grt.tr x5
      exact ⟨T4, acc, ys1, ys2, E3.step x35 t5, x3.tr x35, keep x35 hacc, racc.go x35 (fun a z _ => tOp a z) (fun _ z => .inl z), by omega, hl, rfl⟩
    · rename_i T4 ht
      refine ⟨G, B, addO O p, τ, ρ1, T3, true, T4, E4, ht, fun H5 x5 t5 => ?_⟩
      have x35 := grt.tr x5
      split at hl
      · cases hl
      rename_i y T5 he
      split at hl
      · cases hl
      rename_i ys3 T6 hr
      cases hl
      refine ⟨G, B, addO O p, τ, ρ1, T4, y, T5, E4.step x5 t5, he, fun yv H6 x6 t6 ry => ?_⟩
      have x36 := x35.tr x6
      have hacc6 := keep x36 hacc
      have E6 := E3.step x36 t6
      refine ⟨acc, hacc6, by omega, T5, acc ++ [yv], ys1 ++ [y], ys3, E6.turnAt hacc6 id (.inr rfl) nt gp ns, (x3.tr x36).mut hp, upd_same, ?_, by rw [List.length_append]; exact Nat.add_le_add_right lacc 1, hr, by rw [List.append_assoc]; rfl⟩
      have xw : Xt (fun b => b = p) H6 (upd H6 p (.lst (acc ++ [yv]))) := Xt.wr rfl hacc6 id
      have hin : ∀ a, a = p → H6 a ≠ none → addO O p a := fun a z _ => .inr z
      exact RepL.app (ry.go xw hin fun _ z => .inl z) ((racc.go x36 (fun a z _ => tOp a z) (fun _ z => .inl z)).go xw hin fun _ z => .inl z)
  · have e : i = ds.length := by omega
    subst e
    rw [List.drop_length] at hl
    cases hl
    rw [List.append_nil] at q
    have hp0 : H p = none := by
      cases e : H p with
      | none => rfl
      | some u =>
        have := x1 p u e (.inl nt)
        rw [hp] at this; cases this
    exact .inl ⟨wst (Nat.le_refl _), q p H' hp0 (x1.tr x3) E3.tok (.lst hacc racc)⟩

section
variable {X : Cx}
/-- the tests of a clause -/
structure STs (X : Cx) (ifs : List Expr) (f : FT) : Prop where
  pt : PTs X ifs (rdT X.K f)
theorem PTs.imp {ifs : List Expr} {t u : TT} (h : PTs X ifs t) (w : ∀ σ H Q, u σ H Q → t σ H Q) : PTs X ifs u := ⟨fun pins s σ H Q I q => h.run pins s σ H Q I (w σ H Q q)⟩
def tTrue : FT := fun _ T => some (true, T)
theorem sts_nil : STs X [] tTrue := ⟨PTs.imp pts_nil fun σ H Q ⟨G, B, O, τ, ρ, T, d, T', E, hf, q⟩ => by
  cases hf
  exact q H (Xt.refl H) E.tok⟩
theorem sts_one {c : Expr} {f : FT} (h : ST X c f) : STs X [c] f := ⟨pts_one h.pe⟩
theorem sn_lc {elt tg iter : Expr} {ifs : List Expr} {scope : Scope} {own : List (Str × Nat)} {pos : Pos} {fi : FI} {g : FG} {ft : FT} {fe : FE} {ws : List Nat} (hc : X.calm = true) (hN : X.N.Nodup) (hi : SI X tg iter fi) (ok : BlkOk X.N X.env.scope scope own)
    (hg : ∀ (s : Shared) (H : Hp) (C : Addr) (cl : List (Str × Addr)) (fp : List Addr), SG (X.blk s H scope (compEnvC scope cl C X.env) fp) tg ws g) (ht : ∀ (s : Shared) (H : Hp) (C : Addr) (cl : List (Str × Addr)) (fp : List Addr), STs (X.blk s H scope (compEnvC scope cl C X.env) fp) ifs ft)
    (he : ∀ (s : Shared) (H : Hp) (C : Addr) (cl : List (Str × Addr)) (fp : List Addr), SE (X.blk s H scope (compEnvC scope cl C X.env) fp) elt fe) (hw : ∀ j ∈ ws, j ∈ own.map (·.2) := by decide) (hs : ∀ x, foldedSetIterable iter X.env x = pure x := by intro _; rfl) :
    SN X (.ListComp elt [⟨tg, iter, ifs, 0⟩] scope pos) (eLc fi g ft fe (own.map (·.2))) := ⟨PE.imp (pe_lc hc hN hi.pi ok (fun s H C cl fp => (hg s H C cl fp).pg) (fun s H C cl fp => (ht s H C cl fp).pt) (fun s H C cl fp => (he s H C cl fp).pe) hs) fun σ H Q h => tLc_of hw h⟩
theorem ss_newLc {i : Nat} {y : Str} {py : Pos} {elt tg iter : Expr} {ifs : List Expr} {scope : Scope} {own : List (Str × Nat)} {pos spos : Pos} {fi : FI} {g : FG} {ft : FT} {fe : FE} {ws : List Nat} (hc : X.calm = true) (hN : X.N.Nodup) (hi : SI X tg iter fi) (ok : BlkOk X.N X.env.scope scope own)
    (hg : ∀ (s : Shared) (H : Hp) (C : Addr) (cl : List (Str × Addr)) (fp : List Addr), SG (X.blk s H scope (compEnvC scope cl C X.env) fp) tg ws g) (ht : ∀ (s : Shared) (H : Hp) (C : Addr) (cl : List (Str × Addr)) (fp : List Addr), STs (X.blk s H scope (compEnvC scope cl C X.env) fp) ifs ft)
    (he : ∀ (s : Shared) (H : Hp) (C : Addr) (cl : List (Str × Addr)) (fp : List Addr), SE (X.blk s H scope (compEnvC scope cl C X.env) fp) elt fe)
    (hsw : swapsWith (.ListComp elt [⟨tg, iter, ifs, 0⟩] scope pos) (some (.Name y py)) spos.line X.env = pure true := by exact sw_true rfl rfl rfl (by decide +kernel)) (hy : X.N[i]? = some y := by rfl) (hyl : X.env.scope.names.lookup y = some .local := by rfl)
    (hw : ∀ j ∈ ws, j ∈ own.map (·.2) := by decide) (hs : ∀ x, foldedSetIterable iter X.env x = pure x := by intro _; rfl) :
    SS X (.Assign [.Name y py] (.ListComp elt [⟨tg, iter, ifs, 0⟩] scope pos) spos) (sNew i (eLc fi g ft fe (own.map (·.2)))) := ⟨PS.imp (ps_setLc hc hN hy hyl hsw hi.pi ok (fun s H C cl fp => (hg s H C cl fp).pg) (fun s H C cl fp => (ht s H C cl fp).pt) (fun s H C cl fp => (he s H C cl fp).pe) hs) fun D σ H h => by
  obtain ⟨G, B, O, τ, ρ, T, fl, T', E, hf, q⟩ := h
  unfold sNew at hf
  split at hf
  · cases hf
  · rename_i d T1 h
    cases hf
    exact tLc_of hw ⟨G, B, O, τ, ρ, T, d, T', E, h, fun p H' hp x t r => q _ H' (addO O p) ⟨x.mono E.tO, addO_new hp⟩ (E.own hp x t r)⟩⟩
end
end Dv

/-! Dv7: defs and calls. -/
namespace Dv
open PySem PySem.Spec PyProof.Rows L2

/-- the promise of a def that computes f, and changes nothing -/
def spP (K : PySem.W.Frag) (n : Nat) (f : List D → Option D) : Sp := fun vs H Q _ => ∃ O ds d, (∀ a, O a → H a ≠ none) ∧ RepL K O H vs ds ∧ ds.length = n ∧ f ds = some d ∧ ∀ v H', Gr H H' → Rep K O H' v d → Q v H'
/-- .. that turns the tape, its first argument -/
def spT (K : PySem.W.Frag) (n : Nat) (f : List D → Tp → Option (D × Tp)) : Sp := fun vs H Q _ => ∃ p ws O T ds d T', vs = .ref p :: ws ∧ (∀ a, O a → H a ≠ none) ∧ TpOk O (some p) H T ∧ RepL K O H ws ds ∧ ds.length = n ∧ f ds T = some (d, T') ∧
  ∀ v H', Xt (tS (some p)) H H' → TpOk O (some p) H' T' → Rep K O H' v d → Q v H'
def T0 : Tp := ⟨[], 0, 0, 0, 0⟩
def frame (N : Nat) (cs : List Cell) : Rho := cs ++ List.replicate (N - cs.length) .un
def bodyP (N : Nat) (b : FS) : List D → Option D := fun ds => match b (frame N (ds.map .fr)) T0 with
  | some (.rt d, _) => some d
  | some (.nx _, _) => some .none
  | _ => none
def bodyT (N : Nat) (b : FS) : List D → Tp → Option (D × Tp) := fun ds T => match b (frame N (.tp :: ds.map .fr)) T with
  | some (.rt d, T1) => some (d, T1)
  | some (.nx _, T1) => some (.none, T1)
  | _ => none

theorem RepL.get {K : PySem.W.Frag} {O : OS} {H : Hp} : ∀ {ds : List D} {vs : List V} {i : Nat} {d : D}, RepL K O H vs ds → ds[i]? = some d → ∃ v, vs[i]? = some v ∧ Rep K O H v d
  | [], _, _, _, .nil, e => by simp at e
  | _ :: _, _, 0, _, .cons r _, e => by simp at e; subst e; exact ⟨_, rfl, r⟩
  | _ :: _, _, i + 1, d, .cons _ t, e => by
    obtain ⟨v, h1, h2⟩ := RepL.get (i := i) (d := d) t (by simpa using e)
    exact ⟨v, by simpa using h1, h2⟩
section
variable {K : PySem.W.Frag} {H : Hp} {O : OS} {N : List Str} {vs : List V} {ds : List D} {T : Tp}
theorem frame_len {n : Nat} {cs : List Cell} (h : cs.length ≤ n) : (frame n cs).length = n := by
  unfold frame
  rw [List.length_append, List.length_replicate]; omega
theorem start_len {N : List Str} {vs : List V} (h : vs.length ≤ N.length) : (L2.start N vs).length = N.length := by
  unfold L2.start
  rw [List.length_append, List.length_map, List.length_replicate]; omega
theorem frame_get {n : Nat} {cs : List Cell} {i : Nat} {c : Cell} (h : (frame n cs)[i]? = some c) (hc : c ≠ .un) : cs[i]? = some c := by
  unfold frame at h
  rw [List.getElem?_append] at h
  split at h
  · exact h
  · rw [List.getElem?_replicate] at h
    split at h
    · cases h; exact absurd rfl hc
    · cases h
theorem start_get {i : Nat} {v : V} (h : vs[i]? = some v) : (L2.start N vs)[i]? = some (some v) := by
  unfold L2.start
  have hl : i < vs.length := (List.getElem?_eq_some_iff.mp h).1
  rw [List.getElem?_append, if_pos (by rw [List.length_map]; exact hl), List.getElem?_map, h]; rfl
theorem sta_startP (hO : ∀ a, O a → H a ≠ none) (r : RepL K O H vs ds) (hl : ds.length ≤ N.length) : Sta K H O O none (L2.start N vs) H (frame N.length (ds.map .fr)) T where
  len := by rw [frame_len (by rw [List.length_map]; exact hl), start_len (by rw [r.length]; exact hl)]
  fr := fun i d h => by
    have h1 := frame_get h (by intro z; cases z)
    rw [List.getElem?_map] at h1
    cases e : ds[i]? with
    | none => rw [e] at h1; cases h1
    | some d' =>
      rw [e] at h1; cases h1
      obtain ⟨v, hv, rv⟩ := r.get e
      exact ⟨v, start_get hv, rv⟩
  ow := fun i d h => by
    have h1 := frame_get h (by intro z; cases z)
    rw [List.getElem?_map] at h1
    cases e : ds[i]? <;> rw [e] at h1 <;> cases h1
  sep := fun i j d d' a h _ _ _ => by
    have h1 := frame_get h (by intro z; cases z)
    rw [List.getElem?_map] at h1
    cases e : ds[i]? <;> rw [e] at h1 <;> cases h1
  tp := fun i h => by
    have h1 := frame_get h (by intro z; cases z)
    rw [List.getElem?_map] at h1
    cases e : ds[i]? <;> rw [e] at h1 <;> cases h1
  tok := fun p e => by cases e
  tb := fun p e => by cases e
  dom := hO
  gb := fun _ z => z
  gd := hO
  gk := Xt.refl H
theorem sta_startT {p : Addr} (hO : ∀ a, O a → H a ≠ none) (t : TpOk O (some p) H T) (r : RepL K O H vs ds) (hl : ds.length + 1 ≤ N.length) : Sta K H O O (some p) (L2.start N (.ref p :: vs)) H (frame N.length (.tp :: ds.map .fr)) T where
  len := by rw [frame_len (by rw [List.length_cons, List.length_map]; exact hl), start_len (by rw [List.length_cons, r.length]; exact hl)]
  fr := fun i d h => by
    have h1 := frame_get h (by intro z; cases z)
    cases i with
    | zero => cases h1
    | succ i =>
      rw [List.getElem?_cons_succ, List.getElem?_map] at h1
      cases e : ds[i]? with
      | none => rw [e] at h1; cases h1
      | some d' =>
        rw [e] at h1; cases h1
        obtain ⟨v, hv, rv⟩ := r.get e
        exact ⟨v, start_get hv, rv⟩
  ow := fun i d h => by
    have h1 := frame_get h (by intro z; cases z)
    cases i with
    | zero => cases h1
    | succ i =>
      rw [List.getElem?_cons_succ, List.getElem?_map] at h1
      cases e : ds[i]? <;> rw [e] at h1 <;> cases h1
  sep := fun i j d d' a h _ _ _ => by
    have h1 := frame_get h (by intro z; cases z)
    cases i with
    | zero => cases h1
    | succ i =>
      rw [List.getElem?_cons_succ, List.getElem?_map] at h1
      cases e : ds[i]? <;> rw [e] at h1 <;> cases h1
  tp := fun i h => by
    have h1 := frame_get h (by intro z; cases z)
    cases i with
    | zero => exact ⟨p, rfl, start_get rfl⟩
    | succ i =>
      rw [List.getElem?_cons_succ, List.getElem?_map] at h1
      cases e : ds[i]? <;> rw [e] at h1 <;> cases h1
  tok := t
  tb := fun q e => (t q e).1
  dom := hO
  gb := fun _ z => z
  gd := hO
  gk := Xt.refl H
end
section
variable {P : Program} {w : World} {K : PySem.W.Frag} {mg : Str → Option Value} {base : Heap}
theorem fn_p {x qual : Str} {st : Stmt} {f : Addr} {fd : FuncData} {N ps : List Str} {k : Nat} {b : FS} (F : Fun K x qual st f fd) (S : FnScope N ps (defScope st)) (hl : ps.length ≤ N.length)
    (hb : ∀ (cdv : Value) (A : Around) (outer : List Env) (s : Shared) (H : Hp) (E : XK), Room k (A.deeper (envOfC qual (defScope st) s.heap.objs.size f cdv)) →
      SSs (cxOf CX0 P w K mg base N qual (defScope st) f cdv A outer s H E).nox (defBody st) b) : FnOk P w K mg base CX0 (k + 1) f fd ps (spP K ps.length (bodyP N.length b)) := by
  refine F.ok S (fun vs H Q E h => ?_) (fun cdv A outer s H vs Q E hr h => ?_)
  · obtain ⟨O, ds, d, _, r, e, _⟩ := h
    rw [r.length, e]
  · obtain ⟨O, ds, d, hO, r, e, hf, q⟩ := h
    refine ⟨_, (hb cdv A outer s H E hr).ps, ?_⟩
    unfold bodyP at hf
    have E0 : Sta K H O O none (L2.start N vs) H (frame N.length (ds.map .fr)) T0 := sta_startP hO r (by omega)
    split at hf
    · rename_i d1 T1 h1
      cases hf
      exact ⟨H, O, O, none, _, T0, .rt d, T1, E0, h1, fun v H' _ x rv => q v H' (x.mono fun _ z => by cases z) rv⟩
    · rename_i ρ1 T1 h1
      cases hf
      exact ⟨H, O, O, none, _, T0, .nx ρ1, T1, E0, h1, fun σ' H' O' _ E' => q .non H' (E'.gk.mono fun _ z => by cases z) .non⟩
    · cases hf
theorem fn_t {x qual : Str} {st : Stmt} {f : Addr} {fd : FuncData} {N ps : List Str} {k n : Nat} {b : FS} (F : Fun K x qual st f fd) (S : FnScope N ps (defScope st)) (hn : ps.length = n + 1) (hl : n + 1 ≤ N.length)
    (hb : ∀ (cdv : Value) (A : Around) (outer : List Env) (s : Shared) (H : Hp) (E : XK), Room k (A.deeper (envOfC qual (defScope st) s.heap.objs.size f cdv)) →
      SSs (cxOf CX0 P w K mg base N qual (defScope st) f cdv A outer s H E).nox (defBody st) b) : FnOk P w K mg base CX0 (k + 1) f fd ps (spT K n (bodyT N.length b)) := by
  refine F.ok S (fun vs H Q E h => ?_) (fun cdv A outer s H vs Q E hr h => ?_)
  · obtain ⟨p, ws, O, T, ds, d, T', e, _, _, r, hd, _⟩ := h
    rw [e, List.length_cons, r.length, hd, hn]
  · obtain ⟨p, ws, O, T, ds, d, T', rfl, hO, t, r, hd, hf, q⟩ := h
    refine ⟨_, (hb cdv A outer s H E hr).ps, ?_⟩
    unfold bodyT at hf
    have E0 : Sta K H O O (some p) (L2.start N (.ref p :: ws)) H (frame N.length (.tp :: ds.map .fr)) T := sta_startT hO t r (by omega)
    split at hf
    · rename_i d1 T1 h1
      cases hf
      exact ⟨H, O, O, some p, _, T, .rt d, T', E0, h1, fun v H' t' x rv => q v H' x t' rv⟩
    · rename_i ρ1 T1 h1
      cases hf
      exact ⟨H, O, O, some p, _, T, .nx ρ1, T', E0, h1, fun σ' H' O' _ E' => q .non H' E'.gk E'.out .non⟩
    · cases hf
end

/-! ### calls of defs -/
section
variable {X : Cx} {k n : Nat} {f : Addr} {fd : FuncData} {ps : List Str} {x : Str} {p pos : Pos} {e : Expr} {es : List Expr} {fa : FA}
def eCall (g : List D → Option D) (fa : FA) : FE := fun ρ T => match fa ρ T with
  | none => none
  | some (ds, T1) => match g ds with
    | none => none
    | some d => some (d, T1)
theorem tCall_of {K : PySem.W.Frag} {g : List D → Option D} {E : XK} {σ : L2.St} {H : Hp} {Q : VK} (hn : ∀ ds d, g ds = some d → ds.length = n) (h : rdE K (eCall g fa) σ H Q) : tCall (spP K n g) [] E (rdA K fa) σ H Q := by
  obtain ⟨G, B, O, τ, ρ, T, d, T', E, hf, q⟩ := h
  unfold eCall at hf
  split at hf
  · cases hf
  rename_i ds T1 h1
  split at hf
  · cases hf
  rename_i d' h2
  cases hf
  refine ⟨G, B, O, τ, ρ, T, ds, T', E, h1, fun vs H1 x1 t1 r1 => ?_⟩
  show spP K n g (vs ++ []) H1 Q _
  rw [List.append_nil]
  exact ⟨O, ds, d, (E.step x1 t1).dom, r1, hn ds d h2, h2, fun v H' g' rv => q v H' (x1.tr (g'.mono fun _ z => z.elim)) (t1.gr g') rv⟩
def argc (n : Nat) (g : List D → Option D) : List D → Option D := fun ds => if ds.length = n then g ds else none
theorem argc_len {n : Nat} {g : List D → Option D} : ∀ ds d, argc n g ds = some d → ds.length = n := fun ds d h => by
  unfold argc at h
  split at h
  · assumption
  · cases h
theorem argc_f {n : Nat} {g : List D → Option D} {ds : List D} {d : D} (h : argc n g ds = some d) : g ds = some d := by
  unfold argc at h
  split at h
  · exact h
  · cases h
theorem se_call {g : List D → Option D} (F : FnOk X.prog X.w X.K X.mg X.base CX0 k f fd ps (spP X.K n g)) (hr : Room k X.A) (hm : X.mg x = some (.ref f)) (hk : PySem.W.keepIn X.K (.ref f) = true) (hb : Binds X.K fd ps [])
    (ha : SA X (e :: es) fa) (hg : Gl X x := by rfl) (hdb : (x == ("__debug__" : Str)) = false := by decide) (he : starEach (e :: es) X.env = (false, eval e X.env) :: starEach es X.env := by rfl) (hpl : (backTo pos (starEach es X.env)).any (·.1) = false := by rfl) :
    SE X (.Call (.Name x p) (e :: es) [] pos) (eCall (argc n g) fa) := by
  have F' : FnOk X.prog X.w X.K X.mg X.base CX0 k f fd ps (spP X.K n (argc n g)) := F.imp fun vs H Q E ⟨O, ds, d, h1, h2, h3, h4, h5⟩ => ⟨O, ds, d, h1, h2, h3, argc_f h4, h5⟩
  exact ⟨PE.imp (pe_call F' hr hg hm hk hb (.nil) (E := E0) pass0 ha.pe hdb he hpl) fun σ H Q h => tCall_of argc_len h⟩
def eCallT (i : Nat) (n : Nat) (g : List D → Tp → Option (D × Tp)) (fa : FA) : FE := fun ρ T => match ρ[i]? with
  | some .tp => match fa ρ T with
    | none => none
    | some (ds, T1) => if ds.length = n then g ds T1 else none
  | _ => none
theorem se_callT {g : List D → Tp → Option (D × Tp)} {y : Str} {py : Pos} (i : Nat) (F : FnOk X.prog X.w X.K X.mg X.base CX0 k f fd ps (spT X.K n g)) (hr : Room k X.A) (hm : X.mg x = some (.ref f)) (hk : PySem.W.keepIn X.K (.ref f) = true) (hb : Binds X.K fd ps [])
    (ha : SA X es fa) (hN : X.N[i]? = some y := by rfl) (hv : Vis X.env.scope y := by first | exact Or.inl rfl | exact Or.inr (Or.inl rfl) | exact Or.inr (Or.inr rfl)) (hg : Gl X x := by rfl) (hdb : (x == ("__debug__" : Str)) = false := by decide) (hd : (y == ("__debug__" : Str)) = false := by decide)
    (hcd : (y == ("__classdict__" : Str)) = false := by decide) (he : starEach (.Name y py :: es) X.env = (false, eval (.Name y py) X.env) :: starEach es X.env := by rfl) (hpl : (backTo pos (starEach es X.env)).any (·.1) = false := by rfl) :
    SE X (.Call (.Name x p) (.Name y py :: es) [] pos) (eCallT i n g fa) := ⟨PE.imp (pe_call F hr hg hm hk hb .nil (E := E0) pass0 (pa_cons (pe_var hN hv hd hcd) ha.pe he) hdb he hpl) fun σ H Q ⟨G, B, O, τ, ρ, T, d, T', E, hf, q⟩ => by
  unfold eCallT at hf
  split at hf
  · rename_i hi
    split at hf
    · cases hf
    rename_i ds T1 h1
    split at hf
    · rename_i hl
      obtain ⟨a, rfl, hσ⟩ := E.tp i hi
      refine ⟨_, hσ, G, B, O, some a, ρ, T, ds, T1, E, h1, fun vs H1 x1 t1 r1 => ?_⟩
      show spT X.K n g ((.ref a :: vs) ++ []) H1 Q _
      rw [List.append_nil]
      exact ⟨a, vs, O, T1, ds, d, T', rfl, (E.step x1 t1).dom, t1, r1, hl, hf, fun v H' x2 t2 rv => q v H' (x1.tr x2) t2 rv⟩
    · cases hf
  · cases hf⟩
end

/-! ### calls of built-in functions, methods of built-in types, by values -/
def OpN (K : PySem.W.Frag) (r : List V → Hp → VK → Prop) (g : List D → Option D) : Prop := ∀ (O : OS) (H : Hp) (xs : List V) (ds : List D) (d : D) (Q : VK), (∀ a, O a → H a ≠ none) → RepBL K O H xs ds → g ds = some d →
  (∀ v H', Gr H H' → Rep K O H' v d → Q v H') → r xs H Q
def OpNN (K : PySem.W.Frag) (r : List V → Hp → VK → Prop) (g : List D → Option D) : Prop := ∀ (O : OS) (H : Hp) (xs : List V) (ds : List D) (d : D) (Q : VK), (∀ a, O a → H a ≠ none) → RepBL K O H xs ds → g ds = some d →
  (∀ p o, H p = none → Top K (addO O p) (upd H p o) p d → Q (.ref p) (upd H p o)) → r xs H Q
section
variable {X : Cx} {e o : Expr} {es : List Expr} {fa : FA} {fe : FE} {x name : Str} {p pos cpos apos : Pos} {id T : String} {r : List V → Hp → VK → Prop} {g : List D → Option D}
theorem RepBL.step {K : PySem.W.Frag} {O : OS} {H H' : Hp} (x : Gr H H') : ∀ {ds : List D} {vs : List V}, RepBL K O H vs ds → RepBL K O H' vs ds
  | [], _, .nil => .nil
  | _ :: _, _, .cons r q => .cons (r.imp (fun r => r.go x (fun _ z _ => z.elim) fun _ z => .inl z) fun ⟨p, e, t⟩ => ⟨p, e, t.go x (fun _ z _ => z.elim) (fun _ z => .inl z) id⟩) (RepBL.step x q)
inductive RepBTL (K : PySem.W.Frag) (O : OS) (τ : Option Addr) (H : Hp) : List V → List D → Prop
  | nil : RepBTL K O τ H [] []
  | cons {v : V} {vs : List V} {d : D} {ds : List D} : RepBT K O τ H v d → RepBTL K O τ H vs ds → RepBTL K O τ H (v :: vs) (d :: ds)
theorem sab_nil : SAB X [] aNil := ⟨PA.imp pa_nil fun σ H Q ⟨G, B, O, τ, ρ, T, ds, T', E, hf, q⟩ => by
  cases hf
  exact q [] H (Xt.refl H) E.tok .nil⟩
theorem sab_cons {ga : FA} (he : SB X e fe) (hr : SAB X es ga) (hs : starEach (e :: es) X.env = (false, eval e X.env) :: starEach es X.env := by rfl) : SAB X (e :: es) (aCons fe ga) := ⟨PA.imp (pa_cons he.pe hr.pe hs) fun σ H Q ⟨G, B, O, τ, ρ, T, ds, T', E, hf, q⟩ => by
  unfold aCons at hf
  split at hf
  · cases hf
  rename_i d T1 h1
  split at hf
  · cases hf
  rename_i ds T2 h2
  cases hf
  refine ⟨G, B, O, τ, ρ, T, d, T1, E, h1, fun v H1 x1 t1 r1 => ⟨G, B, O, τ, ρ, T1, ds, T', E.step x1 t1, h2, fun vs H2 x2 t2 r2 => ?_⟩⟩
  exact q _ H2 (x1.tr x2) t2 (.cons (r1.step (E.step x1 t1) x2).b r2)⟩
theorem tCB_of {K : PySem.W.Frag} (ho : OpN K r g) (σ : L2.St) (H : Hp) (Q : VK) (h : rdE K (eCall g fa) σ H Q) : tCB r (rdAB K fa) σ H Q := by
  obtain ⟨G, B, O, τ, ρ, T, d, T', E, hf, q⟩ := h
  unfold eCall at hf
  split at hf
  · cases hf
  rename_i ds T1 h1
  split at hf
  · cases hf
  rename_i d' h2
  cases hf
  exact ⟨G, B, O, τ, ρ, T, ds, T', E, h1, fun vs H1 x1 t1 r1 => ho O H1 vs ds d Q (E.step x1 t1).dom r1 h2 fun v H' g' rv => q v H' (x1.tr (g'.mono fun _ z => z.elim)) (t1.gr g') rv⟩
theorem new_back {K : PySem.W.Frag} {G : Hp} {B O : OS} {τ : Option Addr} {σ : L2.St} {H H1 : Hp} {ρ : Rho} {T T1 : Tp} (E : Sta K G B O τ σ H ρ T) (x : Xt (tS τ) H H1) (t : TpOk O τ H1 T1) {p : Addr} (hp : H1 p = none) : H p = none := by
  cases e : H p with
  | none => rfl
  | some u =>
    by_cases hs : tS τ p
    · exact absurd hp ((E.step x t).dom p (E.tO p hs))
    · have := x p u e (.inl hs)
      rw [hp] at this; cases this
theorem tCB_ofN {K : PySem.W.Frag} (ho : OpNN K r g) (σ : L2.St) (H : Hp) (Q : VK) (h : rdN K (eCall g fa) σ H Q) : tCB r (rdAB K fa) σ H Q := by
  obtain ⟨G, B, O, τ, ρ, T, d, T', E, hf, q⟩ := h
  unfold eCall at hf
  split at hf
  · cases hf
  rename_i ds T1 h1
  split at hf
  · cases hf
  rename_i d' h2
  cases hf
  exact ⟨G, B, O, τ, ρ, T, ds, T', E, h1, fun vs H1 x1 t1 r1 => ho O H1 vs ds d Q (E.step x1 t1).dom r1 h2 fun p o hp tt => q p _ (new_back E x1 t1 hp) (x1.tr ((Gr.new hp).mono fun _ z => z.elim)) (t1.more hp) tt⟩
theorem se_callB (hc : CallR X (.builtin id) r) (ho : OpN X.K r g) (hm : X.mg x = none) (ha : SAB X (e :: es) fa) (hv : bootBuiltins x = some (.builtin id) := by decide +kernel) (hg : Gl X x := by rfl) (hn : x ≠ "__name__" := by decide) (hdb : (x == ("__debug__" : Str)) = false := by decide)
    (he : starEach (e :: es) X.env = (false, eval e X.env) :: starEach es X.env := by rfl) (hpl : (backTo pos (starEach es X.env)).any (·.1) = false := by rfl) : SE X (.Call (.Name x p) (e :: es) [] pos) (eCall g fa) :=
  ⟨PE.imp (pe_callB hc hg hm hv ha.pe hn hdb he hpl) (tCB_of ho)⟩
theorem sn_callB (hc : CallR X (.builtin id) r) (ho : OpNN X.K r g) (hm : X.mg x = none) (ha : SAB X (e :: es) fa) (hv : bootBuiltins x = some (.builtin id) := by decide +kernel) (hg : Gl X x := by rfl) (hn : x ≠ "__name__" := by decide) (hdb : (x == ("__debug__" : Str)) = false := by decide)
    (he : starEach (e :: es) X.env = (false, eval e X.env) :: starEach es X.env := by rfl) (hpl : (backTo pos (starEach es X.env)).any (·.1) = false := by rfl) : SN X (.Call (.Name x p) (e :: es) [] pos) (eCall g fa) :=
  ⟨PE.imp (pe_callB hc hg hm hv ha.pe hn hdb he hpl) (tCB_ofN ho)⟩
theorem se_callTy (hc : CallR X (.type T) r) (ho : OpN X.K r g) (hm : X.mg x = none) (ha : SAB X (e :: es) fa) (hv : bootBuiltins x = some (.type T) := by decide +kernel) (hg : Gl X x := by rfl) (hn : x ≠ "__name__" := by decide) (hdb : (x == ("__debug__" : Str)) = false := by decide)
    (he : starEach (e :: es) X.env = (false, eval e X.env) :: starEach es X.env := by rfl) (hpl : (backTo pos (starEach es X.env)).any (·.1) = false := by rfl) : SE X (.Call (.Name x p) (e :: es) [] pos) (eCall g fa) :=
  ⟨PE.imp (pe_callTy hc hg hm hv ha.pe hn hdb he hpl) (tCB_of ho)⟩
theorem sn_callTy (hc : CallR X (.type T) r) (ho : OpNN X.K r g) (hm : X.mg x = none) (ha : SAB X (e :: es) fa) (hv : bootBuiltins x = some (.type T) := by decide +kernel) (hg : Gl X x := by rfl) (hn : x ≠ "__name__" := by decide) (hdb : (x == ("__debug__" : Str)) = false := by decide)
    (he : starEach (e :: es) X.env = (false, eval e X.env) :: starEach es X.env := by rfl) (hpl : (backTo pos (starEach es X.env)).any (·.1) = false := by rfl) : SN X (.Call (.Name x p) (e :: es) [] pos) (eCall g fa) :=
  ⟨PE.imp (pe_callTy hc hg hm hv ha.pe hn hdb he hpl) (tCB_ofN ho)⟩
end
end Dv

/-! Dv8: operations on values. -/
namespace Dv
open PySem PySem.Spec PyProof.Rows L2

section
variable {K : PySem.W.Frag} {O : OS} {H : Hp} {v : V}
theorem rb_int {i : Int} (h : RepB K O H v (.int i)) : v = .int i := by
  rcases h with h | ⟨p, _, h⟩
  · cases h; rfl
  · cases h
theorem rb_str {x : Str} (h : RepB K O H v (.str x)) : v = .str x := by
  rcases h with h | ⟨p, _, h⟩
  · cases h; rfl
  · cases h
theorem rb_bl {b : Bool} (h : RepB K O H v (.bool b)) : v = .bl b := by
  rcases h with h | ⟨p, _, h⟩
  · cases h; rfl
  · cases h
theorem rb_non (h : RepB K O H v .none) : v = .non := by
  rcases h with h | ⟨p, _, h⟩
  · cases h; rfl
  · cases h
theorem rb_list {ds : List D} (h : RepB K O H v (.list ds)) : ∃ p xs, v = .ref p ∧ H p = some (.lst xs) ∧ RepL K O H xs ds := by
  rcases h with h | ⟨p, e, h⟩
  · cases h with | lst n e r => exact ⟨_, _, rfl, e, r⟩
  · cases h with | lst e' r => exact ⟨_, _, e, e', r⟩
theorem rb_tup {ds : List D} (h : RepB K O H v (.tuple ds)) : ∃ p xs, v = .ref p ∧ SqT K H p xs ∧ RepL K O H xs ds := by
  rcases h with h | ⟨p, e, h⟩
  · cases h with | tup e r => exact ⟨_, _, rfl, e, r⟩
  · cases h
theorem rb_dict {es : List (D × D)} (h : RepB K O H v (.dict es)) : ∃ p, v = .ref p ∧ ((∃ kvs, H p = some (.dK kvs) ∧ RepK K O H kvs es) ∨ ∃ kvs, H p = some (.dT kvs) ∧ RepT K O H kvs es) := by
  rcases h with h | ⟨p, e, h⟩
  · cases h with
    | dK n e r => exact ⟨_, rfl, .inl ⟨_, e, r⟩⟩
    | dT n e r => exact ⟨_, rfl, .inr ⟨_, e, r⟩⟩
  · cases h with
    | dK e' r => exact ⟨_, e, .inl ⟨_, e', r⟩⟩
    | dT e' r => exact ⟨_, e, .inr ⟨_, e', r⟩⟩
theorem RepK.length : ∀ {es : List (D × D)} {kvs : List (Key × V)}, RepK K O H kvs es → kvs.length = es.length
  | [], _, .nil => rfl
  | _ :: _, _, .cons _ q => by rw [List.length_cons, List.length_cons, RepK.length q]
theorem RepT.length : ∀ {es : List (D × D)} {kvs : List (List Key × V)}, RepT K O H kvs es → kvs.length = es.length
  | [], _, .nil => rfl
  | _ :: _, _, .cons _ q => by rw [List.length_cons, List.length_cons, RepT.length q]
/-- the data underneath -/
theorem rl_nil {ds : List D} (h : RepL K O H [] ds) : ds = [] := by cases h; rfl
def intsD : List D → Option (List Int)
  | [] => some []
  | .int i :: r => match intsD r with
    | none => none
    | some s => some (i :: s)
  | _ :: _ => none
def boolsD : List D → Option (List Bool)
  | [] => some []
  | .bool i :: r => match boolsD r with
    | none => none
    | some s => some (i :: s)
  | _ :: _ => none
def strsD : List D → Option (List Str)
  | [] => some []
  | .str i :: r => match strsD r with
    | none => none
    | some s => some (i :: s)
  | _ :: _ => none
theorem rl_ints : ∀ {ds : List D} {xs : List V} {ns : List Int}, RepL K O H xs ds → intsD ds = some ns → xs = ns.map V.int
  | [], _, _, .nil, e => by cases e; rfl
  | d :: ds, _, ns, .cons r q, e => by
    cases d <;> try (cases e)
    rename_i i
    cases e2 : intsD ds with
    | none => rw [intsD, e2] at e; cases e
    | some s =>
      rw [intsD, e2] at e; cases e
      cases r
      rw [rl_ints q e2]; rfl
theorem rl_bools : ∀ {ds : List D} {xs : List V} {ns : List Bool}, RepL K O H xs ds → boolsD ds = some ns → xs = ns.map V.bl
  | [], _, _, .nil, e => by cases e; rfl
  | d :: ds, _, ns, .cons r q, e => by
    cases d <;> try (cases e)
    rename_i i
    cases e2 : boolsD ds with
    | none => rw [boolsD, e2] at e; cases e
    | some s =>
      rw [boolsD, e2] at e; cases e
      cases r
      rw [rl_bools q e2]; rfl
theorem rl_strs : ∀ {ds : List D} {xs : List V} {ns : List Str}, RepL K O H xs ds → strsD ds = some ns → xs = ns.map V.str
  | [], _, _, .nil, e => by cases e; rfl
  | d :: ds, _, ns, .cons r q, e => by
    cases d <;> try (cases e)
    rename_i i
    cases e2 : strsD ds with
    | none => rw [strsD, e2] at e; cases e
    | some s =>
      rw [strsD, e2] at e; cases e
      cases r
      rw [rl_strs q e2]; rfl
theorem rl_ofInts : ∀ ns : List Int, RepL K O H (ns.map V.int) (ns.map .int)
  | [] => .nil
  | n :: r => .cons (.int n) (rl_ofInts r)
theorem rl_ofStrs : ∀ ns : List Str, RepL K O H (ns.map V.str) (ns.map .str)
  | [] => .nil
  | n :: r => .cons (.str n) (rl_ofStrs r)
theorem rl_append : ∀ {ds es : List D} {xs ys : List V}, RepL K O H xs ds → RepL K O H ys es → RepL K O H (xs ++ ys) (ds ++ es)
  | [], _, _, _, .nil, s => s
  | _ :: _, _, _, _, .cons r t, s => .cons r (rl_append t s)
theorem rl_drop : ∀ {ds : List D} {xs : List V} (n : Nat), RepL K O H xs ds → RepL K O H (xs.drop n) (ds.drop n)
  | _, _, 0, r => r
  | [], _, _ + 1, .nil => .nil
  | _ :: _, _, n + 1, .cons _ t => rl_drop n t
theorem rl_take : ∀ {ds : List D} {xs : List V} (n : Nat), RepL K O H xs ds → RepL K O H (xs.take n) (ds.take n)
  | _, _, 0, _ => .nil
  | [], _, _ + 1, .nil => .nil
  | _ :: _, _, n + 1, .cons r t => .cons r (rl_take n t)
theorem rl_rev : ∀ {ds : List D} {xs : List V}, RepL K O H xs ds → RepL K O H xs.reverse ds.reverse
  | [], _, .nil => .nil
  | _ :: _, _, .cons r t => by
    rw [List.reverse_cons, List.reverse_cons]
    exact rl_append (rl_rev t) (.cons r .nil)
end

/-! ### intsD -/
def big64 : Nat := 18446744073709551616
theorem big64_eq : big64 = 2 ^ 64 := by decide
def i2 (g : Int → Int → Option D) : D → D → Option D
  | .int i, .int j => g i j
  | _, _ => none
theorem o2_i0 {K : PySem.W.Frag} {g : Int → Int → V} {gd : Int → Int → D} (h : ∀ O H i j, Rep K O H (g i j) (gd i j)) : Op2 K (rI0 g) (i2 fun i j => some (gd i j)) := by
  intro O H x y dx dy d Q _ rx ry hg q
  unfold i2 at hg
  split at hg
  · cases hg
    exact ⟨_, _, rb_int rx, rb_int ry, q _ H (Xt.refl H) (h O H _ _)⟩
  · cases hg
theorem o2_i {K : PySem.W.Frag} {C : Int → Int → Prop} {g : Int → Int → V} {gd : Int → Int → Option D} (h : ∀ O H i j d, gd i j = some d → C i j ∧ Rep K O H (g i j) d) : Op2 K (rI C g) (i2 gd) := by
  intro O H x y dx dy d Q _ rx ry hg q
  unfold i2 at hg
  split at hg
  · obtain ⟨c, r⟩ := h O H _ _ d hg
    exact ⟨_, _, rb_int rx, rb_int ry, c, q _ H (Xt.refl H) r⟩
  · cases hg
def qMulI (i j : Int) : Option D := if i.natAbs.blt big64 || j.natAbs.blt big64 then some (.int (i * j)) else none
theorem o2_mul {K : PySem.W.Frag} : Op2 K (rI CMul fun i j => .int (i * j)) (i2 qMulI) := o2_i fun O H i j d e => by
  unfold qMulI at e
  split at e
  · rename_i c
    cases e
    refine ⟨?_, .int _⟩
    rw [Bool.or_eq_true, Nat.blt_eq, Nat.blt_eq, big64_eq] at c
    unfold CMul
    omega
  · cases e
def qDivI (i j : Int) : Option D := if decide (0 < j) && decide (j < 1073741824) then some (.int (i / j)) else none
theorem o2_div {K : PySem.W.Frag} : Op2 K (rI CDiv fun i j => .int (i / j)) (i2 qDivI) := o2_i fun O H i j d e => by
  unfold qDivI at e
  split at e
  · rename_i c
    cases e
    rw [Bool.and_eq_true, decide_eq_true_eq, decide_eq_true_eq] at c
    exact ⟨c, .int _⟩
  · cases e
def qModI (i j : Int) : Option D := if 0 < j then some (.int (i % j)) else none
theorem o2_mod {K : PySem.W.Frag} : Op2 K (rI (fun _ j => 0 < j) fun i j => .int (i % j)) (i2 qModI) := o2_i fun O H i j d e => by
  unfold qModI at e
  split at e
  · rename_i c
    cases e
    exact ⟨c, .int _⟩
  · cases e
section
variable {X : Cx} {a b : Expr} {fa fb : FE} {pos : Pos}
def qSub : D → D → Option D := i2 fun i j => some (.int (i - j))
theorem se_sub (ha : SB X a fa) (hb : SB X b fb) : SE X (.BinOp a .Sub b pos) (e2 qSub fa fb) := se_op op_sub (o2_i0 fun _ _ _ _ => .int _) ha hb
def qDiv : D → D → Option D := i2 qDivI
theorem se_div (ha : SB X a fa) (hb : SB X b fb) : SE X (.BinOp a .FloorDiv b pos) (e2 qDiv fa fb) := se_op op_fdiv o2_div ha hb
def qMod : D → D → Option D := i2 qModI
theorem se_mod (ha : SB X a fa) (hb : SB X b fb) : SE X (.BinOp a .Mod b pos) (e2 qMod fa fb) := se_op op_mod o2_mod ha hb
def qLt : D → D → Option D := i2 fun i j => some (.bool (decide (i < j)))
theorem se_lt (ha : SB X a fa) (hb : SB X b fb) : SE X (.Compare a [.Lt] [b] pos) (e2 qLt fa fb) := se_cmp op_lt (o2_i0 fun _ _ _ _ => .bl _) ha hb
def qLe : D → D → Option D := i2 fun i j => some (.bool (decide (i ≤ j)))
theorem se_le (ha : SB X a fa) (hb : SB X b fb) : SE X (.Compare a [.LtE] [b] pos) (e2 qLe fa fb) := se_cmp op_le (o2_i0 fun _ _ _ _ => .bl _) ha hb
def qGt : D → D → Option D := i2 fun i j => some (.bool (decide (j < i)))
theorem se_gt (ha : SB X a fa) (hb : SB X b fb) : SE X (.Compare a [.Gt] [b] pos) (e2 qGt fa fb) := se_cmp op_gt (o2_i0 fun _ _ _ _ => .bl _) ha hb
def qGe : D → D → Option D := i2 fun i j => some (.bool (decide (j ≤ i)))
theorem se_ge (ha : SB X a fa) (hb : SB X b fb) : SE X (.Compare a [.GtE] [b] pos) (e2 qGe fa fb) := se_cmp op_ge (o2_i0 fun _ _ _ _ => .bl _) ha hb

/-! ### one operand -/
def e1 (g : D → Option D) (fa : FE) : FE := fun ρ T => match fa ρ T with
  | none => none
  | some (x, T1) => match g x with
    | none => none
    | some z => some (z, T1)
def Op1 (K : PySem.W.Frag) (r : V → Hp → VK → Prop) (g : D → Option D) : Prop := ∀ (O : OS) (H : Hp) (x : V) (dx d : D) (Q : VK), (∀ a, O a → H a ≠ none) → RepB K O H x dx → g dx = some d →
  (∀ v H', Gr H H' → Rep K O H' v d → Q v H') → r x H Q
def Op1N (K : PySem.W.Frag) (r : V → Hp → VK → Prop) (g : D → Option D) : Prop := ∀ (O : OS) (H : Hp) (x : V) (dx d : D) (Q : VK), (∀ a, O a → H a ≠ none) → RepB K O H x dx → g dx = some d →
  (∀ p o, H p = none → Top K (addO O p) (upd H p o) p d → Q (.ref p) (upd H p o)) → r x H Q
theorem e1_some {g : D → Option D} {ρ : Rho} {T T' : Tp} {d : D} (h : e1 g fa ρ T = some (d, T')) : ∃ dx, fa ρ T = some (dx, T') ∧ g dx = some d := by
  unfold e1 at h
  split at h
  · cases h
  rename_i dx T1 h1
  split at h
  · cases h
  rename_i z h3
  cases h
  exact ⟨dx, h1, h3⟩
theorem tUn_of {K : PySem.W.Frag} {r : V → Hp → VK → Prop} {g : D → Option D} (ho : Op1 K r g) (σ : L2.St) (H : Hp) (Q : VK) (h : rdE K (e1 g fa) σ H Q) : tUn r (rdB K fa) σ H Q := by
  obtain ⟨G, B, O, τ, ρ, T, d, T', E, hf, q⟩ := h
  obtain ⟨dx, h1, h3⟩ := e1_some hf
  exact ⟨G, B, O, τ, ρ, T, dx, T', E, h1, fun x H1 x1 t1 r1 => ho O H1 x dx d Q (E.step x1 t1).dom r1.b h3 fun v H' x3 r3 => q v H' (x1.tr (x3.mono fun _ z => z.elim)) (t1.gr x3) r3⟩
theorem tUn_ofN {K : PySem.W.Frag} {r : V → Hp → VK → Prop} {g : D → Option D} (ho : Op1N K r g) (σ : L2.St) (H : Hp) (Q : VK) (h : rdN K (e1 g fa) σ H Q) : tUn r (rdB K fa) σ H Q := by
  obtain ⟨G, B, O, τ, ρ, T, d, T', E, hf, q⟩ := h
  obtain ⟨dx, h1, h3⟩ := e1_some hf
  exact ⟨G, B, O, τ, ρ, T, dx, T', E, h1, fun x H1 x1 t1 r1 => ho O H1 x dx d Q (E.step x1 t1).dom r1.b h3 fun p o hp tt => q p _ (new_back E x1 t1 hp) (x1.tr ((Gr.new hp).mono fun _ z => z.elim)) (t1.more hp) tt⟩
def qNeg : D → Option D
  | .int i => some (.int (-i))
  | _ => none
theorem se_neg (ha : SB X a fa) : SE X (.UnaryOp .USub a pos) (e1 qNeg fa) := ⟨PE.imp (pe_un un_neg ha.pe) (tUn_of fun O H x dx d Q _ rx hg q => by
  unfold qNeg at hg
  split at hg
  · cases hg
    exact ⟨_, rb_int rx, q _ H (Xt.refl H) (.int _)⟩
  · cases hg)⟩

/-! ### == -/
mutual
/-- no dicts within, and not too deep -/
def eqOk : Nat → D → Bool
  | _, .none => true
  | _, .bool _ => true
  | _, .int _ => true
  | _, .str x => PyData.strOk x
  | 0, .list _ => false
  | n + 1, .list ds => eqOkL n ds
  | 0, .tuple _ => false
  | n + 1, .tuple ds => eqOkL n ds
  | _, .dict _ => false
def eqOkL : Nat → List D → Bool
  | _, [] => true
  | n, d :: ds => eqOk n d && eqOkL n ds
end
mutual
theorem eqOk_lay : ∀ (n : Nat) (d : D), eqOk n d = true → PyData.canLay0 d = true ∧ PyData.depth d ≤ n
  | _, .none, _ => ⟨by simp only [PyData.canLay0], by simp only [PyData.depth]; omega⟩
  | _, .bool _, _ => ⟨by simp only [PyData.canLay0], by simp only [PyData.depth]; omega⟩
  | _, .int _, _ => ⟨by simp only [PyData.canLay0], by simp only [PyData.depth]; omega⟩
  | _, .str x, h => ⟨by simp only [PyData.canLay0]; simpa only [eqOk] using h, by simp only [PyData.depth]; omega⟩
  | 0, .list _, h => by simp only [eqOk] at h; cases h
  | n + 1, .list ds, h => by
    have h' := eqOkL_lay n ds (by simpa only [eqOk] using h)
    exact ⟨by simp only [PyData.canLay0]; exact h'.1, by simp only [PyData.depth]; omega⟩
  | 0, .tuple _, h => by simp only [eqOk] at h; cases h
  | n + 1, .tuple ds, h => by
    have h' := eqOkL_lay n ds (by simpa only [eqOk] using h)
    exact ⟨by simp only [PyData.canLay0]; exact h'.1, by simp only [PyData.depth]; omega⟩
  | _, .dict _, h => by simp only [eqOk] at h; cases h
theorem eqOkL_lay : ∀ (n : Nat) (ds : List D), eqOkL n ds = true → PyData.canLayAll0 ds = true ∧ PyData.depthAll ds ≤ n
  | _, [], _ => ⟨by simp only [PyData.canLayAll0], by simp only [PyData.depthAll]; omega⟩
  | n, d :: ds, h => by
    rw [eqOkL, Bool.and_eq_true] at h
    have h1 := eqOk_lay n d h.1
    have h2 := eqOkL_lay n ds h.2
    exact ⟨by simp only [PyData.canLayAll0, h1.1, h2.1, Bool.and_self], by simp only [PyData.depthAll]; omega⟩
end
theorem eqOk_shaped {d : D} (h : eqOk 8 d = true) : SeqAt.shaped d = true := by
  obtain ⟨a, b⟩ := eqOk_lay 8 d h
  unfold SeqAt.shaped
  rw [a, Bool.true_and, decide_eq_true_eq]
  omega
mutual
theorem Rep.dp {K : PySem.W.Frag} {O : OS} {H : Hp} : ∀ {n : Nat} {d : D} {v : V}, Rep K O H v d → eqOk n d = true → Dp K H v d
  | _, .none, _, .non, _ => .non
  | _, .bool _, _, .bl b, _ => .bl b
  | _, .int _, _, .int i, _ => .int i
  | _, .str _, _, .str x, _ => .str x
  | n, .list ds, _, .lst _ e r, h => by
    cases n with
    | zero => simp only [eqOk] at h; cases h
    | succ n => exact .lst (.of e) (RepL.dp r (by simpa only [eqOk] using h))
  | n, .tuple ds, _, .tup e r, h => by
    cases n with
    | zero => simp only [eqOk] at h; cases h
    | succ n => exact .tup e (RepL.dp r (by simpa only [eqOk] using h))
  | _, .dict _, _, .dK _ _ _, h => by simp only [eqOk] at h; cases h
  | _, .dict _, _, .dT _ _ _, h => by simp only [eqOk] at h; cases h
theorem RepL.dp {K : PySem.W.Frag} {O : OS} {H : Hp} : ∀ {n : Nat} {ds : List D} {vs : List V}, RepL K O H vs ds → eqOkL n ds = true → DpAll K H vs ds
  | _, [], _, .nil, _ => .nil
  | n, _ :: _, _, .cons r q, h => by
    rw [eqOkL, Bool.and_eq_true] at h
    exact .cons (Rep.dp r h.1) (RepL.dp q h.2)
end
theorem RepB.dp {K : PySem.W.Frag} {O : OS} {H : Hp} {n : Nat} {d : D} {v : V} (r : RepB K O H v d) (h : eqOk n d = true) : Dp K H v d := by
  rcases r with r | ⟨p, rfl, r⟩
  · exact r.dp h
  · cases r with
    | lst e r =>
      cases n with
      | zero => simp only [eqOk] at h; cases h
      | succ n => exact .lst (.of e) (RepL.dp r (by simpa only [eqOk] using h))
    | dK e r => simp only [eqOk] at h; cases h
    | dT e r => simp only [eqOk] at h; cases h
def qEq (x y : D) : Option D := match x, y with
  | .int i, .int j => some (.bool (i == j))
  | .str i, .str j => some (.bool (i.cps.toList == j.cps.toList))
  | x, y => if eqOk 8 x && eqOk 8 y then some (.bool (PyData.eqv x y)) else none
def qNe (x y : D) : Option D := match x, y with
  | .int i, .int j => some (.bool (!(i == j)))
  | .str i, .str j => some (.bool (!(i.cps.toList == j.cps.toList)))
  | x, y => if eqOk 8 x && eqOk 8 y then some (.bool (!PyData.eqv x y)) else none
theorem str_beq (x y : Str) : (x == y) = (x.cps.toList == y.cps.toList) := by
  rw [Bool.eq_iff_iff, beq_iff_eq, beq_iff_eq]
  constructor
  · intro e; rw [e]
  · intro e
    cases x with
    | mk a => cases y with
      | mk b => cases a; cases b; simp at e; rw [e]
theorem o2_eq {K : PySem.W.Frag} : Op2 K (fun x y H Q => rEq x y H Q ∨ rEqD K x y H Q) qEq := by
  intro O H x y dx dy d Q _ rx ry hg q
  unfold qEq at hg
  split at hg
  · cases hg
    rw [rb_int rx, rb_int ry]
    exact .inl ⟨rfl, by rw [dec_int]; exact q _ H (Xt.refl H) (.bl _)⟩
  · cases hg
    rw [rb_str rx, rb_str ry]
    exact .inl ⟨rfl, by rw [dec_str, str_beq]; exact q _ H (Xt.refl H) (.bl _)⟩
  · split at hg
    · rename_i c
      cases hg
      rw [Bool.and_eq_true] at c
      exact .inr ⟨_, _, rx.dp c.1, ry.dp c.2, eqOk_shaped c.1, eqOk_shaped c.2, q _ H (Xt.refl H) (.bl _)⟩
    · cases hg
theorem o2_ne {K : PySem.W.Frag} : Op2 K (fun x y H Q => rNe x y H Q ∨ rNeD K x y H Q) qNe := by
  intro O H x y dx dy d Q _ rx ry hg q
  unfold qNe at hg
  split at hg
  · cases hg
    rw [rb_int rx, rb_int ry]
    exact .inl ⟨rfl, by rw [dec_int]; exact q _ H (Xt.refl H) (.bl _)⟩
  · cases hg
    rw [rb_str rx, rb_str ry]
    exact .inl ⟨rfl, by rw [dec_str, str_beq]; exact q _ H (Xt.refl H) (.bl _)⟩
  · split at hg
    · rename_i c
      cases hg
      rw [Bool.and_eq_true] at c
      exact .inr ⟨_, _, rx.dp c.1, ry.dp c.2, eqOk_shaped c.1, eqOk_shaped c.2, q _ H (Xt.refl H) (.bl _)⟩
    · cases hg
theorem se_eq {k : Nat} (hr : Room k X.A) (ha : SB X a fa) (hb : SB X b fb) : SE X (.Compare a [.Eq] [b] pos) (e2 qEq fa fb) := se_cmp (op_eq.or (op_eqD (by have := hr.units; omega))) o2_eq ha hb
theorem se_ne {k : Nat} (hr : Room k X.A) (ha : SB X a fa) (hb : SB X b fb) : SE X (.Compare a [.NotEq] [b] pos) (e2 qNe fa fb) := se_cmp (op_ne.or (op_neD (by have := hr.units; omega))) o2_ne ha hb
/-- x is None, x is not None, x is True .. -/
def isNonD : D → Bool
  | .none => true
  | _ => false
def qIs (x y : D) : Option D := match y with
  | .none => some (.bool (isNonD x))
  | .bool b => match x with
    | .bool a => some (.bool (decide (a = b)))
    | _ => none
  | _ => none
def qNot : Option D → Option D
  | some (.bool b) => some (.bool (!b))
  | _ => none
theorem rb_isnon {K : PySem.W.Frag} {O : OS} {H : Hp} {v : V} {d : D} (r : RepB K O H v d) : decide (v = .non) = isNonD d := by
  rcases r with r | ⟨p, rfl, r⟩
  · cases r <;> rfl
  · cases r <;> rfl
theorem o2_is {K : PySem.W.Frag} : Op2 K (fun x y H Q => (y = .non ∧ Q (.bl (decide (x = .non))) H) ∨ rIsB x y H Q) qIs := by
  intro O H x y dx dy d Q _ rx ry hg q
  unfold qIs at hg
  split at hg
  · cases hg
    refine .inl ⟨rb_non ry, ?_⟩
    rw [rb_isnon rx]
    exact q _ H (Xt.refl H) (.bl _)
  · split at hg
    · cases hg
      exact .inr ⟨_, _, rb_bl rx, rb_bl ry, q _ H (Xt.refl H) (.bl _)⟩
    · cases hg
  · cases hg
theorem o2_isnt {K : PySem.W.Frag} : Op2 K (fun x y H Q => (y = .non ∧ Q (.bl (!decide (x = .non))) H) ∨ rNotB x y H Q) (fun x y => qNot (qIs x y)) := by
  intro O H x y dx dy d Q _ rx ry hg q
  have hg : qNot (qIs dx dy) = some d := hg
  unfold qNot qIs at hg
  split at hg
  case h_2 => cases hg
  rename_i b e
  cases hg
  split at e
  · cases e
    refine .inl ⟨rb_non ry, ?_⟩
    rw [rb_isnon rx]
    exact q _ H (Xt.refl H) (.bl _)
  · split at e
    · cases e
      exact .inr ⟨_, _, rb_bl rx, rb_bl ry, q _ H (Xt.refl H) (.bl _)⟩
    · cases e
  · cases e
theorem se_is (ha : SB X a fa) (hb : SB X b fb) : SE X (.Compare a [.Is] [b] pos) (e2 qIs fa fb) := se_cmp (op_isN.or op_isBl) o2_is ha hb
theorem se_isnt (ha : SB X a fa) (hb : SB X b fb) : SE X (.Compare a [.IsNot] [b] pos) (e2 (fun x y => qNot (qIs x y)) fa fb) := se_cmp (op_notN.or op_notBl) o2_isnt ha hb
end
end Dv

/-! Dv9: texts, lists, tests, built-ins. -/
namespace Dv
open PySem PySem.Spec PyProof.Rows L2
def S (l : List Nat) : Str := ⟨l.toArray⟩
def cps (x : Str) : List Nat := x.cps.toList
theorem cps_S (l : List Nat) : cps (S l) = l := rfl
theorem S_cps (x : Str) : S (cps x) = x := by cases x; rfl
theorem len_S (l : List Nat) : (S l).length = l.length := by simp [S, Str.length]
theorem len_cps (x : Str) : x.length = (cps x).length := by simp [cps, Str.length]
theorem append_S (x y : Str) : x ++ y = S (cps x ++ cps y) := by
  cases x with
  | mk a => cases y with
    | mk b => cases a; cases b; show (⟨_ ++ _⟩ : Str) = _; simp [S, cps]
def line24 : Nat := 16777216
theorem line24_eq : sizeLine = line24 := sizeLine_eq
section
variable {X : Cx} {a b c e : Expr} {fa fb fc : FE} {pos : Pos}

/-! ### + and * -/
def qAdd (x y : D) : Option D := match x, y with
  | .int i, .int j => some (.int (i + j))
  | .str x, .str y => if (x.length + y.length).ble line24 then some (.str (S (cps x ++ cps y))) else none
  | .tuple xs, .tuple ys => if (xs.length + ys.length).ble line24 then some (.tuple (xs ++ ys)) else none
  | _, _ => none
theorem o2_add {K : PySem.W.Frag} : Op2 K (fun x y H Q => (rI0 (fun i j => .int (i + j)) x y H Q ∨ (∃ i j, x = .str i ∧ y = .str j ∧ i.length + j.length ≤ sizeLine ∧ Q (.str (i ++ j)) H)) ∨ rCatA K x y H Q) qAdd := by
  intro O H x y dx dy d Q _ rx ry hg q
  unfold qAdd at hg
  split at hg
  · cases hg
    exact .inl (.inl ⟨_, _, rb_int rx, rb_int ry, q _ H (Xt.refl H) (.int _)⟩)
  · split at hg
    · rename_i hl
      cases hg
      refine .inl (.inr ⟨_, _, rb_str rx, rb_str ry, by rw [line24_eq]; exact Nat.le_of_ble_eq_true hl, ?_⟩)
      rw [append_S]
      exact q _ H (Xt.refl H) (.str _)
    · cases hg
  · split at hg
    · rename_i hl
      cases hg
      obtain ⟨p, xs, rfl, hp, rp⟩ := rb_tup rx
      obtain ⟨p', ys, rfl, hp', rp'⟩ := rb_tup ry
      have ex := rp.length
      have ey := rp'.length
      refine .inr ⟨p, p', xs, ys, rfl, rfl, hp, hp', by rw [line24_eq, ex, ey]; exact Nat.le_of_ble_eq_true hl, fun e => ?_, fun _ e => ?_, fun _ _ t ht => ?_⟩
      · subst e
        rw [rl_nil rp, List.nil_append] at q
        exact q _ H (Xt.refl H) (.tup hp' rp')
      · subst e
        rw [rl_nil rp', List.append_nil] at q
        exact q _ H (Xt.refl H) (.tup hp rp)
      · have g := rl_append rp rp'
        exact q _ _ (Gr.new ht) (.tup (.inl (.inl upd_same)) (g.go (Gr.new ht) (fun _ z _ => z.elim) fun _ z => .inl z))
    · cases hg
  · cases hg
theorem se_add (ha : SB X a fa) (hb : SB X b fb) : SE X (.BinOp a .Add b pos) (e2 qAdd fa fb) := se_op ((op_add.or op_add_str).or op_catA) o2_add ha hb
/-- list + list: a new one -/
def qCat (x y : D) : Option D := match x, y with
  | .list xs, .list ys => if (xs.length + ys.length).ble line24 then some (.list (xs ++ ys)) else none
  | _, _ => none
theorem o2_cat {K : PySem.W.Frag} : Op2N K rCat qCat := by
  intro O H x y dx dy d Q _ rx ry hg q
  unfold qCat at hg
  split at hg
  · split at hg
    · rename_i hl
      cases hg
      obtain ⟨p, xs, rfl, hp, rp⟩ := rb_list rx
      obtain ⟨p', ys, rfl, hp', rp'⟩ := rb_list ry
      refine ⟨p, p', xs, ys, rfl, rfl, hp, hp', by rw [line24_eq, rp.length, rp'.length]; exact Nat.le_of_ble_eq_true hl, fun t ht => q t _ ht ?_⟩
      exact .lst upd_same ((rl_append rp rp').go (Gr.new ht) (fun _ z _ => z.elim) (addO_new ht))
    · cases hg
  · cases hg
theorem sn_cat (ha : SB X a fa) (hb : SB X b fb) : SN X (.BinOp a .Add b pos) (e2 qCat fa fb) := sn_op op_cat o2_cat ha hb
theorem mul_list (x : Str) (n : Int) : Txt.mul x n = S ((List.replicate n.toNat (cps x)).flatten) := by
  have fold : ∀ (k : Nat) (acc : Array Nat), ((List.replicate k x.cps).foldl (· ++ ·) acc).toList = acc.toList ++ (List.replicate k (cps x)).flatten := by
    intro k
    induction k with
    | zero => intro acc; simp
    | succ k ih => intro acc; rw [List.replicate_succ, List.foldl_cons, ih, List.replicate_succ, List.flatten_cons, Array.toList_append, List.append_assoc]; rfl
  unfold Txt.mul
  split
  · have : n.toNat = 0 := by omega
    rw [this]; rfl
  · split
    · rename_i h1 h2
      rw [Bool.or_eq_true, beq_iff_eq, beq_iff_eq] at h2
      rcases h2 with h2 | h2
      · rw [h2]
        show x = S ((List.replicate 1 (cps x)).flatten)
        simp [List.replicate, S_cps]
      · have e : cps x = [] := by rw [len_cps] at h2; exact List.length_eq_zero_iff.mp h2
        have e2 : ∀ k : Nat, (List.replicate k (cps x)).flatten = [] := fun k => by rw [e]; simp
        rw [e2, ← S_cps x, e]
    · have h := fold n.toNat #[]
      have h' : (List.foldl (fun x1 x2 => x1 ++ x2) #[] (List.replicate n.toNat x.cps)) = ((List.replicate n.toNat (cps x)).flatten).toArray := by
        rw [← Array.toArray_toList (xs := List.foldl _ _ _), h]; simp
      rw [h']; rfl
def qMulS (x : Str) (n : Int) : Option D := if decide (n < 1073741824) && decide (-1073741824 < n) && (x.length * n.toNat).ble line24 then some (.str (S ((List.replicate n.toNat (cps x)).flatten))) else none
theorem mulOk_of {x : Str} {n : Int} (h1 : n < 1073741824) (h2 : -1073741824 < n) (h3 : x.length * n.toNat ≤ line24) : MulOk x n := by
  refine ⟨?_, fun h _ => ?_, fun _ _ => ?_⟩
  · rw [Bool.or_eq_false_iff, decide_eq_false_iff_not, decide_eq_false_iff_not]
    constructor <;> (have : (2 : Int) ^ 63 = 9223372036854775808 := by decide) <;> omega
  · have hn : 1 ≤ n := by omega
    have e : ((x.length * n.toNat : Nat) : Int) = (x.length : Int) * n := by rw [Int.natCast_mul, Int.toNat_of_nonneg (by omega)]
    have h4 : (x.length : Int) * n ≤ 2 ^ 63 - 1 := by
      have : (line24 : Int) ≤ 2 ^ 63 - 1 := by decide
      omega
    intro hc
    have := (Int.le_ediv_iff_mul_le (by omega : 0 < n)).mpr h4
    omega
  · unfold Builtin.Str.tooLong
    rw [decide_eq_false_iff_not]
    have := line24_eq
    omega
theorem op_mulS : OpR X (binaryOp .Mult) (fun x y H Q => ∃ z n, x = .str z ∧ y = .int n ∧ MulOk z n ∧ Q (.str (Txt.mul z n)) H) := by
  intro pins s σ H x y v u Q I rx ry h
  obtain ⟨z, n, rfl, rfl, ok, q⟩ := h
  obtain ⟨t, rfl⟩ := rx
  obtain ⟨t', rfl⟩ := ry
  exact SB.mul ok fun t2 k => ⟨.str _, H, I.tok k, ⟨t2, rfl⟩, q⟩
def qMul (x y : D) : Option D := match x, y with
  | .int i, .int j => qMulI i j
  | .str z, .int n => qMulS z n
  | _, _ => none
theorem o2_mulA {K : PySem.W.Frag} : Op2 K (fun x y H Q => rI CMul (fun i j => .int (i * j)) x y H Q ∨ (∃ z n, x = .str z ∧ y = .int n ∧ MulOk z n ∧ Q (.str (Txt.mul z n)) H)) qMul := by
  intro O H x y dx dy d Q hd rx ry hg q
  unfold qMul at hg
  split at hg
  · rename_i i j
    exact .inl (o2_mul O H x y (.int i) (.int j) d Q hd rx ry hg q)
  · unfold qMulS at hg
    split at hg
    · rename_i c
      cases hg
      rw [Bool.and_eq_true, Bool.and_eq_true, decide_eq_true_eq, decide_eq_true_eq] at c
      refine .inr ⟨_, _, rb_str rx, rb_int ry, mulOk_of c.1.1 c.1.2 (Nat.le_of_ble_eq_true c.2), ?_⟩
      rw [mul_list]
      exact q _ H (Xt.refl H) (.str _)
    · cases hg
  · cases hg
theorem se_mul (ha : SB X a fa) (hb : SB X b fb) : SE X (.BinOp a .Mult b pos) (e2 qMul fa fb) := se_op (op_mul.or op_mulS) o2_mulA ha hb

/-! ### subscripts -/
def atD {α : Type} (xs : List α) (i : Int) : Option α := (ixN xs.length i).bind fun j => xs[j]?
theorem RepL.at {K : PySem.W.Frag} {O : OS} {H : Hp} {ds : List D} {vs : List V} {i : Int} {d : D} (r : RepL K O H vs ds) (h : atD ds i = some d) : ∃ v, atI vs i = some v ∧ Rep K O H v d := by
  unfold atD at h
  unfold atI
  rw [r.length]
  cases e : ixN ds.length i with
  | none => rw [e] at h; cases h
  | some j =>
    rw [e] at h
    exact r.get h
def qIx (x y : D) : Option D := match x, y with
  | .list ds, .int i => atD ds i
  | .tuple ds, .int i => atD ds i
  | .str z, .int i => if z.length.ble line24 then match atD (cps z) i with
      | some c => some (.str (S [c]))
      | none => none
    else none
  | _, _ => none
theorem o2_ix {K : PySem.W.Frag} : Op2 K (rIx K) qIx := by
  intro O H x y dx dy d Q _ rx ry hg q
  unfold qIx at hg
  split at hg
  · obtain ⟨p, xs, rfl, hp, rp⟩ := rb_list rx
    obtain ⟨v, h1, h2⟩ := rp.at hg
    exact .inl ⟨p, xs, _, v, rfl, rb_int ry, .of hp, h1, q v H (Xt.refl H) h2⟩
  · obtain ⟨p, xs, rfl, hp, rp⟩ := rb_tup rx
    obtain ⟨v, h1, h2⟩ := rp.at hg
    exact .inr (.inl ⟨p, xs, _, v, rfl, rb_int ry, hp, h1, q v H (Xt.refl H) h2⟩)
  · split at hg
    · rename_i hl
      split at hg
      · rename_i c e
        cases hg
        exact .inr (.inr ⟨_, _, c, rb_str rx, rb_int ry, by rw [line24_eq]; exact Nat.le_of_ble_eq_true hl, e, q _ H (Xt.refl H) (.str _)⟩)
      · cases hg
    · cases hg
  · cases hg
theorem se_at (ha : SB X a fa) (hb : SB X b fb) (hs : PlainIx b := by intro _ _; rfl) : SE X (.Subscript a b pos) (e2 qIx fa fb) := se_ix ix_seq o2_ix ha hb hs

/-! ### slices -/
abbrev FO := Rho → Tp → Option (Option Int × Tp)
def rdO (K : PySem.W.Frag) (f : FO) : TO := fun σ H Q => ∃ G B O τ ρ T d T', Sta K G B O τ σ H ρ T ∧ f ρ T = some (d, T') ∧ ∀ H', Xt (tS τ) H H' → TpOk O τ H' T' → Q d H'
structure SO (X : Cx) (e : Option Expr) (f : FO) : Prop where
  po : PO X e (rdO X.K f)
theorem PO.imp {e : Option Expr} {t u : TO} (h : PO X e t) (w : ∀ σ H Q, u σ H Q → t σ H Q) : PO X e u := ⟨fun pins s σ H Q I q => h.run pins s σ H Q I (w σ H Q q)⟩
def oNone : FO := fun _ T => some (none, T)
def oSome (f : FE) : FO := fun ρ T => match f ρ T with
  | some (.int i, T1) => some (some i, T1)
  | _ => none
theorem so_none : SO X none oNone := ⟨PO.imp po_none fun σ H Q ⟨G, B, O, τ, ρ, T, d, T', E, hf, q⟩ => by
  cases hf
  exact q H (Xt.refl H) E.tok⟩
theorem so_some (h : SE X e fa) : SO X (some e) (oSome fa) := ⟨PO.imp (po_some h.pe) fun σ H Q ⟨G, B, O, τ, ρ, T, d, T', E, hf, q⟩ => by
  unfold oSome at hf
  split at hf
  · rename_i i T1 h1
    cases hf
    refine ⟨G, B, O, τ, ρ, T, _, _, E, h1, fun v H' x t r => ?_⟩
    cases r
    exact ⟨i, rfl, q H' x t⟩
  · cases hf⟩
def cutD {α : Type} (xs : List α) (lo hi : Option Int) : List α := (xs.drop (HT.sIx xs.length 0 lo)).take (HT.sIx xs.length xs.length hi - HT.sIx xs.length 0 lo)
def qCut (x : D) (lo hi : Option Int) : Option D := match x with
  | .tuple ds => some (.tuple (cutD ds lo hi))
  | .str z => if z.length.ble line24 then some (.str (S (cutD (cps z) lo hi))) else none
  | _ => none
def eCut (fa : FE) (fl fh : FO) : FE := fun ρ T => match fa ρ T with
  | none => none
  | some (x, T1) => match fl ρ T1 with
    | none => none
    | some (lo, T2) => match fh ρ T2 with
      | none => none
      | some (hi, T3) => match qCut x lo hi with
        | none => none
        | some d => some (d, T3)
theorem cutV_of {ds : List D} {xs : List V} {K : PySem.W.Frag} {O : OS} {H : Hp} (r : RepL K O H xs ds) (lo hi : Option Int) : RepL K O H (cutV xs lo hi) (cutD ds lo hi) := by
  unfold cutV cutD
  rw [r.length]
  exact rl_take _ (rl_drop _ r)
theorem cutD_all {ds : List D} {lo hi : Option Int} (h : HT.sIx ds.length 0 lo = 0 ∧ HT.sIx ds.length ds.length hi = ds.length) : cutD ds lo hi = ds := by
  unfold cutD
  rw [h.1, h.2, List.drop_zero, Nat.sub_zero, List.take_length]
theorem se_cut {lo hi : Option Expr} {p2 : Pos} {fl fh : FO} (ha : SB X a fa) (hl : SO X lo fl) (hh : SO X hi fh) : SE X (.Subscript a (.Slice lo hi none p2) pos) (eCut fa fl fh) := ⟨PE.imp (pe_slice (sl_tupA.or sl_str) ha.pe hl.po hh.po) fun σ H Q ⟨G, B, O, τ, ρ, T, d, T', E, hf, q⟩ => by
  unfold eCut at hf
  split at hf
  · cases hf
  rename_i x T1 h1
  split at hf
  · cases hf
  rename_i l T2 h2
  split at hf
  · cases hf
  rename_i u T3 h3
  split at hf
  · cases hf
  rename_i d' h4
  cases hf
  refine ⟨G, B, O, τ, ρ, T, x, T1, E, h1, fun v H1 x1 t1 r1 => ⟨G, B, O, τ, ρ, T1, l, T2, E.step x1 t1, h2, fun H2 x2 t2 => ⟨G, B, O, τ, ρ, T2, u, T', (E.step x1 t1).step x2 t2, h3, fun H3 x3 t3 => ?_⟩⟩⟩
  have rv := ((r1.step (E.step x1 t1) x2).step ((E.step x1 t1).step x2 t2) x3).b
  have xx := (x1.tr x2).tr x3
  unfold qCut at h4
  split at h4
  · cases h4
    obtain ⟨p, xs, rfl, hp, rp⟩ := rb_tup rv
    refine .inl ⟨p, xs, rfl, hp, fun hw => ?_, fun _ t ht => ?_⟩
    · rw [rp.length] at hw
      have e := cutD_all (ds := _) hw
      rw [e] at q
      exact q _ H3 xx t3 (.tup hp rp)
    · exact q _ _ (xx.tr ((Gr.new ht).mono fun _ z => z.elim)) (t3.gr (Gr.new ht)) (.tup (.inl (.inl upd_same)) ((cutV_of rp l u).go (Gr.new ht) (fun _ z _ => z.elim) fun _ z => .inl z))
  · split at h4
    · rename_i hz
      cases h4
      rw [rb_str rv]
      refine .inr ⟨_, rfl, by rw [line24_eq]; exact Nat.le_of_ble_eq_true hz, ?_⟩
      have e : ∀ z : Str, cutS z l u = S (cutD (cps z) l u) := fun z => by
        unfold cutS cutD
        rw [len_cps]; rfl
      rw [e]
      exact q _ H3 xx t3 (.str _)
    · cases h4
  · cases h4⟩
end
end Dv

/-! Dv10: tests, chains, in, built-in functions. -/
namespace Dv
open PySem PySem.Spec PyProof.Rows L2
section
variable {X : Cx} {a b c e : Expr} {fa fb fc : FE} {f g : FT} {pos : Pos}

/-! ### tests -/
def truD : D → Option Bool
  | .none => some false
  | .bool b => some b
  | .int i => some (i != 0)
  | .str x => if x.length.ble line24 then some (!(cps x).isEmpty) else none
  | .list ds => some (!ds.isEmpty)
  | .tuple ds => some (!ds.isEmpty)
  | .dict _ => none
def tTru (f : FE) : FT := fun ρ T => match f ρ T with
  | none => none
  | some (d, T1) => match truD d with
    | none => none
    | some b => some (b, T1)
theorem truV_of {K : PySem.W.Frag} {O : OS} {H : Hp} {v : V} {d : D} {k : Bool} (r : RepB K O H v d) (h : truD d = some k) : TruV K v H k := by
  unfold truD at h
  split at h
  · cases h; rw [rb_non r]; exact rfl
  · cases h; rw [rb_bl r]; exact rfl
  · cases h; rw [rb_int r]; exact rfl
  · split at h
    · rename_i x hl
      cases h
      rw [rb_str r]
      refine ⟨by rw [line24_eq]; exact Nat.le_of_ble_eq_true hl, ?_⟩
      rw [len_cps]
      cases cps x <;> simp
      omega
    · cases h
  · cases h
    obtain ⟨p, xs, rfl, hp, rp⟩ := rb_list r
    refine .inl ⟨xs, .of hp, ?_⟩
    cases rp <;> rfl
  · cases h
    obtain ⟨p, xs, rfl, hp, rp⟩ := rb_tup r
    refine .inr (.inl ⟨xs, hp, ?_⟩)
    cases rp <;> rfl
  · cases h
theorem rdT_tru {K : PySem.W.Frag} {σ : L2.St} {H : Hp} {Q : Bool → Hp → Prop} (h : rdT K (tTru fa) σ H Q) : rdB K fa σ H fun x H' => ∃ k, TruV K x H' k ∧ Q k H' := by
  obtain ⟨G, B, O, τ, ρ, T, d, T', E, hf, q⟩ := h
  unfold tTru at hf
  split at hf
  · cases hf
  rename_i x T1 h1
  split at hf
  · cases hf
  rename_i k h2
  cases hf
  exact ⟨G, B, O, τ, ρ, T, x, T', E, h1, fun v H' x t r => ⟨_, truV_of r.b h2, q H' x t⟩⟩
/-- the truth of a name, a call, a subscript .. -/
theorem st_tru (h : SB X e fa) (he : ∀ whole, isTrue e X.env whole = (do let v ← whole; standAt e.pos; holding [v] (truthy v)) := by intro _; rfl) : ST X e (tTru fa) := ⟨PT.imp (pt_truth h.pe he) fun σ H Q h => rdT_tru h⟩
/-- a comparison's -/
def tBool (f : FE) : FT := fun ρ T => match f ρ T with
  | some (.bool b, T1) => some (b, T1)
  | _ => none
theorem rdT_bool {K : PySem.W.Frag} {σ : L2.St} {H : Hp} {Q : Bool → Hp → Prop} (h : rdT K (tBool fa) σ H Q) : rdE K fa σ H fun x H' => ∃ k, x = .bl k ∧ Q k H' := by
  obtain ⟨G, B, O, τ, ρ, T, d, T', E, hf, q⟩ := h
  unfold tBool at hf
  split at hf
  · rename_i b T1 h1
    cases hf
    refine ⟨G, B, O, τ, ρ, T, _, _, E, h1, fun v H' x t r => ?_⟩
    cases r
    exact ⟨d, rfl, q H' x t⟩
  · cases hf
structure SC (X : Cx) (op : CmpOp) (a b : Expr) (f : FE) : Prop where
  pc : PC X op a b (rdE X.K f)
theorem PC.imp {op : CmpOp} {t u : TE} (h : PC X op a b t) (w : ∀ σ H Q, u σ H Q → t σ H Q) : PC X op a b u := ⟨fun pins s σ H Q I q => h.run pins s σ H Q I (w σ H Q q)⟩
theorem sc_of {op : CmpOp} {r : R2} {g : D → D → Option D} (ho : OpR X (compareOp op) r) (hg : Op2 X.K r g) (ha : SB X a fa) (hb : SB X b fb) : SC X op a b (e2 g fa fb) := ⟨⟨fun pins s σ H Q I h => by
  have h' := tOp_of hg σ H Q h
  exact binT ha.pe hb.pe I h' fun v u s2 x y H2 I2 rx ry q => ho pins s2 σ H2 x y v u Q I2 rx ry q⟩⟩
theorem se_sc {op : CmpOp} (h : SC X op a b fa) (hm : behindInMarks op b = false := by first | exact nobehind _ (by decide) (by decide) | rfl) : SE X (.Compare a [op] [b] pos) fa := ⟨pe_cmp h.pc hm⟩
theorem st_sc {op : CmpOp} (h : SC X op a b fa) (hm : behindInMarks op b = false := by first | exact nobehind _ (by decide) (by decide) | rfl) : ST X (.Compare a [op] [b] pos) (tBool fa) := ⟨PT.imp (pt_cmp h.pc hm) fun σ H Q h => by
  exact rdT_bool h⟩
theorem st_val (h : SE X e fa) (he : ∀ whole, isTrue e X.env whole = (do let v ← whole; standAt e.pos; holding [v] (truthy v)) := by intro _; rfl) : ST X e (tBool fa) := ⟨PT.imp (pt_val h.pe he) fun σ H Q h => rdT_bool h⟩
structure SW (X : Cx) (e : Expr) (f : FT) : Prop where
  pw : PW X e (rdT X.K f)
theorem PW.imp {t u : TT} (h : PW X e t) (w : ∀ σ H Q, u σ H Q → t σ H Q) : PW X e u := ⟨fun wh pins s σ H Q I q => h.run wh pins s σ H Q I (w σ H Q q)⟩
def tAndF (f g : FT) : FT := fun ρ T => match f ρ T with
  | none => none
  | some (true, T1) => g ρ T1
  | some (false, T1) => some (false, T1)
def tOrF (f g : FT) : FT := fun ρ T => match f ρ T with
  | none => none
  | some (true, T1) => some (true, T1)
  | some (false, T1) => g ρ T1
def tNotF (f : FT) : FT := fun ρ T => match f ρ T with
  | none => none
  | some (b, T1) => some (!b, T1)
theorem sw_and1 (h : ST X a f) : SW X (.BoolOp .And [a] pos) f := ⟨pw_and1 h.pe⟩
theorem sw_or1 (h : ST X a f) : SW X (.BoolOp .Or [a] pos) f := ⟨pw_or1 h.pe⟩
theorem SW.st (h : SW X e f) : ST X e f := ⟨h.pw.pt⟩
theorem rd_and {K : PySem.W.Frag} {σ : L2.St} {H : Hp} {Q : Bool → Hp → Prop} (h : rdT K (tAndF f g) σ H Q) : tAnd (rdT K f) (rdT K g) σ H Q := by
  obtain ⟨G, B, O, τ, ρ, T, d, T', E, hf, q⟩ := h
  unfold tAndF at hf
  split at hf
  · cases hf
  · rename_i T1 h1
    exact ⟨G, B, O, τ, ρ, T, true, T1, E, h1, fun H1 x1 t1 => show rdT K g σ H1 Q from ⟨G, B, O, τ, ρ, T1, d, T', E.step x1 t1, hf, fun H2 x2 t2 => q H2 (x1.tr x2) t2⟩⟩
  · rename_i T1 h1
    cases hf
    exact ⟨G, B, O, τ, ρ, T, false, _, E, h1, fun H1 x1 t1 => show Q false H1 from q H1 x1 t1⟩
theorem rd_or {K : PySem.W.Frag} {σ : L2.St} {H : Hp} {Q : Bool → Hp → Prop} (h : rdT K (tOrF f g) σ H Q) : tOr (rdT K f) (rdT K g) σ H Q := by
  obtain ⟨G, B, O, τ, ρ, T, d, T', E, hf, q⟩ := h
  unfold tOrF at hf
  split at hf
  · cases hf
  · rename_i T1 h1
    cases hf
    exact ⟨G, B, O, τ, ρ, T, true, _, E, h1, fun H1 x1 t1 => show Q true H1 from q H1 x1 t1⟩
  · rename_i T1 h1
    exact ⟨G, B, O, τ, ρ, T, false, T1, E, h1, fun H1 x1 t1 => show rdT K g σ H1 Q from ⟨G, B, O, τ, ρ, T1, d, T', E.step x1 t1, hf, fun H2 x2 t2 => q H2 (x1.tr x2) t2⟩⟩
theorem sw_and {rest : List Expr} (h1 : ST X a f) (h2 : SW X (.BoolOp .And (b :: rest) pos) g) : SW X (.BoolOp .And (a :: b :: rest) pos) (tAndF f g) := ⟨PW.imp (pw_and h1.pe h2.pw) fun σ H Q h => rd_and h⟩
theorem sw_or {rest : List Expr} (h1 : ST X a f) (h2 : SW X (.BoolOp .Or (b :: rest) pos) g) : SW X (.BoolOp .Or (a :: b :: rest) pos) (tOrF f g) := ⟨PW.imp (pw_or h1.pe h2.pw) fun σ H Q h => rd_or h⟩
theorem st_not (h : ST X a f) : ST X (.UnaryOp .Not a pos) (tNotF f) := ⟨PT.imp (pt_not h.pe) fun σ H Q ⟨G, B, O, τ, ρ, T, d, T', E, hf, q⟩ => by
  unfold tNotF at hf
  split at hf
  · cases hf
  · rename_i b T1 h1
    cases hf
    exact ⟨G, B, O, τ, ρ, T, b, _, E, h1, fun H1 x1 t1 => q H1 x1 t1⟩⟩
/-- .. as values -/
def eAnd (fa fb : FE) : FE := fun ρ T => match fa ρ T with
  | some (.bool true, T1) => fb ρ T1
  | some (.bool false, T1) => some (.bool false, T1)
  | _ => none
def eOr (fa fb : FE) : FE := fun ρ T => match fa ρ T with
  | some (.bool true, T1) => some (.bool true, T1)
  | some (.bool false, T1) => fb ρ T1
  | _ => none
def eNot (fa : FE) : FE := fun ρ T => match fa ρ T with
  | some (.bool b, T1) => some (.bool (!b), T1)
  | _ => none
theorem se_one {op} (h : SE X a fa) : SE X (.BoolOp op [a] pos) fa := ⟨pe_one h.pe⟩
theorem se_and {rest : List Expr} (h1 : SE X a fa) (h2 : SE X (.BoolOp .And (b :: rest) pos) fb) : SE X (.BoolOp .And (a :: b :: rest) pos) (eAnd fa fb) := ⟨PE.imp (pe_and h1.pe h2.pe) fun σ H Q ⟨G, B, O, τ, ρ, T, d, T', E, hf, q⟩ => by
  unfold eAnd at hf
  split at hf
  · rename_i T1 h1
    refine ⟨G, B, O, τ, ρ, T, _, T1, E, h1, fun v H1 x1 t1 r => ?_⟩
    cases r
    exact ⟨true, rfl, show rdE X.K fb σ H1 Q from ⟨G, B, O, τ, ρ, T1, d, T', E.step x1 t1, hf, fun v H2 x2 t2 r => q v H2 (x1.tr x2) t2 r⟩⟩
  · rename_i T1 h1
    cases hf
    refine ⟨G, B, O, τ, ρ, T, _, _, E, h1, fun v H1 x1 t1 r => ?_⟩
    cases r
    exact ⟨false, rfl, show Q (.bl false) H1 from q _ H1 x1 t1 (.bl _)⟩
  · cases hf⟩
theorem se_or {rest : List Expr} (h1 : SE X a fa) (h2 : SE X (.BoolOp .Or (b :: rest) pos) fb) : SE X (.BoolOp .Or (a :: b :: rest) pos) (eOr fa fb) := ⟨PE.imp (pe_or h1.pe h2.pe) fun σ H Q ⟨G, B, O, τ, ρ, T, d, T', E, hf, q⟩ => by
  unfold eOr at hf
  split at hf
  · rename_i T1 h1
    cases hf
    refine ⟨G, B, O, τ, ρ, T, _, _, E, h1, fun v H1 x1 t1 r => ?_⟩
    cases r
    exact ⟨true, rfl, show Q (.bl true) H1 from q _ H1 x1 t1 (.bl _)⟩
  · rename_i T1 h1
    refine ⟨G, B, O, τ, ρ, T, _, T1, E, h1, fun v H1 x1 t1 r => ?_⟩
    cases r
    exact ⟨false, rfl, show rdE X.K fb σ H1 Q from ⟨G, B, O, τ, ρ, T1, d, T', E.step x1 t1, hf, fun v H2 x2 t2 r => q v H2 (x1.tr x2) t2 r⟩⟩
  · cases hf⟩
theorem se_not (h : SE X a fa) : SE X (.UnaryOp .Not a pos) (eNot fa) := ⟨PE.imp (pe_not h.pe) fun σ H Q ⟨G, B, O, τ, ρ, T, d, T', E, hf, q⟩ => by
  unfold eNot at hf
  split at hf
  · rename_i b T1 h1
    cases hf
    refine ⟨G, B, O, τ, ρ, T, _, _, E, h1, fun v H1 x1 t1 r => ?_⟩
    cases r
    exact ⟨b, rfl, q _ H1 x1 t1 (.bl _)⟩
  · cases hf⟩
def eIf (c : FT) (fa fb : FE) : FE := fun ρ T => match c ρ T with
  | none => none
  | some (true, T1) => fa ρ T1
  | some (false, T1) => fb ρ T1
theorem se_if (hc : ST X c f) (ha : SE X a fa) (hb : SE X b fb) : SE X (.IfExp c a b pos) (eIf f fa fb) := ⟨PE.imp (pe_ifExp hc.pe ha.pe hb.pe) fun σ H Q ⟨G, B, O, τ, ρ, T, d, T', E, hf, q⟩ => by
  unfold eIf at hf
  split at hf
  · cases hf
  · rename_i T1 h1
    exact ⟨G, B, O, τ, ρ, T, _, T1, E, h1, fun H1 x1 t1 => show rdE X.K fa σ H1 Q from ⟨G, B, O, τ, ρ, T1, d, T', E.step x1 t1, hf, fun v H2 x2 t2 r => q v H2 (x1.tr x2) t2 r⟩⟩
  · rename_i T1 h1
    exact ⟨G, B, O, τ, ρ, T, _, T1, E, h1, fun H1 x1 t1 => show rdE X.K fb σ H1 Q from ⟨G, B, O, τ, ρ, T1, d, T', E.step x1 t1, hf, fun v H2 x2 t2 r => q v H2 (x1.tr x2) t2 r⟩⟩⟩

/-! ### chains -/
def eChain (g h : D → D → Option D) (fa fb fc : FE) : FE := fun ρ T => match fa ρ T with
  | none => none
  | some (x, T1) => match fb ρ T1 with
    | none => none
    | some (y, T2) => match g x y with
      | some (.bool true) => match fc ρ T2 with
        | none => none
        | some (z, T3) => match h y z with
          | none => none
          | some d => some (d, T3)
      | some (.bool false) => some (.bool false, T2)
      | _ => none
theorem tChain_of {K : PySem.W.Frag} {r r' : R2} {g h : D → D → Option D} (hr : Op2 K r g) (hr' : Op2 K r' h) {σ : L2.St} {H : Hp} {Q : VK} (w : rdE K (eChain g h fa fb fc) σ H Q) : tChain r r' (rdB K fa) (rdB K fb) (rdB K fc) σ H Q := by
  obtain ⟨G, B, O, τ, ρ, T, d, T', E, hf, q⟩ := w
  unfold eChain at hf
  split at hf
  · cases hf
  rename_i x T1 h1
  split at hf
  · cases hf
  rename_i y T2 h2
  refine ⟨G, B, O, τ, ρ, T, x, T1, E, h1, fun v H1 x1 t1 r1 => ⟨G, B, O, τ, ρ, T1, y, T2, E.step x1 t1, h2, fun u H2 x2 t2 r2 => ?_⟩⟩
  have E1 := E.step x1 t1
  have E2 := E1.step x2 t2
  split at hf
  · rename_i h3
    split at hf
    · cases hf
    rename_i z T3 h4
    split at hf
    · cases hf
    rename_i d' h5
    cases hf
    refine hr O H2 v u x y _ _ E2.dom (r1.step E1 x2).b r2.b h3 fun w H3 x3 r3 => ?_
    cases r3
    refine ⟨true, rfl, ?_⟩
    show rdB K fc σ H3 _
    refine ⟨G, B, O, τ, ρ, T2, z, T', E2.grow x3, h4, fun w H4 x4 t4 r4 => ?_⟩
    have x3' : Xt (tS τ) H2 H3 := x3.mono fun _ z => z.elim
    exact hr' O H4 u w y z d Q ((E2.grow x3).step x4 t4).dom ((r2.step E2 x3').step (E2.grow x3) x4).b r4.b h5 fun v H5 x5 r5 => q v H5 ((((x1.tr x2).tr x3').tr x4).tr (x5.mono fun _ z => z.elim)) (t4.gr x5) r5
  · rename_i h3
    cases hf
    refine hr O H2 v u x y _ _ E2.dom (r1.step E1 x2).b r2.b h3 fun w H3 x3 r3 => ?_
    cases r3
    exact ⟨false, rfl, show Q (.bl false) H3 from q _ H3 ((x1.tr x2).tr (x3.mono fun _ z => z.elim)) (t2.gr x3) (.bl _)⟩
  · cases hf
theorem se_chain {op op' : CmpOp} {r r' : R2} {g h : D → D → Option D} (ho : OpR X (compareOp op) r) (ho' : OpR X (compareOp op') r') (hg : Op2 X.K r g) (hg' : Op2 X.K r' h) (ha : SB X a fa) (hb : SB X b fb) (hc : SB X c fc)
    (hm : lastMarks [op, op'] [b, c] = false := by with_unfolding_all rfl) : SE X (.Compare a [op, op'] [b, c] pos) (eChain g h fa fb fc) := ⟨PE.imp (pe_chain ho ho' ha.pe hb.pe hc.pe hm) fun σ H Q w => tChain_of hg hg' w⟩
end
end Dv

/-! Dv11: what is walked (ranges, lists, tuples, texts), displays, lists that grow. -/
namespace Dv
open PySem PySem.Spec PyProof.Rows L2
section
variable {X : Cx} {tg a b e : Expr} {fa fb : FE} {p pos : Pos}

/-! ### ranges -/
def rngD (lo : Int) : Nat → List D
  | 0 => []
  | n + 1 => .int lo :: rngD (lo + 1) n
theorem rngD_len : ∀ (n : Nat) (lo : Int), (rngD lo n).length = n
  | 0, _ => rfl
  | n + 1, lo => by rw [rngD, List.length_cons, rngD_len n]
theorem rngD_get : ∀ (n : Nat) (lo : Int) (i : Nat) (d : D), (rngD lo n)[i]? = some d → i < n ∧ d = .int (lo + i)
  | 0, _, _, _, h => by cases h
  | n + 1, lo, 0, d, h => by
    cases h
    exact ⟨Nat.succ_pos _, by rw [show lo + ((0 : Nat) : Int) = lo by omega]⟩
  | n + 1, lo, i + 1, d, h => by
    obtain ⟨h1, h2⟩ := rngD_get n (lo + 1) i d h
    exact ⟨Nat.succ_lt_succ h1, by rw [h2]; congr 1; omega⟩
def ok62 (i : Int) : Bool := decide (-4611686018427387904 ≤ i) && decide (i < 4611686018427387904)
theorem ok62_of {i : Int} (h : ok62 i = true) : -(2 ^ 62) ≤ i ∧ i < 2 ^ 62 := by
  unfold ok62 at h
  rw [Bool.and_eq_true, decide_eq_true_eq, decide_eq_true_eq] at h
  have : (2 : Int) ^ 62 = 4611686018427387904 := by decide
  omega
theorem walk_rng {K : PySem.W.Frag} {O : OS} {H : Hp} (lo : Int) (n : Nat) : Walk K O H (Itr lo n) (rngD lo n) := fun i O' H' _ _ =>
  ⟨fun d h => by
    obtain ⟨h1, h2⟩ := rngD_get n lo i d h
    exact ⟨h1, fun x H'' ⟨e1, e2⟩ => by subst e1; subst e2; subst h2; exact ⟨Xt.refl _, .int _⟩⟩, fun h => by rw [rngD_len] at h; exact h⟩
def iR1 (fa : FE) : FI := fun ρ T => match fa ρ T with
  | some (.int j, T1) => if ok62 j then some (rngD 0 j.toNat, T1) else none
  | _ => none
theorem si_r1 (hm : X.mg "range" = none) (ha : SE X a fa) (hg : Gl X "range" := by rfl) (hs : starEach [a] X.env = [(false, eval a X.env)] := by rfl) (hs' : starEach [a] X.env = (false, eval a X.env) :: starEach [] X.env := by rfl) : SI X tg (.Call (.Name "range" p) [a] [] pos) (iR1 fa) := ⟨PI.imp (pi_range1 hg hm (sa_cons ha sa_nil hs').pe hs) fun σ H R ⟨G, B, O, τ, ρ, T, ds, T', E, hf, q⟩ => by
  unfold iR1 at hf
  split at hf
  · rename_i j T1 h1
    split at hf
    · rename_i h2
      cases hf
      obtain ⟨b1, b2⟩ := ok62_of h2
      refine ⟨G, B, O, τ, ρ, T, [.int j], T', E, by simp only [aCons, aNil, h1], fun vs H1 x t r => ?_⟩
      cases r with
      | cons r rr =>
        cases rr
        cases r
        exact ⟨j, rfl, b1, b2, q _ H1 x t (walk_rng 0 _)⟩
    · cases hf
  · cases hf⟩
def iR2 (fa fb : FE) : FI := fun ρ T => match fa ρ T with
  | some (.int i, T1) => match fb ρ T1 with
    | some (.int j, T2) => if ok62 i && ok62 j then some (rngD i (j - i).toNat, T2) else none
    | _ => none
  | _ => none
theorem si_r2 (hm : X.mg "range" = none) (ha : SE X a fa) (hb : SE X b fb) (hg : Gl X "range" := by rfl) (hs : starEach [a, b] X.env = [(false, eval a X.env), (false, eval b X.env)] := by rfl) (hs2 : starEach [b] X.env = [(false, eval b X.env)] := by rfl)
    (hs' : starEach [a, b] X.env = (false, eval a X.env) :: starEach [b] X.env := by rfl) (hs2' : starEach [b] X.env = (false, eval b X.env) :: starEach [] X.env := by rfl) : SI X tg (.Call (.Name "range" p) [a, b] [] pos) (iR2 fa fb) := ⟨PI.imp (pi_range2 hg hm (sa_cons ha (sa_cons hb sa_nil hs2') hs').pe hs hs2) fun σ H R ⟨G, B, O, τ, ρ, T, ds, T', E, hf, q⟩ => by
  unfold iR2 at hf
  split at hf
  · rename_i i T1 h1
    split at hf
    · rename_i j T2 h2
      split at hf
      · rename_i h3
        cases hf
        rw [Bool.and_eq_true] at h3
        obtain ⟨b1, b2⟩ := ok62_of h3.1
        obtain ⟨b3, b4⟩ := ok62_of h3.2
        refine ⟨G, B, O, τ, ρ, T, [.int i, .int j], T', E, by simp only [aCons, aNil, h1, h2], fun vs H1 x t r => ?_⟩
        cases r with
        | cons r rr =>
          cases rr with
          | cons r' rr =>
            cases rr
            cases r
            cases r'
            exact ⟨i, j, rfl, ⟨b1, b2, b3, b4⟩, q _ H1 x t (walk_rng i _)⟩
      · cases hf
    · cases hf
  · cases hf⟩

/-! ### lists, tuples, texts -/
def iSeqT (K : PySem.W.Frag) (te : TE) : TI := fun σ H R => te σ H fun x H1 => (∃ a, x = .ref a ∧ (∃ xs, SqL K H1 a xs) ∧ R (Itl K a) H1) ∨ (∃ a, x = .ref a ∧ (∃ xs, SqT K H1 a xs) ∧ R (Itt K a) H1) ∨ ∃ z, x = .str z ∧ R (Its z) H1
theorem pi_seq {te : TE} (he : PE X e te) : PI X tg e (iSeqT X.K te) := ⟨fun pins s σ H R I h => thn (he.run pins s σ H _ I h) fun v s1 ⟨x, H1, I1, r1, q1⟩ => by
  rcases q1 with ⟨a, rfl, ⟨xs, hq⟩, q⟩ | ⟨a, rfl, ⟨xs, hq⟩, q⟩ | ⟨z, rfl, q⟩
  · cases r1
    obtain ⟨its, _, pl, _⟩ := I1.list hq
    exact wpAny_pyIter_list pl.isList (pi_one (tk := s1.toks) I1 _ (turn_list a _) ⟨_, Heap.get?_push_size _ rfl, rfl, rfl⟩ q)
  · cases r1
    obtain ⟨its, _, pl, _⟩ := I1.tuple hq
    exact wpAny_pyIter_tuple (show s1.heap.IsTuple a its.toArray from pl) (pi_one (tk := s1.toks) I1 _ (turn_tuple a _) ⟨_, Heap.get?_push_size _ rfl, rfl, rfl⟩ q)
  · obtain ⟨t, rfl⟩ := r1
    cases hz : z.cps.all (· < 128)
    · exact wpAny_pyIter_wide hz (pi_one (tk := s1.toks) I1 _ (turn_str _ z t "str_iterator" (.inr rfl)) ⟨_, Heap.get?_push_size _ rfl, rfl, rfl⟩ q)
    · exact wpAny_pyIter_ascii hz (pi_one (tk := s1.toks) I1 _ (turn_str _ z t "str_ascii_iterator" (.inl rfl)) ⟨_, Heap.get?_push_size _ rfl, rfl, rfl⟩ q)⟩
def seqD : D → Option (List D)
  | .list ds => some ds
  | .tuple ds => some ds
  | .str z => some ((cps z).map fun c => .str (S [c]))
  | _ => none
def iSeq (fa : FE) : FI := fun ρ T => match fa ρ T with
  | none => none
  | some (d, T1) => match seqD d with
    | none => none
    | some ds => some (ds, T1)
theorem walk_list {K : PySem.W.Frag} {O : OS} {H : Hp} {a : Addr} {xs : List V} {ds : List D} (no : ¬ O a) (e : H a = some (.lst xs)) (r : RepL K O H xs ds) : Walk K O H (Itl K a) ds := fun i O' H' af _ => by
  have e' : H' a = some (.lst xs) := af.xt _ _ e (.inl no)
  have r' := af.repL r
  have only : ∀ ys, SqL K H' a ys → ys = xs ∨ True := fun _ _ => .inr trivial
  refine ⟨fun d h => ?_, fun h => ⟨xs, .of e', by rw [r'.length]; exact h⟩⟩
  obtain ⟨v, hv, rv⟩ := r'.get h
  refine ⟨⟨xs, v, .of e', hv⟩, fun x H'' ⟨e1, e2⟩ => ?_⟩
  subst e1
  have := e2 xs (.of e')
  rw [hv] at this
  cases this
  exact ⟨Xt.refl _, rv⟩
theorem walk_tup {K : PySem.W.Frag} {O : OS} {H : Hp} {a : Addr} {xs : List V} {ds : List D} (e : SqT K H a xs) (r : RepL K O H xs ds) : Walk K O H (Itt K a) ds := fun i O' H' af _ => by
  have e' : SqT K H' a xs := af.xt.sqT e
  have r' := af.repL r
  refine ⟨fun d h => ?_, fun h => ⟨xs, e', by rw [r'.length]; exact h⟩⟩
  obtain ⟨v, hv, rv⟩ := r'.get h
  refine ⟨⟨xs, v, e', hv⟩, fun x H'' ⟨e1, e2⟩ => ?_⟩
  subst e1
  have := e2 xs e'
  rw [hv] at this
  cases this
  exact ⟨Xt.refl _, rv⟩
theorem walk_str {K : PySem.W.Frag} {O : OS} {H : Hp} (z : Str) : Walk K O H (Its z) ((cps z).map fun c => .str (S [c])) := fun i O' H' _ _ => by
  refine ⟨fun d h => ?_, fun h => ?_⟩
  · rw [List.getElem?_map] at h
    cases e : (cps z)[i]? with
    | none => rw [e] at h; cases h
    | some c =>
      rw [e] at h
      cases h
      have e' : z.cps[i]? = some c := by rw [← Array.getElem?_toList]; exact e
      refine ⟨?_, fun x H'' ⟨e1, c', e2, e3⟩ => ?_⟩
      · show i < z.cps.size
        exact (Array.getElem?_eq_some_iff.mp e').1
      · subst e1; subst e3
        rw [e'] at e2; cases e2
        exact ⟨Xt.refl _, .str _⟩
  · show z.cps.size ≤ i
    rw [List.length_map] at h
    exact h
theorem si_seq (h : SE X e fa) : SI X tg e (iSeq fa) := ⟨PI.imp (pi_seq h.pe) fun σ H R ⟨G, B, O, τ, ρ, T, ds, T', E, hf, q⟩ => by
  unfold iSeq at hf
  split at hf
  · cases hf
  rename_i d T1 h1
  split at hf
  · cases hf
  rename_i ds' h2
  cases hf
  refine ⟨G, B, O, τ, ρ, T, d, T', E, h1, fun v H1 x t r => ?_⟩
  unfold seqD at h2
  split at h2
  · cases h2
    cases r with
    | lst no e r => exact .inl ⟨_, rfl, ⟨_, .of e⟩, q _ H1 x t (walk_list no e r)⟩
  · cases h2
    cases r with
    | tup e r => exact .inr (.inl ⟨_, rfl, ⟨_, e⟩, q _ H1 x t (walk_tup e r)⟩)
  · cases h2
    cases r
    exact .inr (.inr ⟨_, rfl, q _ H1 x t (walk_str _)⟩)
  · cases h2⟩
end
end Dv

/-! Dv12: displays, lists that grow, built-in functions, methods. -/
namespace Dv
open PySem PySem.Spec PyProof.Rows L2
section
variable {X : Cx} {tg a b e o : Expr} {es : List Expr} {fa fb fo : FE} {ga : FA} {p pos cpos apos : Pos}

/-! ### displays -/
def eTup (ga : FA) : FE := fun ρ T => match ga ρ T with
  | none => none
  | some (ds, T1) => if ds.length.ble line24 then some (.tuple ds, T1) else none
theorem se_tup {x1 : Nat} (h : SA X es ga) (hs : (starEach es X.env).any (·.1) = false := by rfl) : SE X (.Tuple es x1 pos) (eTup ga) := ⟨PE.imp (pe_tup h.pe) fun σ H Q ⟨G, B, O, τ, ρ, T, d, T', E, hf, q⟩ => by
  unfold eTup at hf
  split at hf
  · cases hf
  rename_i ds T1 h1
  split at hf
  · rename_i hl
    cases hf
    refine ⟨G, B, O, τ, ρ, T, ds, T', E, h1, fun vs H1 x t r => ⟨by rw [r.length, line24_eq]; exact Nat.le_of_ble_eq_true hl, fun u hu => ?_⟩⟩
    exact q _ _ (x.tr ((Gr.new hu).mono fun _ z => z.elim)) (t.gr (Gr.new hu)) (.tup (.inl (.inl upd_same)) (r.go (Gr.new hu) (fun _ z _ => z.elim) fun _ z => .inl z))
  · cases hf⟩
def eLst (ga : FA) : FE := fun ρ T => match ga ρ T with
  | none => none
  | some (ds, T1) => if ds.length.ble line24 then some (.list ds, T1) else none
theorem sn_lst (h : SA X es ga) : SN X (.List es pos) (eLst ga) := ⟨PE.imp (pe_lst h.pe) fun σ H Q ⟨G, B, O, τ, ρ, T, d, T', E, hf, q⟩ => by
  unfold eLst at hf
  split at hf
  · cases hf
  rename_i ds T1 h1
  split at hf
  · rename_i hl
    cases hf
    refine ⟨G, B, O, τ, ρ, T, ds, T', E, h1, fun vs H1 x t r => ⟨by rw [r.length, line24_eq]; exact Nat.le_of_ble_eq_true hl, fun u hu => ?_⟩⟩
    exact q u _ (new_back E x t hu) (x.tr ((Gr.new hu).mono fun _ z => z.elim)) (t.more hu) (.lst upd_same (r.go (Gr.new hu) (fun _ z _ => z.elim) (addO_new hu)))
  · cases hf⟩

/-! ### x.append(e), x the slot's own list -/
def sApp (i : Nat) (f : FE) : FS := fun ρ T => match f ρ T with
  | none => none
  | some (d, T1) => match ρ[i]? with
    | some (.ow (.list ds)) => if ds.length.blt line24 then some (.nx (ρ.set i (.ow (.list (ds ++ [d])))), T1) else none
    | _ => none
/-- the slot's own thing changes -/
theorem Sta.change {K : PySem.W.Frag} {G : Hp} {B O : OS} {τ : Option Addr} {σ : L2.St} {H : Hp} {ρ : Rho} {T : Tp} {i : Nat} {d d' : D} {p : Addr} {u o : HO} (E : Sta K G B O τ σ H ρ T) (hi : ρ[i]? = some (.ow d)) (hs : σ[i]? = some (some (.ref p))) (hp : H p = some u) (nf : ¬ Fix u) (r : Top K O (upd H p o) p d') :
    Aft O O H (upd H p o) ∧ Sta K G B O τ σ (upd H p o) (ρ.set i (.ow d')) T := by
  obtain ⟨a, ea, oa, nb, ga, ta, _⟩ := E.ow i d hi
  rw [hs] at ea; cases ea
  have x : Xt O H (upd H p o) := Xt.wr oa hp nf
  have x' : Xt (fun b => b = p) H (upd H p o) := Xt.wr rfl hp nf
  refine ⟨⟨x, fun _ z => .inl z⟩, ?_⟩
  exact {
    len := by rw [List.length_set]; exact E.len
    fr := fun j dj h => by
      rw [List.getElem?_set] at h
      by_cases hj : i = j
      · rw [if_pos hj] at h; split at h <;> cases h
      · rw [if_neg hj] at h
        obtain ⟨v, e, q⟩ := E.fr j dj h
        exact ⟨v, e, q.go x (fun _ z _ => z) fun _ z => .inl z⟩
    ow := fun j dj h => by
      rw [List.getElem?_set] at h
      by_cases hj : i = j
      · subst hj
        rw [if_pos rfl] at h
        split at h
        · cases h
          exact ⟨p, hs, oa, nb, ga, ta, r⟩
        · cases h
      · rw [if_neg hj] at h
        obtain ⟨b, e, ob, nb', gb, tb, q⟩ := E.ow j dj h
        have hne : b ≠ p := fun z => by
          subst z
          exact hj (E.sep i j d dj b hi h hs e)
        exact ⟨b, e, ob, nb', gb, tb, q.go x' (fun c z _ => by rw [z]; exact oa) (fun _ z => .inl z) hne⟩
    sep := fun j k dj dk b h1 h2 h3 h4 => by
      rw [List.getElem?_set] at h1 h2
      have g1 : ∃ dj, ρ[j]? = some (.ow dj) := by
        by_cases hj : i = j
        · subst hj; exact ⟨d, hi⟩
        · rw [if_neg hj] at h1; exact ⟨dj, h1⟩
      have g2 : ∃ dk, ρ[k]? = some (.ow dk) := by
        by_cases hk : i = k
        · subst hk; exact ⟨d, hi⟩
        · rw [if_neg hk] at h2; exact ⟨dk, h2⟩
      obtain ⟨e1, g1⟩ := g1
      obtain ⟨e2, g2⟩ := g2
      exact E.sep j k e1 e2 b g1 g2 h3 h4
    tp := fun j h => by
      rw [List.getElem?_set] at h
      by_cases hj : i = j
      · rw [if_pos hj] at h; split at h <;> cases h
      · rw [if_neg hj] at h; exact E.tp j h
    tok := E.tok.go (S := fun b => b = p) x' (fun b z _ => by subst z; exact ⟨oa, ta⟩) (fun _ z => .inl z) E.tO
    tb := E.tb
    dom := fun b z => by
      by_cases h : b = p
      · rw [h, upd_same]; simp
      · rw [upd_ne h]; exact E.dom b z
    gb := E.gb
    gd := E.gd
    gk := fun b u' h n => by
      have h1 := E.gk b u' h n
      have hne : b ≠ p := fun z => by rw [z, ga] at h; cases h
      rw [upd_ne hne]; exact h1 }
theorem ss_app {i : Nat} {x : Str} {px : Pos} (he : SE X e fa) (hN : X.N[i]? = some x := by rfl) (hv : Vis X.env.scope x := by first | exact Or.inl rfl | exact Or.inr (Or.inl rfl) | exact Or.inr (Or.inr rfl)) (hd : (x == ("__debug__" : Str)) = false := by decide) (hcd : (x == ("__classdict__" : Str)) = false := by decide)
    (hbase : attributeBase (.Name x px) "append" X.env (eval (.Name x px) X.env) = eval (.Name x px) X.env := by rfl)
    (hfew : ((backTo cpos (starEach [e] X.env)).all (fun x => !x.1) && (backToKw cpos (keywordEach [] X.env)).all (fun x => x.1.isSome) && decide ([e].length + ([] : List Keyword).length + (if ([] : List Keyword).isEmpty then 0 else 1) < 30)) = true := by rfl)
    (hline : (apos.endLine == cpos.line) = true := by rfl) (hst : starEach [e] X.env = (false, eval e X.env) :: starEach [] X.env := by rfl) (hplain : (backTo cpos (starEach [] X.env)).any (·.1) = false := by rfl)
    (hs : swapsWith (.Call (.Attribute (.Name x px) "append" apos) [e] [] cpos) none pos.line X.env = pure false := by rfl) :
    SS X (.Expr (.Call (.Attribute (.Name x px) "append" apos) [e] [] cpos) pos) (sApp i fa) := ⟨PS.imp (ps_expr (pe_bm PySem.F.plainAttrs_list PySem.F.slot_list_append PySem.F.type_list_append mt_append (pe_var hN hv hd hcd) (sa_cons he sa_nil hst).pe hbase hfew hline hst hplain) hs) fun D σ H ⟨G, B, O, τ, ρ, T, fl, T', E, hf, q⟩ => by
  unfold sApp at hf
  split at hf
  · cases hf
  rename_i d T1 h1
  split at hf
  · rename_i ds h2
    split at hf
    · rename_i h3
      cases hf
      obtain ⟨a, ea, oa, nb, gaa, ta, tt⟩ := E.ow i _ h2
      cases tt with
      | @lst xs _ hp r =>
        refine ⟨_, ea, .inl ⟨rfl, xs, .of hp⟩, G, B, O, τ, ρ, T, [d], T', E, by simp only [aCons, aNil, h1], fun vs H1 x t rv => ?_⟩
        have E1 := E.step x t
        have hp1 : H1 a = some (.lst xs) := x _ _ hp (.inl ta)
        cases rv with
        | @cons v _ _ _ rv rr =>
          cases rr
          have r1 := r.go x (fun a z _ => E.tO a z) (fun _ z => .inl z)
          refine ⟨a, xs, v, rfl, rfl, hp1, by rw [r.length, line24_eq]; exact Nat.blt_eq.mp h3, ?_⟩
          have xw : Xt O H1 (upd H1 a (.lst (xs ++ [v]))) := Xt.wr oa hp1 id
          obtain ⟨af, E2⟩ := E1.change (o := .lst (xs ++ [v])) (d' := .list (ds ++ [d])) h2 ea hp1 id (.lst upd_same ((RepL.app rv r1).go xw (fun _ z _ => z) fun _ z => .inl z))
          exact q σ _ O ((E.aft x).tr af) E2
    · cases hf
  · cases hf⟩

/-! ### built-in functions -/
def q1 (g : D → Option D) : List D → Option D
  | [d] => g d
  | _ => none
theorem rbl1 {K : PySem.W.Frag} {O : OS} {H : Hp} {xs : List V} {d : D} (h : RepBL K O H xs [d]) : ∃ v, xs = [v] ∧ RepB K O H v d := by
  cases h with
  | cons r q => cases q; exact ⟨_, rfl, r⟩
theorem rbl2 {K : PySem.W.Frag} {O : OS} {H : Hp} {xs : List V} {d d' : D} (h : RepBL K O H xs [d, d']) : ∃ v w, xs = [v, w] ∧ RepB K O H v d ∧ RepB K O H w d' := by
  cases h with
  | cons r q =>
    cases q with
    | cons r' q' => cases q'; exact ⟨_, _, rfl, r, r'⟩
def qLen : List D → Option D := q1 fun d => match d with
  | .list ds => some (.int ds.length)
  | .tuple ds => some (.int ds.length)
  | .str z => if z.length.ble line24 then some (.int z.length) else none
  | .dict es => some (.int es.length)
  | _ => none
theorem call_lenA : CallR X (.builtin "len") (fun xs H Q => ((∃ p ys, xs = [.ref p] ∧ (SqL X.K H p ys ∨ SqT X.K H p ys) ∧ Q (.int ys.length) H) ∨ (∃ z, xs = [.str z] ∧ z.length ≤ sizeLine ∧ Q (.int z.length) H)) ∨ (∃ a kvs, xs = [V.ref a] ∧ H a = some (.dK kvs) ∧ Q (.int kvs.length) H)) := (call_len_seq.or call_len_str).or call_lenD
end
end Dv

/-! Dv13: built-in functions and methods. -/
namespace Dv
open PySem PySem.Spec PyProof.Rows L2
section
variable {K : PySem.W.Frag}
theorem q1_some {g : D → Option D} {ds : List D} {d : D} (h : q1 g ds = some d) : ∃ x, ds = [x] ∧ g x = some d := by
  unfold q1 at h
  split at h
  · exact ⟨_, rfl, h⟩
  · cases h
theorem on1 {r : List V → Hp → VK → Prop} {g : D → Option D} (h : ∀ (O : OS) (H : Hp) (v : V) (x d : D) (Q : VK), (∀ a, O a → H a ≠ none) → RepB K O H v x → g x = some d → (∀ w H', Gr H H' → Rep K O H' w d → Q w H') → r [v] H Q) : OpN K r (q1 g) := fun O H xs ds d Q hd r hg q => by
  obtain ⟨x, rfl, hx⟩ := q1_some hg
  obtain ⟨v, rfl, rv⟩ := rbl1 r
  exact h O H v x d Q hd rv hx q
theorem onn1 {r : List V → Hp → VK → Prop} {g : D → Option D} (h : ∀ (O : OS) (H : Hp) (v : V) (x d : D) (Q : VK), (∀ a, O a → H a ≠ none) → RepB K O H v x → g x = some d → (∀ p o, H p = none → Top K (addO O p) (upd H p o) p d → Q (.ref p) (upd H p o)) → r [v] H Q) : OpNN K r (q1 g) := fun O H xs ds d Q hd r hg q => by
  obtain ⟨x, rfl, hx⟩ := q1_some hg
  obtain ⟨v, rfl, rv⟩ := rbl1 r
  exact h O H v x d Q hd rv hx q
theorem rl_new {O : OS} {H : Hp} {p : Addr} {o : HO} {xs : List V} {ds : List D} (hp : H p = none) (r : RepL K O H xs ds) : RepL K (addO O p) (upd H p o) xs ds := r.go (Gr.new hp) (fun _ z _ => z.elim) (addO_new hp)
theorem rl_gr {O : OS} {H H' : Hp} {xs : List V} {ds : List D} (g : Gr H H') (r : RepL K O H xs ds) : RepL K O H' xs ds := r.go g (fun _ z _ => z.elim) fun _ z => .inl z
end
section
variable {X : Cx} {tg a b e o : Expr} {es : List Expr} {fa fb fo : FE} {ga : FA} {p pos cpos apos : Pos}
theorem on_len : OpN X.K (fun xs H Q => (((∃ p ys, xs = [.ref p] ∧ (SqL X.K H p ys ∨ SqT X.K H p ys) ∧ Q (.int ys.length) H) ∨ (∃ z, xs = [.str z] ∧ z.length ≤ sizeLine ∧ Q (.int z.length) H)) ∨ (∃ a kvs, xs = [V.ref a] ∧ H a = some (.dK kvs) ∧ Q (.int kvs.length) H)) ∨ rLenT xs H Q) qLen := on1 fun O H v x d Q hd rv hx q => by
  split at hx
  · cases hx
    obtain ⟨p, xs, rfl, hp, rp⟩ := rb_list rv
    exact .inl (.inl (.inl ⟨p, xs, rfl, .inl (.of hp), by rw [rp.length]; exact q _ H (Xt.refl H) (.int _)⟩))
  · cases hx
    obtain ⟨p, xs, rfl, hp, rp⟩ := rb_tup rv
    exact .inl (.inl (.inl ⟨p, xs, rfl, .inr hp, by rw [rp.length]; exact q _ H (Xt.refl H) (.int _)⟩))
  · split at hx
    · rename_i hl
      cases hx
      exact .inl (.inl (.inr ⟨_, by rw [rb_str rv], by rw [line24_eq]; exact Nat.le_of_ble_eq_true hl, q _ H (Xt.refl H) (.int _)⟩))
    · cases hx
  · cases hx
    obtain ⟨p, rfl, ⟨kvs, hp, rp⟩ | ⟨kvs, hp, rp⟩⟩ := rb_dict rv
    · exact .inl (.inr ⟨p, kvs, rfl, hp, by rw [rp.length]; exact q _ H (Xt.refl H) (.int _)⟩)
    · exact .inr ⟨p, kvs, rfl, hp, by rw [rp.length]; exact q _ H (Xt.refl H) (.int _)⟩
  · cases hx
theorem se_len (hm : X.mg "len" = none) (ha : SAB X (e :: es) ga) (hg : Gl X "len" := by rfl) (he : starEach (e :: es) X.env = (false, eval e X.env) :: starEach es X.env := by rfl) (hpl : (backTo pos (starEach es X.env)).any (·.1) = false := by rfl) : SE X (.Call (.Name "len" p) (e :: es) [] pos) (eCall qLen ga) :=
  se_callB (call_lenA.or call_len_dT) on_len hm ha boot_len hg (by decide) (by decide) he hpl
def qAll : List D → Option D := q1 fun d => match d with
  | .list ds => match boolsD ds with
    | none => none
    | some bs => some (.bool (bs.all id))
  | _ => none
theorem se_all (hc : X.calm = true) (hm : X.mg "all" = none) (ha : SAB X (e :: es) ga) (hg : Gl X "all" := by rfl) (he : starEach (e :: es) X.env = (false, eval e X.env) :: starEach es X.env := by rfl) (hpl : (backTo pos (starEach es X.env)).any (·.1) = false := by rfl) : SE X (.Call (.Name "all" p) (e :: es) [] pos) (eCall qAll ga) :=
  se_callB (cr_all hc) (on1 fun O H v x d Q hd rv hx q => by
    split at hx
    · split at hx
      · cases hx
      rename_i bs h2
      cases hx
      obtain ⟨p, xs, rfl, hp, rp⟩ := rb_list rv
      rw [rl_bools rp h2] at hp
      exact ⟨p, bs, rfl, .of hp, q _ H (Xt.refl H) (.bl _)⟩
    · cases hx) hm ha (by decide +kernel) hg (by decide) (by decide) he hpl
def qAny : List D → Option D := q1 fun d => match d with
  | .list ds => match boolsD ds with
    | none => none
    | some bs => some (.bool (bs.any id))
  | _ => none
theorem se_any (hc : X.calm = true) (hm : X.mg "any" = none) (ha : SAB X (e :: es) ga) (hg : Gl X "any" := by rfl) (he : starEach (e :: es) X.env = (false, eval e X.env) :: starEach es X.env := by rfl) (hpl : (backTo pos (starEach es X.env)).any (·.1) = false := by rfl) : SE X (.Call (.Name "any" p) (e :: es) [] pos) (eCall qAny ga) :=
  se_callB (cr_any hc) (on1 fun O H v x d Q hd rv hx q => by
    split at hx
    · split at hx
      · cases hx
      rename_i bs h2
      cases hx
      obtain ⟨p, xs, rfl, hp, rp⟩ := rb_list rv
      rw [rl_bools rp h2] at hp
      exact ⟨p, bs, rfl, .of hp, q _ H (Xt.refl H) (.bl _)⟩
    · cases hx) hm ha (by decide +kernel) hg (by decide) (by decide) he hpl
def qSum : List D → Option D := q1 fun d => match d with
  | .list ds => match intsD ds with
    | none => none
    | some bs => some (.int bs.sum)
  | _ => none
theorem se_sum (hc : X.calm = true) (hm : X.mg "sum" = none) (ha : SAB X (e :: es) ga) (hg : Gl X "sum" := by rfl) (he : starEach (e :: es) X.env = (false, eval e X.env) :: starEach es X.env := by rfl) (hpl : (backTo pos (starEach es X.env)).any (·.1) = false := by rfl) : SE X (.Call (.Name "sum" p) (e :: es) [] pos) (eCall qSum ga) :=
  se_callB (cr_sum hc) (on1 fun O H v x d Q hd rv hx q => by
    split at hx
    · split at hx
      · cases hx
      rename_i bs h2
      cases hx
      obtain ⟨p, xs, rfl, hp, rp⟩ := rb_list rv
      rw [rl_ints rp h2] at hp
      exact ⟨p, bs, rfl, .of hp, q _ H (Xt.refl H) (.int _)⟩
    · cases hx) hm ha (by decide +kernel) hg (by decide) (by decide) he hpl
/-- the greatest, the least of ints -/
def mxL : Int → List Int → Int
  | m, [] => m
  | m, x :: r => mxL (if m < x then x else m) r
def mnL : Int → List Int → Int
  | m, [] => m
  | m, x :: r => mnL (if x < m then x else m) r
theorem mxL_spec : ∀ (r : List Int) (m : Int), (mxL m r = m ∨ mxL m r ∈ r) ∧ m ≤ mxL m r ∧ ∀ y ∈ r, y ≤ mxL m r
  | [], m => ⟨.inl rfl, Int.le_refl _, fun _ h => by cases h⟩
  | x :: r, m => by
    have h := mxL_spec r (if m < x then x else m)
    unfold mxL
    by_cases c : m < x
    · rw [if_pos c] at h ⊢
      refine ⟨.inr ?_, by omega, fun y hy => ?_⟩
      · rcases h.1 with z | z
        · rw [z]; exact List.mem_cons_self
        · exact List.mem_cons_of_mem _ z
      · rcases List.mem_cons.mp hy with z | z
        · rw [z]; exact h.2.1
        · exact h.2.2 y z
    · rw [if_neg c] at h ⊢
      refine ⟨h.1.imp id fun z => List.mem_cons_of_mem _ z, h.2.1, fun y hy => ?_⟩
      rcases List.mem_cons.mp hy with z | z
      · rw [z]; omega
      · exact h.2.2 y z
theorem mnL_spec : ∀ (r : List Int) (m : Int), (mnL m r = m ∨ mnL m r ∈ r) ∧ mnL m r ≤ m ∧ ∀ y ∈ r, mnL m r ≤ y
  | [], m => ⟨.inl rfl, Int.le_refl _, fun _ h => by cases h⟩
  | x :: r, m => by
    have h := mnL_spec r (if x < m then x else m)
    unfold mnL
    by_cases c : x < m
    · rw [if_pos c] at h ⊢
      refine ⟨.inr ?_, by omega, fun y hy => ?_⟩
      · rcases h.1 with z | z
        · rw [z]; exact List.mem_cons_self
        · exact List.mem_cons_of_mem _ z
      · rcases List.mem_cons.mp hy with z | z
        · rw [z]; exact h.2.1
        · exact h.2.2 y z
    · rw [if_neg c] at h ⊢
      refine ⟨h.1.imp id fun z => List.mem_cons_of_mem _ z, h.2.1, fun y hy => ?_⟩
      rcases List.mem_cons.mp hy with z | z
      · rw [z]; omega
      · exact h.2.2 y z
def qMax : List D → Option D
  | [.int i, .int j] => some (.int (if j > i then j else i))
  | [.list ds] => match intsD ds with
    | some (m :: r) => some (.int (mxL m r))
    | _ => none
  | _ => none
def qMin : List D → Option D
  | [.int i, .int j] => some (.int (if j < i then j else i))
  | [.list ds] => match intsD ds with
    | some (m :: r) => some (.int (mnL m r))
    | _ => none
  | _ => none
theorem on_max : OpN X.K (fun xs H Q => (∃ i j, xs = [.int i, .int j] ∧ Q (.int (if j > i then j else i)) H) ∨ rMax X.K xs H Q) qMax := fun O H xs ds d Q hd r hg q => by
  unfold qMax at hg
  split at hg
  · cases hg
    obtain ⟨v, w, rfl, r1, r2⟩ := rbl2 r
    exact .inl ⟨_, _, by rw [rb_int r1, rb_int r2], q _ H (Xt.refl H) (.int _)⟩
  · split at hg
    · rename_i m s h2
      cases hg
      obtain ⟨v, rfl, rv⟩ := rbl1 r
      obtain ⟨p, xs, rfl, hp, rp⟩ := rb_list rv
      rw [rl_ints rp h2] at hp
      refine .inr ⟨p, m :: s, rfl, .of hp, Nat.succ_pos _, fun k hk hy => ?_⟩
      have sp := mxL_spec s m
      have h1 : k ≤ mxL m s := by
        rcases List.mem_cons.mp hk with z | z
        · rw [z]; exact sp.2.1
        · exact sp.2.2 k z
      have h2 : mxL m s ≤ k := by
        rcases sp.1 with z | z
        · rw [z]; exact hy m List.mem_cons_self
        · exact hy _ (List.mem_cons_of_mem _ z)
      rw [Int.le_antisymm h1 h2]
      exact q _ H (Xt.refl H) (.int _)
    · cases hg
  · cases hg
theorem on_min : OpN X.K (fun xs H Q => (∃ i j, xs = [.int i, .int j] ∧ Q (.int (if j < i then j else i)) H) ∨ rMin X.K xs H Q) qMin := fun O H xs ds d Q hd r hg q => by
  unfold qMin at hg
  split at hg
  · cases hg
    obtain ⟨v, w, rfl, r1, r2⟩ := rbl2 r
    exact .inl ⟨_, _, by rw [rb_int r1, rb_int r2], q _ H (Xt.refl H) (.int _)⟩
  · split at hg
    · rename_i m s h2
      cases hg
      obtain ⟨v, rfl, rv⟩ := rbl1 r
      obtain ⟨p, xs, rfl, hp, rp⟩ := rb_list rv
      rw [rl_ints rp h2] at hp
      refine .inr ⟨p, m :: s, rfl, .of hp, Nat.succ_pos _, fun k hk hy => ?_⟩
      have sp := mnL_spec s m
      have h1 : mnL m s ≤ k := by
        rcases List.mem_cons.mp hk with z | z
        · rw [z]; exact sp.2.1
        · exact sp.2.2 k z
      have h2 : k ≤ mnL m s := by
        rcases sp.1 with z | z
        · rw [z]; exact hy m List.mem_cons_self
        · exact hy _ (List.mem_cons_of_mem _ z)
      rw [Int.le_antisymm h2 h1]
      exact q _ H (Xt.refl H) (.int _)
    · cases hg
  · cases hg
theorem se_max (hc : X.calm = true) (hm : X.mg "max" = none) (ha : SAB X (e :: es) ga) (hg : Gl X "max" := by rfl) (he : starEach (e :: es) X.env = (false, eval e X.env) :: starEach es X.env := by rfl) (hpl : (backTo pos (starEach es X.env)).any (·.1) = false := by rfl) : SE X (.Call (.Name "max" p) (e :: es) [] pos) (eCall qMax ga) :=
  se_callB ((call_max2 hc).or (cr_max hc)) on_max hm ha (by decide +kernel) hg (by decide) (by decide) he hpl
theorem se_min (hc : X.calm = true) (hm : X.mg "min" = none) (ha : SAB X (e :: es) ga) (hg : Gl X "min" := by rfl) (he : starEach (e :: es) X.env = (false, eval e X.env) :: starEach es X.env := by rfl) (hpl : (backTo pos (starEach es X.env)).any (·.1) = false := by rfl) : SE X (.Call (.Name "min" p) (e :: es) [] pos) (eCall qMin ga) :=
  se_callB ((call_min2 hc).or (cr_min hc)) on_min hm ha (by decide +kernel) hg (by decide) (by decide) he hpl
def qAbs : List D → Option D := q1 fun d => match d with
  | .int i => some (.int (if i < 0 then -i else i))
  | _ => none
theorem se_abs (hm : X.mg "abs" = none) (ha : SAB X (e :: es) ga) (hg : Gl X "abs" := by rfl) (he : starEach (e :: es) X.env = (false, eval e X.env) :: starEach es X.env := by rfl) (hpl : (backTo pos (starEach es X.env)).any (·.1) = false := by rfl) : SE X (.Call (.Name "abs" p) (e :: es) [] pos) (eCall qAbs ga) :=
  se_callB call_abs (on1 fun O H v x d Q hd rv hx q => by
    split at hx
    · cases hx
      exact ⟨_, by rw [rb_int rv], q _ H (Xt.refl H) (.int _)⟩
    · cases hx) hm ha (by decide +kernel) hg (by decide) (by decide) he hpl
/-- int(n), int(True), int of one digit -/
def digD : List Nat → Option Int
  | [c] => if Nat.ble 48 c && Nat.ble c 57 then some ((c - 48 : Nat) : Int) else none
  | _ => none
theorem digD_text {x : Str} {n : Int} (h : digD (cps x) = some n) : PySem.intText? x = some n ∧ x.length ≤ 640 := by
  unfold digD at h
  split at h
  · rename_i c e
    split at h
    · rename_i hc
      cases h
      rw [Bool.and_eq_true] at hc
      have h1 := Nat.le_of_ble_eq_true hc.1
      have h2 := Nat.le_of_ble_eq_true hc.2
      have ex : x = S [c] := by rw [← S_cps x, e]
      subst ex
      refine ⟨?_, by rw [len_S]; show 1 ≤ 640; decide⟩
      have all : ∀ k : Fin 10, PySem.intText? (S [48 + k.val]) = some ((48 + k.val - 48 : Nat) : Int) := by decide +kernel
      have := all ⟨c - 48, by omega⟩
      rw [show 48 + (c - 48) = c by omega] at this
      exact this
    · cases h
  · cases h
def qInt : List D → Option D := q1 fun d => match d with
  | .int i => some (.int i)
  | .bool b => some (.int (if b then 1 else 0))
  | .str z => match digD (cps z) with
    | none => none
    | some n => some (.int n)
  | _ => none
theorem se_int1 (hm : X.mg "int" = none) (ha : SAB X (e :: es) ga) (hg : Gl X "int" := by rfl) (he : starEach (e :: es) X.env = (false, eval e X.env) :: starEach es X.env := by rfl) (hpl : (backTo pos (starEach es X.env)).any (·.1) = false := by rfl) : SE X (.Call (.Name "int" p) (e :: es) [] pos) (eCall qInt ga) :=
  se_callTy (call_int1.or call_int_str) (on1 fun O H v x d Q hd rv hx q => by
    split at hx
    · cases hx
      exact .inl (.inl ⟨_, by rw [rb_int rv], q _ H (Xt.refl H) (.int _)⟩)
    · cases hx
      exact .inl (.inr ⟨_, by rw [rb_bl rv], q _ H (Xt.refl H) (.int _)⟩)
    · split at hx
      · cases hx
      rename_i n h2
      cases hx
      obtain ⟨h3, h4⟩ := digD_text h2
      exact .inr ⟨_, n, by rw [rb_str rv], h3, h4, q _ H (Xt.refl H) (.int _)⟩
    · cases hx) hm ha (by decide +kernel) hg (by decide) (by decide) he hpl
/-- str of one digit -/
def qStr : List D → Option D := q1 fun d => match d with
  | .int i => if decide (0 ≤ i) && decide (i < 10) then some (.str (S [48 + i.toNat])) else none
  | _ => none
theorem str_dig {i : Int} (h0 : 0 ≤ i) (h1 : i < 10) : (toString i : Str) = S [48 + i.toNat] := by
  have all : ∀ k : Fin 10, (toString ((k.val : Nat) : Int) : Str) = S [48 + k.val] := by decide +kernel
  have := all ⟨i.toNat, by omega⟩
  rw [show ((i.toNat : Nat) : Int) = i by omega] at this
  exact this
theorem se_str1 (hm : X.mg "str" = none) (ha : SAB X (e :: es) ga) (hg : Gl X "str" := by rfl) (he : starEach (e :: es) X.env = (false, eval e X.env) :: starEach es X.env := by rfl) (hpl : (backTo pos (starEach es X.env)).any (·.1) = false := by rfl) : SE X (.Call (.Name "str" p) (e :: es) [] pos) (eCall qStr ga) :=
  se_callTy call_str_int (on1 fun O H v x d Q hd rv hx q => by
    split at hx
    · split at hx
      · rename_i c
        cases hx
        rw [Bool.and_eq_true, decide_eq_true_eq, decide_eq_true_eq] at c
        refine ⟨_, by rw [rb_int rv], ?_, ?_⟩
        · have lg : ∀ (k : Nat), k < 10 → k.log2 < 1920 := fun k hk => (by decide +kernel : ∀ k : Fin 10, k.val.log2 < 1920) ⟨k, hk⟩
          exact lg _ (by omega)
        · rw [str_dig c.1 c.2]
          exact q _ H (Xt.refl H) (.str _)
      · cases hx
    · cases hx) hm ha (by decide +kernel) hg (by decide) (by decide) he hpl
/-- tuple(list), tuple(tuple): a value -/
def qTuple : List D → Option D := q1 fun d => match d with
  | .list ds => some (.tuple ds)
  | .tuple ds => some (.tuple ds)
  | _ => none
theorem se_tuple (hm : X.mg "tuple" = none) (ha : SAB X (e :: es) ga) (hg : Gl X "tuple" := by rfl) (he : starEach (e :: es) X.env = (false, eval e X.env) :: starEach es X.env := by rfl) (hpl : (backTo pos (starEach es X.env)).any (·.1) = false := by rfl) : SE X (.Call (.Name "tuple" p) (e :: es) [] pos) (eCall qTuple ga) :=
  se_callTy call_tuple_of (on1 fun O H v x d Q hd rv hx q => by
    split at hx
    · cases hx
      obtain ⟨p, xs, rfl, hp, rp⟩ := rb_list rv
      exact ⟨p, xs, rfl, .inl ⟨.of hp, fun l hl => q _ _ (Gr.new hl) (.tup (.inl (.inl upd_same)) (rl_gr (Gr.new hl) rp))⟩⟩
    · cases hx
      obtain ⟨p, xs, rfl, hp, rp⟩ := rb_tup rv
      exact ⟨p, xs, rfl, .inr ⟨hp, q _ H (Xt.refl H) (.tup hp rp)⟩⟩
    · cases hx) hm ha (by decide +kernel) hg (by decide) (by decide) he hpl
/-- list(list), list(tuple): a new one -/
def qList : List D → Option D := q1 fun d => match d with
  | .list ds => some (.list ds)
  | .tuple ds => some (.list ds)
  | _ => none
theorem sn_list (hm : X.mg "list" = none) (ha : SAB X (e :: es) ga) (hg : Gl X "list" := by rfl) (he : starEach (e :: es) X.env = (false, eval e X.env) :: starEach es X.env := by rfl) (hpl : (backTo pos (starEach es X.env)).any (·.1) = false := by rfl) : SN X (.Call (.Name "list" p) (e :: es) [] pos) (eCall qList ga) :=
  sn_callTy call_list_of (onn1 fun O H v x d Q hd rv hx q => by
    split at hx
    · cases hx
      obtain ⟨p, xs, rfl, hp, rp⟩ := rb_list rv
      exact ⟨p, xs, rfl, .inl (.of hp), fun l hl => q _ _ hl (.lst upd_same (rl_new hl rp))⟩
    · cases hx
      obtain ⟨p, xs, rfl, hp, rp⟩ := rb_tup rv
      exact ⟨p, xs, rfl, .inr hp, fun l hl => q _ _ hl (.lst upd_same (rl_new hl rp))⟩
    · cases hx) hm ha (by decide +kernel) hg (by decide) (by decide) he hpl
end
end Dv

/-! Dv14: texts: join, count, in; dicts by comprehension; reversed. -/
namespace Dv
open PySem PySem.Spec PyProof.Rows L2
/-- is y within x -/
def subIn (y : List Nat) : List Nat → Bool
  | [] => y.isEmpty
  | c :: r => y.isPrefixOf (c :: r) || subIn y r
theorem subIn_iff (y : List Nat) : ∀ x : List Nat, subIn y x = true ↔ ∃ i, i ≤ x.length ∧ (x.drop i).take y.length = y
  | [] => by
    unfold subIn
    rw [List.isEmpty_iff]
    constructor
    · intro h; subst h; exact ⟨0, Nat.le_refl _, rfl⟩
    · rintro ⟨i, _, h⟩
      rw [List.drop_nil, List.take_nil] at h
      exact h.symm
  | c :: r => by
    unfold subIn
    rw [Bool.or_eq_true, List.isPrefixOf_iff_prefix, subIn_iff y r]
    constructor
    · rintro (⟨t, ht⟩ | ⟨i, h1, h2⟩)
      · exact ⟨0, Nat.zero_le _, by rw [List.drop_zero, ← ht, List.take_left]⟩
      · exact ⟨i + 1, Nat.succ_le_succ h1, by rw [List.drop_succ_cons]; exact h2⟩
    · rintro ⟨i, h1, h2⟩
      cases i with
      | zero =>
        refine .inl ⟨(c :: r).drop y.length, ?_⟩
        rw [List.drop_zero] at h2
        rw [← h2, List.length_take]
        have e : min y.length (c :: r).length = y.length ∨ y.length ≤ (c :: r).length ∨ (c :: r).length < y.length := by omega
        by_cases hl : y.length ≤ (c :: r).length
        · rw [Nat.min_eq_left hl, List.take_append_drop]
        · have : ((c :: r).take y.length).length = y.length := by rw [h2]
          rw [List.length_take] at this
          omega
      | succ i => exact .inr ⟨i, Nat.le_of_succ_le_succ h1, by rw [List.drop_succ_cons] at h2; exact h2⟩
theorem found_sub (x y : Str) : (!(Builtin.Str.occurrences x y 0 x.length 1).isEmpty) = subIn (cps y) (cps x) := by
  rw [Bool.eq_iff_iff, StrLaws.found_iff, subIn_iff]
  constructor
  · rintro ⟨i, h1, h2⟩
    rw [StrLaws.subAt_eq, beq_iff_eq] at h2
    rw [len_cps, len_cps] at h1
    exact ⟨i, by omega, by rw [← len_cps]; exact h2⟩
  · rintro ⟨i, h1, h2⟩
    have hl : ((cps x).drop i).take (cps y).length = cps y := h2
    have h3 : (((cps x).drop i).take (cps y).length).length = (cps y).length := by rw [hl]
    rw [List.length_take, List.length_drop] at h3
    refine ⟨i, by rw [len_cps, len_cps]; omega, ?_⟩
    rw [StrLaws.subAt_eq, beq_iff_eq, len_cps]
    exact h2
/-- how often a sign stands in a text -/
theorem occ_count (x : Str) (c : Nat) (lim : Nat) : ∀ (n a : Nat) (st : Array Nat × Nat), a + n = x.length → st.2 ≤ a → st.1.size + n ≤ lim →
    (forIn (List.range' a (n + 1)) st (StrLaws.occBody x ⟨#[c]⟩ x.length lim)).run.fst.size = st.1.size + ((cps x).drop a).countP (· == c) := by
  intro n
  induction n with
  | zero =>
    intro a st ha hs hl
    have e : (cps x).drop a = [] := List.drop_eq_nil_of_le (by rw [← len_cps]; omega)
    rw [e, List.range'_succ, List.range'_zero, List.forIn_cons]
    unfold StrLaws.occBody
    rw [if_neg]
    · rfl
    · rintro ⟨⟨_, h⟩, _⟩
      have : (⟨#[c]⟩ : Str).length = 1 := rfl
      omega
  | succ n ih =>
    intro a st ha hs hl
    have hlt : a < (cps x).length := by rw [← len_cps]; omega
    rw [List.range'_succ, List.forIn_cons, List.drop_eq_getElem_cons hlt, List.countP_cons]
    unfold StrLaws.occBody
    have l1 : (⟨#[c]⟩ : Str).length = 1 := rfl
    by_cases hc : (cps x)[a] = c
    · have hsub : Builtin.Str.subAt x ⟨#[c]⟩ a = true := ((StrLaws.subAt_one x c a).mpr (by rw [← hc]; exact List.getElem?_eq_getElem hlt)).2
      rw [if_pos ⟨⟨⟨by omega, hs⟩, by omega⟩, hsub⟩]
      have := ih (a + 1) (st.1.push a, a + 1) (by omega) (Nat.le_refl _) (by rw [Array.size_push]; omega)
      rw [if_pos (by rw [beq_iff_eq]; exact hc)]
      rw [Array.size_push] at this
      refine Eq.trans this ?_
      omega
    · have hsub : ¬ Builtin.Str.subAt x ⟨#[c]⟩ a = true := fun h => by
        have := (StrLaws.subAt_one x c a).mp ⟨by omega, h⟩
        have e2 : (cps x)[a]? = some (cps x)[a] := List.getElem?_eq_getElem hlt
        have e3 : (cps x)[a]? = some c := this
        rw [e2] at e3
        exact hc (Option.some.inj e3)
      rw [if_neg fun h => hsub h.2, if_neg (by rw [beq_iff_eq]; exact hc)]
      have := ih (a + 1) st (by omega) (Nat.le_succ_of_le hs) (by omega)
      refine Eq.trans this ?_
      rfl
theorem count_sign (x : Str) (c : Nat) : Txt.count x ⟨#[c]⟩ = (((cps x).countP (· == c) : Nat) : Int) := by
  unfold Txt.count
  rw [StrLaws.occ_eq, Array.length_toList]
  have h := occ_count x c (x.length + 1) x.length 0 (#[], 0) (by omega) (Nat.le_refl _) (by show 0 + x.length ≤ _; omega)
  rw [Nat.sub_zero]
  rw [List.drop_zero] at h
  rw [h]
  show ((0 + _ : Nat) : Int) = _
  rw [Nat.zero_add]
theorem join_nil (ys : List Str) : Txt.join (S []) ys = S ((ys.map cps).flatten) := by
  have fold : ∀ (r : List Str) (acc : Array Nat), (r.foldl (fun acc p => acc ++ (S []).cps ++ p.cps) acc).toList = acc.toList ++ (r.map cps).flatten := by
    intro r
    induction r with
    | nil => intro acc; simp
    | cons y r ih => intro acc; rw [List.foldl_cons, ih]; simp [S, cps]
  unfold Txt.join
  cases ys with
  | nil => rfl
  | cons y r =>
    have h := fold r y.cps
    rw [← S_cps (Builtin.Str.glued (S []) (y :: r))]
    congr 1

section
variable {X : Cx} {tg a b e o : Expr} {es : List Expr} {fa fb fo : FE} {ga : FA} {p pos cpos apos : Pos}
/-- o.m(e, ..), o a text or list that is looked at -/
def eMeth (g : D → List D → Option D) (fo : FE) (ga : FA) : FE := fun ρ T => match fo ρ T with
  | none => none
  | some (x, T1) => match ga ρ T1 with
    | none => none
    | some (ds, T2) => match g x ds with
      | none => none
      | some d => some (d, T2)
def OpM (K : PySem.W.Frag) (T : String) (r : V → List V → Hp → VK → Prop) (g : D → List D → Option D) : Prop := ∀ (O : OS) (H : Hp) (v : V) (xs : List V) (x : D) (ds : List D) (d : D) (Q : VK), (∀ a, O a → H a ≠ none) → RepB K O H v x → RepBL K O H xs ds → g x ds = some d →
  (∀ w H', Gr H H' → Rep K O H' w d → Q w H') → r v xs H Q
/-- the receiver's type stands ahead of the arguments -/
def TyD (K : PySem.W.Frag) (T : String) (g : D → List D → Option D) : Prop := ∀ (O : OS) (H : Hp) (v : V) (x : D) (ds : List D) (d : D), RepB K O H v x → g x ds = some d → tyV K T v H
theorem tBM_of {K : PySem.W.Frag} {T : String} {r : V → List V → Hp → VK → Prop} {g : D → List D → Option D} (ht : TyD K T g) (ho : OpM K T r g) {σ : L2.St} {H : Hp} {Q : VK} (h : rdE K (eMeth g fo ga) σ H Q) : tBM K T r (rdB K fo) (rdAB K ga) σ H Q := by
  obtain ⟨G, B, O, τ, ρ, T, d, T', E, hf, q⟩ := h
  unfold eMeth at hf
  split at hf
  · cases hf
  rename_i x T1 h1
  split at hf
  · cases hf
  rename_i ds T2 h2
  split at hf
  · cases hf
  rename_i d' h3
  cases hf
  refine ⟨G, B, O, τ, ρ, T, x, T1, E, h1, fun v H1 x1 t1 r1 => ⟨ht O H1 v x ds d r1.b h3, G, B, O, τ, ρ, T1, ds, T', E.step x1 t1, h2, fun vs H2 x2 t2 r2 => ?_⟩⟩
  have E1 := E.step x1 t1
  exact ho O H2 v vs x ds d Q (E1.step x2 t2).dom (r1.step E1 x2).b r2 h3 fun w H' g' rw' => q w H' ((x1.tr x2).tr (g'.mono fun _ z => z.elim)) (t2.gr g') rw'
theorem se_meth {T id : String} {name : Str} {r : V → List V → Hp → VK → Prop} {g : D → List D → Option D} (pa : PlainAttrs T) (slot : Slot T name id) (hty : typeOf (.builtin id) = pure (.type "method_descriptor")) (hm : MtR X id r) (ht : TyD X.K T g) (hg : OpM X.K T r g)
    (ho : SB X o fo) (ha : SAB X (e :: es) ga) (hbase : attributeBase o name X.env (eval o X.env) = eval o X.env := by rfl)
    (hfew : ((backTo cpos (starEach (e :: es) X.env)).all (fun x => !x.1) && (backToKw cpos (keywordEach [] X.env)).all (fun x => x.1.isSome) && decide ((e :: es).length + ([] : List Keyword).length + (if ([] : List Keyword).isEmpty then 0 else 1) < 30)) = true := by rfl)
    (hline : (apos.endLine == cpos.line) = true := by rfl) (hs : starEach (e :: es) X.env = (false, eval e X.env) :: starEach es X.env := by rfl) (hplain : (backTo cpos (starEach es X.env)).any (·.1) = false := by rfl) :
    SE X (.Call (.Attribute o name apos) (e :: es) [] cpos) (eMeth g fo ga) := ⟨PE.imp (pe_bm pa slot hty hm ho.pe ha.pe hbase hfew hline hs hplain) fun σ H Q h => tBM_of ht hg h⟩
def qJoin (x : D) (ds : List D) : Option D := match x, ds with
  | .str z, [.list l] => if (cps z).isEmpty then match strsD l with
      | none => none
      | some ys => if (((ys.map cps).flatten).length).ble line24 then some (.str (S ((ys.map cps).flatten))) else none
    else none
  | _, _ => none
theorem sum_flat : ∀ ys : List Str, (ys.map (·.length)).sum = ((ys.map cps).flatten).length
  | [] => rfl
  | y :: r => by
    rw [List.map_cons, List.sum_cons, List.map_cons, List.flatten_cons, List.length_append, ← len_cps, sum_flat r]
theorem se_join (ho : SB X o fo) (ha : SAB X [e] ga) (hline : (apos.endLine == cpos.line) = true := by rfl) (hbase : attributeBase o "join" X.env (eval o X.env) = eval o X.env := by rfl)
    (hfew : ((backTo cpos (starEach [e] X.env)).all (fun x => !x.1) && (backToKw cpos (keywordEach [] X.env)).all (fun x => x.1.isSome) && decide ([e].length + ([] : List Keyword).length + (if ([] : List Keyword).isEmpty then 0 else 1) < 30)) = true := by rfl)
    (hs : starEach [e] X.env = (false, eval e X.env) :: starEach [] X.env := by rfl) (hplain : (backTo cpos (starEach [] X.env)).any (·.1) = false := by rfl) : SE X (.Call (.Attribute o "join" apos) [e] [] cpos) (eMeth qJoin fo ga) :=
  se_meth (T := "str") PySem.F.plainAttrs_str PySem.F.slot_str_join PySem.F.type_str_join mt_join (fun O H v x ds d r h => by
    unfold qJoin at h
    split at h
    · rw [rb_str r]; rfl
    · cases h) (fun O H v xs x ds d Q hd r rl h q => by
    unfold qJoin at h
    split at h
    · split at h
      · rename_i z l hz
        split at h
        · cases h
        rename_i ys h2
        split at h
        · rename_i h3
          cases h
          obtain ⟨w, rfl, rw'⟩ := rbl1 rl
          obtain ⟨p, xs, rfl, hp, rp⟩ := rb_list rw'
          rw [rl_strs rp h2] at hp
          have ez : z = S [] := by rw [← S_cps z, List.isEmpty_iff.mp hz]
          refine ⟨z, p, ys, rb_str r, rfl, .inl (.of hp), ?_, ?_⟩
          · rw [ez, sum_flat]
            have := Nat.le_of_ble_eq_true h3
            show _ + _ * 0 ≤ line24
            omega
          · rw [ez, join_nil]
            exact q _ H (Xt.refl H) (.str _)
        · cases h
      · cases h
    · cases h) ho ha hbase hfew hline hs hplain
def qCount (x : D) (ds : List D) : Option D := match x, ds with
  | .str z, [.str y] => match cps y with
    | [c] => some (.int (((cps z).countP (· == c) : Nat) : Int))
    | _ => none
  | _, _ => none
theorem se_count (ho : SB X o fo) (ha : SAB X [e] ga) (hline : (apos.endLine == cpos.line) = true := by rfl) (hbase : attributeBase o "count" X.env (eval o X.env) = eval o X.env := by rfl)
    (hfew : ((backTo cpos (starEach [e] X.env)).all (fun x => !x.1) && (backToKw cpos (keywordEach [] X.env)).all (fun x => x.1.isSome) && decide ([e].length + ([] : List Keyword).length + (if ([] : List Keyword).isEmpty then 0 else 1) < 30)) = true := by rfl)
    (hs : starEach [e] X.env = (false, eval e X.env) :: starEach [] X.env := by rfl) (hplain : (backTo cpos (starEach [] X.env)).any (·.1) = false := by rfl) : SE X (.Call (.Attribute o "count" apos) [e] [] cpos) (eMeth qCount fo ga) :=
  se_meth (T := "str") PySem.F.plainAttrs_str PySem.F.slot_str_count PySem.F.type_str_count mt_count (fun O H v x ds d r h => by
    unfold qCount at h
    split at h
    · rw [rb_str r]; rfl
    · cases h) (fun O H v xs x ds d Q hd r rl h q => by
    unfold qCount at h
    split at h
    · rename_i z y
      split at h
      · rename_i c e1
        cases h
        obtain ⟨w, rfl, rw'⟩ := rbl1 rl
        have ey : y = ⟨#[c]⟩ := by rw [← S_cps y, e1]; rfl
        refine ⟨z, y, rb_str r, by rw [rb_str rw'], ?_⟩
        rw [ey, count_sign]
        exact q _ H (Xt.refl H) (.int _)
      · cases h
    · cases h) ho ha hbase hfew hline hs hplain

/-! ### in -/
def flatD : D → Bool
  | .none => true
  | .bool _ => true
  | .int _ => true
  | .str _ => true
  | _ => false
def eqF : D → D → Bool
  | .none, .none => true
  | .bool a, .bool b => a == b
  | .bool a, .int b => (if a then 1 else 0) == b
  | .int a, .bool b => a == (if b then 1 else 0)
  | .int a, .int b => a == b
  | .str a, .str b => cps a == cps b
  | _, _ => false
def qIn (x y : D) : Option D := match y with
  | .str z => match x with
    | .str w => some (.bool (subIn (cps w) (cps z)))
    | _ => none
  | .list ds => if flatD x && ds.all flatD then some (.bool (ds.any fun d => eqF d x)) else none
  | .tuple ds => if flatD x && ds.all flatD then some (.bool (ds.any fun d => eqF d x)) else none
  | _ => none
theorem flat_of {K : PySem.W.Frag} {O : OS} {H : Hp} {v : V} {d : D} (r : Rep K O H v d) (h : flatD d = true) : flatV v = true := by cases r <;> first | rfl | cases h
theorem flatB_of {K : PySem.W.Frag} {O : OS} {H : Hp} {v : V} {d : D} (r : RepB K O H v d) (h : flatD d = true) : Rep K O H v d := by
  rcases r with r | ⟨p, _, r⟩
  · exact r
  · cases r <;> cases h
theorem eqF_of {K : PySem.W.Frag} {O O' : OS} {H : Hp} {v w : V} {d d' : D} (r : Rep K O H v d) (r' : Rep K O' H w d') (h : flatD d = true) (h' : flatD d' = true) : eqV v w = eqF d d' := by
  cases r <;> first | (cases h; done) | (cases r' <;> first | (cases h'; done) | rfl | exact str_beq _ _)
theorem flatL_of {K : PySem.W.Frag} {O : OS} {H : Hp} : ∀ {ds : List D} {vs : List V}, RepL K O H vs ds → ds.all flatD = true → vs.all flatV = true
  | [], _, .nil, _ => rfl
  | _ :: _, _, .cons r q, h => by
    rw [List.all_cons, Bool.and_eq_true] at h ⊢
    exact ⟨flat_of r h.1, flatL_of q h.2⟩
theorem inV_of {K : PySem.W.Frag} {O : OS} {H : Hp} {v : V} {d : D} (r : Rep K O H v d) (h : flatD d = true) : ∀ {ds : List D} {vs : List V}, RepL K O H vs ds → ds.all flatD = true → inV v vs = ds.any fun z => eqF z d
  | [], _, .nil, _ => rfl
  | _ :: _, _, .cons r' q, h' => by
    rw [List.all_cons, Bool.and_eq_true] at h'
    unfold inV
    rw [List.any_cons, List.any_cons, eqF_of r' r h'.1 h]
    have := inV_of r h q h'.2
    unfold inV at this
    rw [this]
theorem o2_in : Op2 X.K (fun x y H Q => (∃ i j, x = .str i ∧ y = .str j ∧ Q (.bl (!(Builtin.Str.occurrences j i 0 j.length 1).isEmpty)) H) ∨ rIn X.K false x y H Q) qIn := by
  intro O H x y dx dy d Q _ rx ry hg q
  unfold qIn at hg
  split at hg
  · split at hg
    · cases hg
      refine .inl ⟨_, _, rb_str rx, rb_str ry, ?_⟩
      rw [found_sub]
      exact q _ H (Xt.refl H) (.bl _)
    · cases hg
  · split at hg
    · rename_i c
      cases hg
      rw [Bool.and_eq_true] at c
      obtain ⟨p, xs, rfl, hp, rp⟩ := rb_list ry
      have r0 := flatB_of rx c.1
      refine .inr ⟨p, xs, rfl, .inl (.of hp), flat_of r0 c.1, flatL_of rp c.2, ?_⟩
      rw [if_neg Bool.false_ne_true, inV_of r0 c.1 rp c.2]
      exact q _ H (Xt.refl H) (.bl _)
    · cases hg
  · split at hg
    · rename_i c
      cases hg
      rw [Bool.and_eq_true] at c
      obtain ⟨p, xs, rfl, hp, rp⟩ := rb_tup ry
      have r0 := flatB_of rx c.1
      refine .inr ⟨p, xs, rfl, .inr hp, flat_of r0 c.1, flatL_of rp c.2, ?_⟩
      rw [if_neg Bool.false_ne_true, inV_of r0 c.1 rp c.2]
      exact q _ H (Xt.refl H) (.bl _)
    · cases hg
  · cases hg
theorem o2_notin : Op2 X.K (fun x y H Q => (∃ i j, x = .str i ∧ y = .str j ∧ Q (.bl (!(!(Builtin.Str.occurrences j i 0 j.length 1).isEmpty))) H) ∨ rIn X.K true x y H Q) (fun x y => qNot (qIn x y)) := by
  intro O H x y dx dy d Q _ rx ry hg q
  have hg : qNot (qIn dx dy) = some d := hg
  unfold qNot qIn at hg
  split at hg
  case h_2 => cases hg
  rename_i b e
  cases hg
  split at e
  · split at e
    · cases e
      refine .inl ⟨_, _, rb_str rx, rb_str ry, ?_⟩
      rw [found_sub]
      exact q _ H (Xt.refl H) (.bl _)
    · cases e
  · split at e
    · rename_i c
      cases e
      rw [Bool.and_eq_true] at c
      obtain ⟨p, xs, rfl, hp, rp⟩ := rb_list ry
      have r0 := flatB_of rx c.1
      refine .inr ⟨p, xs, rfl, .inl (.of hp), flat_of r0 c.1, flatL_of rp c.2, ?_⟩
      rw [if_pos rfl, inV_of r0 c.1 rp c.2]
      exact q _ H (Xt.refl H) (.bl _)
    · cases e
  · split at e
    · rename_i c
      cases e
      rw [Bool.and_eq_true] at c
      obtain ⟨p, xs, rfl, hp, rp⟩ := rb_tup ry
      have r0 := flatB_of rx c.1
      refine .inr ⟨p, xs, rfl, .inr hp, flat_of r0 c.1, flatL_of rp c.2, ?_⟩
      rw [if_pos rfl, inV_of r0 c.1 rp c.2]
      exact q _ H (Xt.refl H) (.bl _)
    · cases e
  · cases e
theorem sc_in (ha : SB X a fa) (hb : SB X b fb) : SC X .In a b (e2 qIn fa fb) := sc_of (op_in_str.or op_in_seq) o2_in ha hb
theorem sc_notin (ha : SB X a fa) (hb : SB X b fb) : SC X .NotIn a b (e2 (fun x y => qNot (qIn x y)) fa fb) := sc_of (op_notin_str.or op_notIn_seq) o2_notin ha hb
end
end Dv

/-! Dv15: dicts by comprehension, sorted texts, reversed. -/
namespace Dv
open PySem PySem.Spec PyProof.Rows L2

def keyOf : D → Option Key
  | .int i => some (.inl i)
  | .str x => some (.inr x)
  | _ => none
theorem keyOf_keyD {d : D} {k : Key} (h : keyOf d = some k) : keyD k = d := by
  unfold keyOf at h
  split at h
  · cases h; rfl
  · cases h; rfl
  · cases h
theorem keyOf_rep {K : PySem.W.Frag} {O : OS} {H : Hp} {v : V} {d : D} {k : Key} (r : Rep K O H v d) (h : keyOf d = some k) : v = kV k := by
  cases r <;> first | (cases h; rfl) | cases h
/-- two keys are one -/
def kEq : D → D → Bool
  | .int i, .int j => i == j
  | .str x, .str y => cps x == cps y
  | _, _ => false
theorem kEq_key (k j : Key) : kEq (keyD k) (keyD j) = decide (k = j) := by
  cases k with
  | inl i =>
    cases j with
    | inl j => show (i == j) = _; rw [key_ll]
    | inr y => rfl
  | inr x =>
    cases j with
    | inl j => rfl
    | inr y => show (cps x == cps y) = _; rw [key_rr, ← Bool.beq_eq_decide_eq, str_beq]; rfl
def putD (es : List (D × D)) (k v : D) : List (D × D) := if es.any (fun e => kEq e.1 k) then es.map (fun e => if kEq e.1 k then (e.1, v) else e) else es ++ [(k, v)]
def getD' (es : List (D × D)) (k : D) : Option D := (es.find? fun e => kEq e.1 k).map (·.2)
section
variable {K : PySem.W.Frag} {O : OS} {H : Hp}
theorem RepK.any (k : Key) : ∀ {es : List (D × D)} {kvs : List (Key × V)}, RepK K O H kvs es → (kvs.any fun kv => decide (kv.1 = k)) = es.any (fun e => kEq e.1 (keyD k))
  | [], _, .nil => rfl
  | (_, _) :: _, _, .cons r q => by
    rw [List.any_cons, List.any_cons, RepK.any k q, kEq_key]
theorem RepK.app {k : Key} {v : V} {d : D} (r : Rep K O H v d) : ∀ {es : List (D × D)} {kvs : List (Key × V)}, RepK K O H kvs es → RepK K O H (kvs ++ [(k, v)]) (es ++ [(keyD k, d)])
  | [], _, .nil => .cons r .nil
  | (_, _) :: _, _, .cons q t => .cons q (RepK.app r t)
theorem RepK.map {k : Key} {v : V} {d : D} (r : Rep K O H v d) : ∀ {es : List (D × D)} {kvs : List (Key × V)}, RepK K O H kvs es → RepK K O H (kvs.map fun kv => if kv.1 = k then (kv.1, v) else kv) (es.map fun e => if kEq e.1 (keyD k) then (e.1, d) else e)
  | [], _, .nil => .nil
  | (_, _) :: _, _, .cons (k := k') q t => by
    rw [List.map_cons, List.map_cons]
    by_cases e : k' = k
    · rw [if_pos e, if_pos (by show kEq (keyD k') (keyD k) = true; rw [kEq_key, decide_eq_true e])]
      exact .cons r (RepK.map r t)
    · rw [if_neg e, if_neg (by show ¬ kEq (keyD k') (keyD k) = true; rw [kEq_key, decide_eq_false e]; decide)]
      exact .cons q (RepK.map r t)
theorem RepK.put {k : Key} {v : V} {d : D} (r : Rep K O H v d) {es : List (D × D)} {kvs : List (Key × V)} (q : RepK K O H kvs es) : RepK K O H (putK kvs k v) (putD es (keyD k) d) := by
  unfold putK putD
  rw [q.any k]
  split
  · exact q.map r
  · exact q.app r
theorem putD_len (es : List (D × D)) (k v : D) : (putD es k v).length ≤ es.length + 1 := by
  unfold putD
  split
  · rw [List.length_map]; omega
  · rw [List.length_append]; exact Nat.le_refl _
theorem RepK.find (k : Key) : ∀ {es : List (D × D)} {kvs : List (Key × V)}, RepK K O H kvs es → ∀ d, getD' es (keyD k) = some d → ∃ v, valV kvs k = some v ∧ Rep K O H v d
  | [], _, .nil, _, h => by cases h
  | (_, _) :: es, _, .cons (k := k') (kvs := kvs) r q, d, h => by
    unfold getD' at h
    rw [List.find?_cons] at h
    by_cases e : k' = k
    · have hk : kEq (keyD k') (keyD k) = true := by rw [kEq_key, decide_eq_true e]
      simp only [hk] at h
      cases h
      exact ⟨_, valV_pos e, r⟩
    · have hk : kEq (keyD k') (keyD k) = false := by rw [kEq_key, decide_eq_false e]
      simp only [hk] at h
      obtain ⟨v, h1, h2⟩ := RepK.find k q d h
      exact ⟨v, by rw [valV_neg (p := (k', _)) e]; exact h1, h2⟩
theorem RepK.none (k : Key) : ∀ {es : List (D × D)} {kvs : List (Key × V)}, RepK K O H kvs es → getD' es (keyD k) = none → valV kvs k = Option.none
  | [], _, .nil, _ => rfl
  | (_, _) :: es, _, .cons (k := k') (kvs := kvs) r q, h => by
    unfold getD' at h
    rw [List.find?_cons] at h
    by_cases e : k' = k
    · have hk : kEq (keyD k') (keyD k) = true := by rw [kEq_key, decide_eq_true e]
      simp only [hk] at h
      cases h
    · have hk : kEq (keyD k') (keyD k) = false := by rw [kEq_key, decide_eq_false e]
      simp only [hk] at h
      rw [valV_neg (p := (k', _)) e]
      exact RepK.none k q h
end

def dcL (g : FG) (ft : FT) (fk fv : FE) (ρ : Rho) : List D → List (D × D) → Tp → Option (List (D × D) × Tp)
  | [], es, T => some (es, T)
  | d :: ds, es, T => match g d ρ with
    | none => none
    | some ρ1 => match ft ρ1 T with
      | none => none
      | some (false, T1) => dcL g ft fk fv ρ ds es T1
      | some (true, T1) => match fk ρ1 T1 with
        | none => none
        | some (k, T2) => match fv ρ1 T2 with
          | none => none
          | some (v, T3) => match keyOf k with
            | none => none
            | some _ => dcL g ft fk fv ρ ds (putD es k v) T3
def eDc (fi : FI) (g : FG) (ft : FT) (fk fv : FE) (vs : List Nat) : FE := fun ρ T => match fi ρ T with
  | none => none
  | some (ds, T1) => match dcL g ft fk fv (wipeR ρ vs) ds [] T1 with
    | none => none
    | some (es, T2) => if ds.length.ble line24 then some (.dict es, T2) else none
theorem tDc_of {K : PySem.W.Frag} {fi : FI} {g : FG} {ft : FT} {fk fv : FE} {ws vs : List Nat} (hw : ∀ j ∈ ws, j ∈ vs) {σ : L2.St} {H : Hp} {Q : VK} (h : rdN K (eDc fi g ft fk fv vs) σ H Q) : tDc (rdI K fi) (rdG K ws g) (rdT K ft) (rdE K fk) (rdE K fv) vs σ H Q := by
  obtain ⟨G, B, O, τ, ρ, T, d, T', E, hf, q⟩ := h
  unfold eDc at hf
  split at hf
  · cases hf
  rename_i ds T1 h1
  split at hf
  · cases hf
  rename_i es T2 h2
  split at hf
  case isFalse => cases hf
  rename_i hsz
  cases hf
  have hsz := Nat.le_of_ble_eq_true hsz
  refine ⟨G, B, O, τ, ρ, T, ds, T1, E, h1, fun J H1 x1 t1 w1 p hp => ?_⟩
  have E1 := E.step x1 t1
  have np : ∀ a, O a → a ≠ p := fun a z e => E1.dom a z (by rw [e]; exact hp)
  have ns : ∀ (i : Nat) (d : D), (wipeR ρ vs)[i]? = some (.ow d) → (wipe σ vs)[i]? ≠ some (some (.ref p)) := fun i d e z => by
    obtain ⟨a, e2, oa, _⟩ := (E1.wipe vs).ow i d e
    rw [z] at e2; cases e2
    exact np p oa rfl
  have gp : G p = none := by
    cases e : G p with
    | none => rfl
    | some u =>
      have := E1.gk p u e (.inl fun z => np p (E1.tO p z) rfl)
      rw [hp] at this; cases this
  have nt : τ ≠ some p := fun z => np p (E1.tO p z) rfl
  refine ⟨fun i m H' => i + m = ds.length ∧ ∃ T3 kvs es1, Sta K G B (addO O p) τ (wipe σ vs) H' (wipeR ρ vs) T3 ∧ Xt (tS τ) H1 H' ∧ H' p = some (.dK kvs) ∧ RepK K (addO O p) H' kvs es1 ∧ kvs.length ≤ i ∧
      dcL g ft fk fv (wipeR ρ vs) (ds.drop i) es1 T3 = some (es, T'), ⟨ds.length, by omega, T1, [], [], (E1.wipe vs).fill hp, Xt.new hp, upd_same, .nil, Nat.le_refl _, by rw [List.drop_zero]; exact h2⟩, ?_⟩
  rintro i m H' ⟨im, T3, kvs, es1, E3, x3, hacc, racc, lacc, hl⟩
  have a3 : Aft O (addO O p) H1 H' := ⟨x3.mono E1.tO, addO_new hp⟩
  obtain ⟨wg, wst⟩ := w1 i (addO O p) H' a3 E3.dom
  by_cases hi : i < ds.length
  · have e : ds[i]? = some ds[i] := List.getElem?_eq_getElem hi
    obtain ⟨go, yl⟩ := wg _ e
    rw [List.drop_eq_getElem_cons hi] at hl
    generalize ds[i] = d at *
    have hl : (match g d (wipeR ρ vs) with
      | none => none
      | some ρ1 => match ft ρ1 T3 with
        | none => none
        | some (false, T1) => dcL g ft fk fv (wipeR ρ vs) (ds.drop (i + 1)) es1 T1
        | some (true, T1) => match fk ρ1 T1 with
          | none => none
          | some (k, T2) => match fv ρ1 T2 with
            | none => none
            | some (v, T3) => match keyOf k with
              | none => none
              | some _ => dcL g ft fk fv (wipeR ρ vs) (ds.drop (i + 1)) (putD es1 k v) T3) = some (es, T') := hl
    refine .inr ⟨go, fun H4 => ∃ T3 kvs es1', Sta K G B (addO O p) τ (wipe σ vs) H4 (wipeR ρ vs) T3 ∧ Xt (tS τ) H1 H4 ∧ H4 p = some (.dK kvs) ∧ RepK K (addO O p) H4 kvs es1' ∧ kvs.length ≤ i + 1 ∧
      dcL g ft fk fv (wipeR ρ vs) (ds.drop (i + 1)) es1' T3 = some (es, T'), fun H4 h4 => ⟨m - 1, by omega, by omega, h4⟩, fun x H2 hy => ?_⟩
    obtain ⟨gr, rx⟩ := yl x H2 hy
    have grt : Xt (tS τ) H' H2 := gr.mono fun _ z => z.elim
    have tOp : ∀ a, tS τ a → addO O p a := fun a z => .inl (E1.tO a z)
    have keep : ∀ {H5 H6 : Hp} {u}, Xt (tS τ) H5 H6 → H5 p = some u → H6 p = some u := fun x e => x p _ e (.inl nt)
    split at hl
    · cases hl
    rename_i ρ1 hg
    refine ⟨G, B, addO O p, τ, _, T3, d, ρ1, E3.grow gr, rx, hg, fun σ2 o2 E4 => ⟨wipe_off o2 hw, ?_⟩⟩
    split at hl
    · cases hl
    · rename_i T4 ht
      refine ⟨G, B, addO O p, τ, ρ1, T3, false, T4, E4, ht, fun H5 x5 t5 => ?_⟩
      have x35 := grt.tr x5
      exact ⟨T4, kvs, es1, E3.step x35 t5, x3.tr x35, keep x35 hacc, racc.go x35 (fun a z _ => tOp a z) (fun _ z => .inl z), by omega, hl⟩
    · rename_i T4 ht
      refine ⟨G, B, addO O p, τ, ρ1, T3, true, T4, E4, ht, fun H5 x5 t5 => ?_⟩
      have x35 := grt.tr x5
      split at hl
      · cases hl
      rename_i k T5 hk
      split at hl
      · cases hl
      rename_i v T6 hv
      split at hl
      · cases hl
      rename_i kk hkk
      have E5 := E4.step x5 t5
      refine ⟨G, B, addO O p, τ, ρ1, T4, k, T5, E5, hk, fun yk H6 x6 t6 rk => ⟨G, B, addO O p, τ, ρ1, T5, v, T6, E5.step x6 t6, hv, fun yv H7 x7 t7 rv => ?_⟩⟩
      have x37 := (x35.tr x6).tr x7
      have hacc7 := keep x37 hacc
      have E7 := E3.step x37 t7
      have ek := keyOf_keyD hkk
      subst ek
      refine ⟨kvs, kk, keyOf_rep rk hkk, hacc7, by rw [line24_eq]; omega, T6, _, putD es1 (keyD kk) v, E7.turnAt hacc7 id (.inr rfl) nt gp ns, (x3.tr x37).mut hp, upd_same, ?_, ?_, hl⟩
      · have xw : Xt (fun b => b = p) H7 (upd H7 p (.dK (putK kvs kk yv))) := Xt.wr rfl hacc7 id
        have hin : ∀ a, a = p → H7 a ≠ none → addO O p a := fun a z _ => .inr z
        exact RepK.put (rv.go xw hin fun _ z => .inl z) ((racc.go x37 (fun a z _ => tOp a z) (fun _ z => .inl z)).go xw hin fun _ z => .inl z)
      · have := length_putK kvs kk yv
        omega
  · have e : i = ds.length := by omega
    subst e
    rw [List.drop_length] at hl
    cases hl
    have hp0 : H p = none := by
      cases e : H p with
      | none => rfl
      | some u =>
        have := x1 p u e (.inl nt)
        rw [hp] at this; cases this
    exact .inl ⟨wst (Nat.le_refl _), q p H' hp0 (x1.tr x3) E3.tok (.dK hacc racc)⟩
section
variable {X : Cx}
theorem sn_dc {kx vx tg iter : Expr} {ifs : List Expr} {scope : Scope} {own : List (Str × Nat)} {pos : Pos} {fi : FI} {g : FG} {ft : FT} {fk fv : FE} {ws : List Nat} (hc : X.calm = true) (hN : X.N.Nodup) (hi : SI X tg iter fi) (ok : BlkOk X.N X.env.scope scope own)
    (hg : ∀ (s : Shared) (H : Hp) (C : Addr) (cl : List (Str × Addr)) (fp : List Addr), SG (X.blk s H scope (compEnvC scope cl C X.env) fp) tg ws g) (ht : ∀ (s : Shared) (H : Hp) (C : Addr) (cl : List (Str × Addr)) (fp : List Addr), STs (X.blk s H scope (compEnvC scope cl C X.env) fp) ifs ft)
    (hk : ∀ (s : Shared) (H : Hp) (C : Addr) (cl : List (Str × Addr)) (fp : List Addr), SE (X.blk s H scope (compEnvC scope cl C X.env) fp) kx fk) (he : ∀ (s : Shared) (H : Hp) (C : Addr) (cl : List (Str × Addr)) (fp : List Addr), SE (X.blk s H scope (compEnvC scope cl C X.env) fp) vx fv)
    (hw : ∀ j ∈ ws, j ∈ own.map (·.2) := by decide) (hs : ∀ x, foldedSetIterable iter X.env x = pure x := by intro _; rfl) : SN X (.DictComp kx vx [⟨tg, iter, ifs, 0⟩] scope pos) (eDc fi g ft fk fv (own.map (·.2))) :=
  ⟨PE.imp (pe_dc hc hN hi.pi ok (fun s H C cl fp => (hg s H C cl fp).pg) (fun s H C cl fp => (ht s H C cl fp).pt) (fun s H C cl fp => (hk s H C cl fp).pe) (fun s H C cl fp => (he s H C cl fp).pe) hs) fun σ H Q h => tDc_of hw h⟩
end
end Dv

/-! Dv16: parallel stores, longer chains, turned round, global constants. -/
namespace Dv
open PySem PySem.Spec PyProof.Rows L2
section
variable {X : Cx} {tg a b c e o : Expr} {es : List Expr} {fa fb fc fo : FE} {ga : FA} {p pos cpos apos : Pos}

/-! ### a, b = x, y -/
theorem ss_par {i j : Nat} {x y : Str} {px py pt : Pos} {kt k2 : Nat} {pt2 : Pos} (hc : X.calm = true) (hN : X.N.Nodup) (ha : SE X a fa) (hb : SE X b fb) (hi : X.N[i]? = some x := by rfl) (hj : X.N[j]? = some y := by rfl) (hij : i ≠ j := by decide)
    (hx : X.env.scope.names.lookup x = some .local := by rfl) (hy : X.env.scope.names.lookup y = some .local := by rfl)
    (hw : swappedStores [.Tuple [.Name x px, .Name y py] kt pt] (.Tuple [a, b] k2 pt2) X.env = pure (some [x, y]) := by rfl)
    (hs : swapsWithSole [.Tuple [.Name x px, .Name y py] kt pt] (.Tuple [a, b] k2 pt2) pos.line X.env = pure false := by rfl)
    (h1 : starEach [a, b] X.env = (false, eval a X.env) :: starEach [b] X.env := by rfl) (h2 : starEach [b] X.env = (false, eval b X.env) :: starEach [] X.env := by rfl) :
    SS X (.Assign [.Tuple [.Name x px, .Name y py] kt pt] (.Tuple [a, b] k2 pt2) pos) (sPar i j fa fb) := ⟨PS.imp (ps_par hc hN hi hj hij hx hy (sa_cons ha (sa_cons hb sa_nil h2) h1).pe hw hs) fun D σ H ⟨G, B, O, τ, ρ, T, fl, T', E, hf, q⟩ => by
  unfold sPar at hf
  split at hf
  · cases hf
  rename_i dx T1 e1
  split at hf
  · cases hf
  rename_i dy T2 e2
  cases hf
  refine ⟨G, B, O, τ, ρ, T, [dx, dy], T', E, by simp only [aCons, aNil, e1, e2], fun vs H1 x t r => ?_⟩
  cases r with
  | cons r rr =>
    cases rr with
    | cons r' rr =>
      cases rr
      exact ⟨_, _, rfl, q _ H1 O (E.aft x) (((E.step x t).set r).set r')⟩⟩

/-! ### chains of any length -/
def rdL (K : PySem.W.Frag) (L : D → FE) : V → TE := fun v σ H Q => ∃ G B O τ ρ T dx d T', Sta K G B O τ σ H ρ T ∧ RepBT K O τ H v dx ∧ L dx ρ T = some (d, T') ∧
  ∀ v H', Xt (tS τ) H H' → TpOk O τ H' T' → Rep K O H' v d → Q v H'
structure SL (X : Cx) (ops : List CmpOp) (rs : List Expr) (L : D → FE) : Prop where
  run : ∀ (pos : Pos) (pins : List (Addr × Obj)) (s : Shared) (σ : L2.St) (H : Hp) (x : V) (v : Value) (Q : VK), Inv X pins σ H s → RelV x v → rdL X.K L x σ H Q →
    wpAny (model X.prog X.w) X.A (compareChain pos v ops (evalEach rs X.env)) (EP X pins σ Q) X.xe s
  tst : ∀ (pos : Pos) (pins : List (Addr × Obj)) (s : Shared) (σ : L2.St) (H : Hp) (x : V) (v : Value) (Q : Bool → Hp → Prop), Inv X pins σ H s → RelV x v → rdL X.K L x σ H (fun z H' => ∃ k, z = .bl k ∧ Q k H') →
    wpAny (model X.prog X.w) X.A (testChain pos v ops (evalEach rs X.env)) (TP X pins σ Q) X.xe s
def lLast (g : D → D → Option D) (fb : FE) : D → FE := fun x ρ T => match fb ρ T with
  | none => none
  | some (y, T1) => match g x y with
    | some (.bool k) => some (.bool k, T1)
    | _ => none
def lCons (g : D → D → Option D) (fb : FE) (L : D → FE) : D → FE := fun x ρ T => match fb ρ T with
  | none => none
  | some (y, T1) => match g x y with
    | some (.bool true) => L y ρ T1
    | some (.bool false) => some (.bool false, T1)
    | _ => none
theorem lLast_run {op : CmpOp} {r : R2} {g : D → D → Option D} (ho : OpR X (compareOp op) r) (hg : Op2 X.K r g) (hb : SB X b fb) {pins : List (Addr × Obj)} {s : Shared} {σ : L2.St} {H : Hp} {x : V} {v : Value} {Q : VK} (I : Inv X pins σ H s) (rv : RelV x v) (h : rdL X.K (lLast g fb) x σ H Q) :
    wpAny (model X.prog X.w) X.A (eval b X.env) (fun u s1 => wpAny (model X.prog X.w) X.A (compareOp op v u) (fun w s2 => ∃ k H', w = .bool k ∧ Inv X pins σ H' s2 ∧ Q (.bl k) H') X.xe s1) X.xe s := by
  obtain ⟨G, B, O, τ, ρ, T, dx, d, T', E, rx, hf, q⟩ := h
  unfold lLast at hf
  split at hf
  · cases hf
  rename_i y T1 h1
  split at hf
  case h_2 => cases hf
  rename_i k h2
  cases hf
  refine thn (hb.pe.run pins s σ H (fun u H' => Xt (tS τ) H H' ∧ TpOk O τ H' T' ∧ RepBT X.K O τ H' u y) I ⟨G, B, O, τ, ρ, T, y, T', E, h1, fun u H' x t r => ⟨x, t, r⟩⟩) fun u s1 ⟨y', H1, I1, ru, x1, t1, r1⟩ => ?_
  refine thn (ho pins s1 σ H1 x y' v u (fun w H2 => ∃ k', w = .bl k' ∧ k' = k ∧ Q (.bl k) H2) I1 rv ru (hg O H1 x y' dx y (.bool k) _ (E.step x1 t1).dom (rx.step E x1).b r1.b h2 fun w H2 x2 r2 => ?_)) fun w s2 ⟨z, H2, I2, rz, k', e1, e2, q2⟩ => ?_
  · cases r2
    exact ⟨k, rfl, rfl, q _ H2 (x1.tr (x2.mono fun _ z => z.elim)) (t1.gr x2) (.bl k)⟩
  · subst e1 e2
    cases rz
    exact ⟨k', H2, rfl, I2, q2⟩
theorem sl_last {op : CmpOp} {r : R2} {g : D → D → Option D} (ho : OpR X (compareOp op) r) (hg : Op2 X.K r g) (hb : SB X b fb) : SL X [op] [b] (lLast g fb) where
  run := fun pos pins s σ H x v Q I rv h => chain_last (thn (lLast_run ho hg hb I rv h) fun u s1 h1 => thn h1 fun w s2 ⟨k, H', e, I', q⟩ => ⟨.bl k, H', I', e, q⟩)
  tst := fun pos pins s σ H x v Q I rv h => test_last (thn (lLast_run ho hg hb I rv h) fun u s1 h1 => thn h1 fun w s2 ⟨k, H', e, I', k', e', q⟩ => by
    subst e
    cases e'
    exact wpAny_truthy_bool ⟨H', I', q⟩)
theorem lCons_run {op : CmpOp} {r : R2} {g : D → D → Option D} {L : D → FE} (ho : OpR X (compareOp op) r) (hg : Op2 X.K r g) (hb : SB X b fb) {pins : List (Addr × Obj)} {s : Shared} {σ : L2.St} {H : Hp} {x : V} {v : Value} {Q : VK} (I : Inv X pins σ H s) (rv : RelV x v) (h : rdL X.K (lCons g fb L) x σ H Q) :
    wpAny (model X.prog X.w) X.A (eval b X.env) (fun u s1 => wpAny (model X.prog X.w) X.A (compareOp op v u) (fun w s2 => ∃ k H', w = .bool k ∧ Inv X pins σ H' s2 ∧ (k = false → Q (.bl false) H') ∧ (k = true → ∃ y, RelV y u ∧ rdL X.K L y σ H' Q)) X.xe s1) X.xe s := by
  obtain ⟨G, B, O, τ, ρ, T, dx, d, T', E, rx, hf, q⟩ := h
  unfold lCons at hf
  split at hf
  · cases hf
  rename_i y T1 h1
  refine thn (hb.pe.run pins s σ H (fun u H' => Xt (tS τ) H H' ∧ TpOk O τ H' T1 ∧ RepBT X.K O τ H' u y) I ⟨G, B, O, τ, ρ, T, y, T1, E, h1, fun u H' x t r => ⟨x, t, r⟩⟩) fun u s1 ⟨y', H1, I1, ru, x1, t1, r1⟩ => ?_
  have E1 := E.step x1 t1
  split at hf
  · rename_i h2
    refine thn (ho pins s1 σ H1 x y' v u (fun w H2 => w = .bl true ∧ Xt (tS τ) H1 H2 ∧ TpOk O τ H2 T1) I1 rv ru (hg O H1 x y' dx y (.bool true) _ E1.dom (rx.step E x1).b r1.b h2 fun w H2 x2 r2 => ?_)) fun w s2 ⟨z, H2, I2, rz, e1, x2, t2⟩ => ?_
    · cases r2
      exact ⟨rfl, x2.mono fun _ z => z.elim, t1.gr x2⟩
    · subst e1
      cases rz
      exact ⟨true, H2, rfl, I2, fun e => (nomatch e), fun _ => ⟨y', ru, G, B, O, τ, ρ, T1, y, d, T', E1.step x2 t2, r1.step E1 x2, hf, fun w H3 x3 t3 r3 => q w H3 ((x1.tr x2).tr x3) t3 r3⟩⟩
  · rename_i h2
    cases hf
    refine thn (ho pins s1 σ H1 x y' v u (fun w H2 => w = .bl false ∧ Q (.bl false) H2) I1 rv ru (hg O H1 x y' dx y (.bool false) _ E1.dom (rx.step E x1).b r1.b h2 fun w H2 x2 r2 => ?_)) fun w s2 ⟨z, H2, I2, rz, e1, q2⟩ => ?_
    · cases r2
      exact ⟨rfl, q _ H2 (x1.tr (x2.mono fun _ z => z.elim)) (t1.gr x2) (.bl false)⟩
    · subst e1
      cases rz
      exact ⟨false, H2, rfl, I2, fun _ => q2, fun e => (nomatch e)⟩
  · cases hf
theorem sl_cons {op op' : CmpOp} {ops : List CmpOp} {rs : List Expr} {r : R2} {g : D → D → Option D} {L : D → FE} (ho : OpR X (compareOp op) r) (hg : Op2 X.K r g) (hb : SB X b fb) (hr : SL X (op' :: ops) (c :: rs) L) : SL X (op :: op' :: ops) (b :: c :: rs) (lCons g fb L) where
  run := fun pos pins s σ H x v Q I rv h => chain_link (thn (lCons_run ho hg hb I rv h) fun u s1 h1 => thn h1 fun w s2 ⟨k, H', e, I', q1, q2⟩ => by
    subst e
    refine wpAny_truthy_bool ?_
    cases k with
    | false => exact ite_ff ⟨.bl false, H', I', rfl, q1 rfl⟩
    | true =>
      obtain ⟨y, ry, q⟩ := q2 rfl
      exact ite_tt (hr.run pos pins s2 σ H' y u Q I' ry q))
  tst := fun pos pins s σ H x v Q I rv h => test_link (thn (lCons_run ho hg hb I rv h) fun u s1 h1 => thn h1 fun w s2 ⟨k, H', e, I', q1, q2⟩ => by
    subst e
    refine wpAny_truthy_bool ?_
    cases k with
    | false =>
      obtain ⟨k', e', q⟩ := q1 rfl
      cases e'
      exact ite_ff ⟨H', I', q⟩
    | true =>
      obtain ⟨y, ry, q⟩ := q2 rfl
      exact ite_tt (hr.tst pos pins s2 σ H' y u Q I' ry q))
def eCh (fa : FE) (L : D → FE) : FE := fun ρ T => match fa ρ T with
  | none => none
  | some (x, T1) => L x ρ T1
theorem rdL_of {K : PySem.W.Frag} {L : D → FE} {σ : L2.St} {H : Hp} {Q : VK} (h : rdE K (eCh fa L) σ H Q) : rdB K fa σ H fun v H' => rdL K L v σ H' Q := by
  obtain ⟨G, B, O, τ, ρ, T, d, T', E, hf, q⟩ := h
  unfold eCh at hf
  split at hf
  · cases hf
  rename_i x T1 h1
  exact ⟨G, B, O, τ, ρ, T, x, T1, E, h1, fun v H1 x1 t1 r1 => ⟨G, B, O, τ, ρ, T1, x, d, T', E.step x1 t1, r1, hf, fun w H2 x2 t2 r2 => q w H2 (x1.tr x2) t2 r2⟩⟩
theorem se_ch {op op' : CmpOp} {ops : List CmpOp} {rs : List Expr} {L : D → FE} (ha : SB X a fa) (hr : SL X (op :: op' :: ops) (b :: c :: rs) L) (hm : lastMarks (op :: op' :: ops) (b :: c :: rs) = false := by with_unfolding_all rfl) :
    SE X (.Compare a (op :: op' :: ops) (b :: c :: rs) pos) (eCh fa L) := ⟨⟨fun pins s σ H Q I h => Compare_chain (thn (ha.pe.run pins s σ H _ I (rdL_of h)) fun v s1 ⟨x, H1, I1, r1, q1⟩ => hr.run pos pins s1 σ H1 x v Q I1 r1 q1) hm⟩⟩
theorem st_ch {op op' : CmpOp} {ops : List CmpOp} {rs : List Expr} {L : D → FE} (ha : SB X a fa) (hr : SL X (op :: op' :: ops) (b :: c :: rs) L) (hm : lastMarks (op :: op' :: ops) (b :: c :: rs) = false := by with_unfolding_all rfl) :
    ST X (.Compare a (op :: op' :: ops) (b :: c :: rs) pos) (tBool (eCh fa L)) := ⟨⟨fun pins s σ H Q I h => isTrue_chain (thn (ha.pe.run pins s σ H _ I (rdL_of (rdT_bool h))) fun v s1 ⟨x, H1, I1, r1, q1⟩ => hr.tst pos pins s1 σ H1 x v Q I1 r1 q1) hm⟩⟩

/-! ### global constants -/
theorem se_gl {x : Str} {v : V} {u : Value} {d : D} (hm : X.mg x = some u) (r : RelV v u) (rd : ∀ K O H, Rep K O H v d) (hg : Gl X x := by rfl) (hd : (x == ("__debug__" : Str)) = false := by decide) : SE X (.Name x pos) (eC d) := se_c' (pe_glob hg hm r hd) rd

/-! ### x[::-1] -/
def tRevA (K : PySem.W.Frag) (te : TE) : TE := fun σ H Q => te σ H fun x H1 => (∃ z, x = .str z ∧ z.length ≤ sizeLine ∧ Q (.str ⟨z.cps.toList.reverse.toArray⟩) H1) ∨ (∃ a xs, x = .ref a ∧ SqT K H1 a xs ∧ ∀ p, H1 p = none → Q (.ref p) (upd H1 p (.tup xs.reverse)))
end
end Dv

/-! Dv17: x[::-1], reversed, enumerate, sorted texts of a dict, max of a tuple. -/
namespace HT
open PySem PySem.Spec PyProof.Rows L2
section
variable {prog : Program} {w : World} {A : Around} {E : Value → Shared → Prop} {s : Shared}
theorem sliceApplied_rev {sl : Addr} {u : Tok} {n : Nat} {Q : Int × Int × Nat → Shared → Prop} (hs : s.heap.IsSliceOf sl .none .none (.int (-1) u))
    (h : Q ((n : Int) - 1, -1, n) s) : wpAny (model prog w) A (Builtin.Slice.sliceApplied (.ref sl) (pure (n : Int))) Q E s := by
  obtain ⟨os, hos, hcs, hds⟩ := id hs
  unfold Builtin.Slice.sliceApplied Builtin.Slice.sliceFields
  refine wpAny_bind (wpAny_bind (wpAny_field hos hds (x := .none) rfl (wpAny_bind (wpAny_field hos hds (x := .none) rfl (wpAny_bind (wpAny_field hos hds (x := .int (-1) u) rfl (wpAny_pure ?_)))))))
  refine wpAny_bind (slicePart_int ?_)
  show wpAny _ _ (if ((-1 : Int) == 0) = true then _ else _) _ _ s
  rw [if_neg (by decide)]
  refine wpAny_bind (slicePart_none (wpAny_bind (slicePart_none (wpAny_bind (wpAny_pure ?_)))))
  show wpAny _ _ (match Builtin.Slice.sliceAdjust none none (-1) (n : Int) with | (lo, hi) => pure (lo, (-1 : Int), Builtin.Slice.slicePlaces lo hi (-1))) _ _ s
  have e : Builtin.Slice.slicePlaces ((n : Int) - 1) (-1) (-1) = n := by
    unfold Builtin.Slice.slicePlaces
    have h1 : ¬ ((-1 : Int) > 0) := by decide
    simp only [h1, if_false]
    rw [show (- -1 : Int) = 1 by decide, Int.ediv_one]
    split <;> omega
  show wpAny _ _ (pure ((n : Int) - 1, (-1 : Int), Builtin.Slice.slicePlaces ((n : Int) - 1) (-1) (-1))) _ _ s
  rw [e]
  exact wpAny_pure h
theorem fm_congr {α β : Type} {f g : α → Option β} : ∀ {l : List α}, (∀ x, x ∈ l → f x = g x) → l.filterMap f = l.filterMap g
  | [], _ => rfl
  | x :: l, h => by
    rw [List.filterMap_cons, List.filterMap_cons, h x (List.mem_cons_self ..), fm_congr fun y hy => h y (List.mem_cons_of_mem _ hy)]
theorem pick_rev (xs : Array Value) : ((List.range xs.size).filterMap fun (k : Nat) => xs[(((xs.size : Int) - 1) + (k : Int) * (-1)).toNat]?).toArray = xs.toList.reverse.toArray := by
  congr 1
  have e : (List.range xs.size).filterMap (fun (k : Nat) => xs[(((xs.size : Int) - 1) + (k : Int) * (-1)).toNat]?) = ((List.range xs.size).map fun k => xs.size - 1 - k).filterMap (xs[·]?) := by
    rw [List.filterMap_map]
    refine fm_congr fun k hk => ?_
    have := List.mem_range.mp hk
    show xs[(((xs.size : Int) - 1) + (k : Int) * (-1)).toNat]? = xs[xs.size - 1 - k]?
    congr 1
    omega
  rw [e, PySem.W.krv_range, List.filterMap_reverse, PySem.W.krv_all]
theorem getItem_tuple_rev {t sl : Addr} {items : Array Value} {u : Tok} {Q : Value → Shared → Prop} (ht : IsTup s.heap t items) (hs : s.heap.IsSliceOf sl .none .none (.int (-1) u))
    (h : Q (.ref s.heap.objs.size) { s with heap := s.heap.push { cls := .type "tuple", data := .seq items.toList.reverse.toArray } })
    (hsz : items.size ≤ sizeLine) : wpAny (model prog w) A (getItem (.ref t) (.ref sl)) Q E s := by
  have htake : sizeOk (.seq items.toList.reverse.toArray) := by
    show items.toList.reverse.toArray.size ≤ sizeLine
    rw [List.size_toArray, List.length_reverse, Array.length_toList]
    exact hsz
  obtain ⟨os, hos, hcs, hds⟩ := id hs
  have hTs : s.TypeIs (.ref sl) "slice" := ⟨os, hos, hcs⟩
  unfold getItem
  try with_reducible refine wpAny_holding ?_
  first | refine wpAny_bind (wpAny_pure ?_) | skip
  refine wpAny_bind (wpAny_sequenceKey ht.typeIs (by decide) ?_)
  refine wpAny_bind (wpAny_callSpecial?_slot (name := Str.ofString "__getitem__") ht.typeIs PyProof.Rows.slot_tuple_getitem
    (wpAny_call_entry PyProof.Rows.slot_tuple_getitem ht.typeIs entry_tuple_getitem ?_ (args_tuple_getitem _ _)))
  show wpAny _ _ (Builtin.Tuple.tupleItemsOf (.ref t) >>= _) _ _ s
  refine wpAny_bind (tupleItemsOf_ ht ?_)
  refine wpAny_bind (wpAny_typeOf hTs ?_)
  rw [if_pos (by decide)]
  refine wpAny_bind (sliceApplied_rev hs ?_)
  have hno : ¬ ((((items.size : Int) - 1) == 0 && (-1 : Int) == 1 && items.size == items.size) = true) := by
    intro q
    rw [Bool.and_eq_true, Bool.and_eq_true] at q
    exact absurd (eq_of_beq q.1.2) (by decide)
  show wpAny _ _ (if (((items.size : Int) - 1) == 0 && (-1 : Int) == 1 && items.size == items.size) = true then _ else _) _ _ s
  rw [if_neg hno, pick_rev]
  first
    | exact wpAny_bind (m := Builtin.Tuple.tupleExact _) (wpAny_newObj_type (wpAny_pure ⟨_, rfl, wpAny_pure h⟩) htake)
    | exact wpAny_bind (m := Builtin.Tuple.tupleExact _) (wpAny_newObj_type (wpAny_bind (wpAny_pure (wpAny_pure ⟨_, rfl, wpAny_pure h⟩))) htake)
    | exact wpAny_bind (wpAny_bind (m := Builtin.Tuple.tupleExact _) (wpAny_newObj_type (wpAny_pure (wpAny_pure ⟨_, rfl, wpAny_pure h⟩)) htake))
    | exact wpAny_bind (wpAny_bind (m := Builtin.Tuple.tupleExact _) (wpAny_newObj_type (wpAny_pure ⟨_, rfl, wpAny_pure h⟩) htake))
end
end HT
namespace Dv
open PySem PySem.Spec PyProof.Rows L2
theorem krv_allN (xs : Array Nat) : (List.range xs.size).filterMap (xs[·]?) = xs.toList := by
  apply List.ext_getElem?
  intro i
  have h : ∀ (n : Nat), n ≤ xs.size → (List.range n).filterMap (xs[·]?) = xs.toList.take n := by
    intro n
    induction n with
    | zero => intro _; rfl
    | succ n ih =>
      intro hn
      rw [List.range_succ, List.filterMap_append, ih (by omega)]
      have e : xs[n]? = some xs[n] := Array.getElem?_eq_getElem (by omega)
      rw [List.filterMap_cons, e]
      show _ ++ [xs[n]] = _
      rw [List.take_succ_eq_append_getElem (by rw [Array.length_toList]; omega)]
      rfl
  rw [h xs.size (Nat.le_refl _), List.take_of_length_le (by rw [Array.length_toList]; exact Nat.le_refl _)]
theorem rev_picked (z : Str) (k : Tok) : ((slicePicked z none none (some (-1, k))).filterMap (z.cps[·]?)).toArray = z.cps.toList.reverse.toArray := by
  unfold slicePicked Builtin.Str.strSliceIndices
  show ((sliceRange ((z.length : Int) - 1) (-1) (-1)).filterMap (z.cps[·]?)).toArray = _
  have e : sliceRange ((z.length : Int) - 1) (-1) (-1) = (List.range z.length).map fun k => z.length - 1 - k := by
    first
    | exact PySem.W.krv_sliceRange z.length
    | skip
  rw [e, PySem.W.krv_range, List.filterMap_reverse]
  have := krv_allN z.cps
  have hl : z.length = z.cps.size := rfl
  rw [hl, this]
section
variable {X : Cx} {tg a b c e o : Expr} {es : List Expr} {fa fb fc fo : FE} {ga : FA} {p pos cpos apos : Pos}
theorem pe_revA {te : TE} {k : Nat} {p1 p2 p3 : Pos} (he : PE X e te) : PE X (.Subscript e (.Slice none none (some (.UnaryOp .USub (.Constant (.int 1) k p1) p2)) p3) pos) (tRevA X.K te) := by
  refine ⟨fun pins s σ H Q I h => ?_⟩
  refine Subscript_ (thn (he.run pins s σ H _ I h) fun v s1 ⟨x, H1, I1, r1, q1⟩ => ?_)
  have hst : PO X (some (.UnaryOp .USub (.Constant (.int 1) k p1) p2)) (tPart (tUn (rU fun i => .int (-i)) (tC (.int 1)))) := po_some (pe_un un_neg pe_int)
  refine wpAny_Slice (thn (po_none.run pins s1 σ H1 (fun o H2 => o = none ∧ H2 = H1) I1 ⟨rfl, rfl⟩) fun vl s2 ⟨l, H2, I2, pl, el, e2⟩ => ?_)
  subst el e2
  refine thn (po_none.run pins s2 σ H2 (fun o H3 => o = none ∧ H3 = H2) I2 ⟨rfl, rfl⟩) fun vu s3 ⟨u, H3, I3, pu, eu, e3⟩ => ?_
  subst eu e3
  refine thn (hst.run pins s3 σ H3 (fun o H4 => o = some (-1) ∧ H4 = H3) I3 ⟨1, rfl, -1, rfl, rfl, rfl⟩) fun vs s4 ⟨o, H4, I4, ps, eo, e4⟩ => ?_
  subst eo e4
  have I5 : Inv X pins σ H4 { s4 with heap := s4.heap.push { cls := .type "slice", data := .fields #[vl, vu, vs] } } := I4.kept (t' := s4.toks) fun b ob q => Heap.get?_push_of_some _ q
  cases pl
  cases pu
  cases ps with
  | int i uk =>
  rcases q1 with ⟨z, ex, hz, q⟩ | ⟨a, xs, ex, hx, q⟩
  · subst ex
    obtain ⟨t, rfl⟩ := r1
    refine tail_any (ops := [.ref s4.heap.objs.size, .str z t]) (typeIs_str _ _ _) (PySem.F.slot_str_getitem.lookup) ?_ (by with_unfolding_all rfl)
    refine wpAny_getItem_str_slice (l := none) (u := none) (st := some (-1, uk)) ⟨_, Heap.get?_push_size _ rfl, rfl, rfl⟩ (by simp) ?_
    show Made.post (if ((-1 : Int) == 1 && (slicePicked z none none (some (-1, uk))).length == z.length) = true then Made.val (.str z t)
      else Made.str ⟨((slicePicked z none none (some (-1, uk))).filterMap (z.cps[·]?)).toArray⟩) (EP X pins σ Q) _
    rw [if_neg (by rw [Bool.and_eq_true]; exact fun h => absurd h.1 (by decide)), rev_picked]
    refine ⟨?_, .str _, H4, I5.tok _, ⟨_, rfl⟩, q⟩
    show z.cps.toList.reverse.toArray.size ≤ sizeLine
    rw [List.size_toArray, List.length_reverse, Array.length_toList]
    exact hz
  · subst ex
    cases r1
    obtain ⟨its, r, ht, hz⟩ := I5.tuple hx
    have hlen := r.length
    refine tail_any (ops := [.ref a, .ref s4.heap.objs.size]) ht.typeIs (PyProof.Rows.slot_tuple_getitem.lookup) ?_ (by with_unfolding_all rfl)
    refine HT.getItem_tuple_rev ht (Heap.IsSliceOf.new _ .none .none (.int (-1) uk)) ?_ (by rw [List.size_toArray]; omega)
    refine ⟨.ref _, _, I5.laid (t' := s4.toks) (o := .tup xs.reverse) (fun b ob q => Heap.get?_push_of_some _ q) (Nat.le_refl _) ?_, rfl, q _ (I5.hok.fresh (Nat.le_refl _))⟩
    exact ⟨by rw [List.length_reverse]; exact hz, _, r.reverse, IsTup.new _ _⟩
def qRev : D → Option D
  | .tuple ds => some (.tuple ds.reverse)
  | .str z => if z.length.ble line24 then some (.str (S (cps z).reverse)) else none
  | _ => none
def eF (g : D → Option D) (fa : FE) : FE := fun ρ T => match fa ρ T with
  | none => none
  | some (x, T1) => match g x with
    | none => none
    | some d => some (d, T1)
theorem se_rev {k : Nat} {p1 p2 p3 : Pos} (ha : SB X a fa) : SE X (.Subscript a (.Slice none none (some (.UnaryOp .USub (.Constant (.int 1) k p1) p2)) p3) pos) (eF qRev fa) := ⟨PE.imp (pe_revA ha.pe) fun σ H Q ⟨G, B, O, τ, ρ, T, d, T', E, hf, q⟩ => by
  unfold eF at hf
  split at hf
  · cases hf
  rename_i x T1 h1
  split at hf
  · cases hf
  rename_i d' h2
  cases hf
  refine ⟨G, B, O, τ, ρ, T, x, T', E, h1, fun v H1 x1 t1 r1 => ?_⟩
  unfold qRev at h2
  split at h2
  · cases h2
    obtain ⟨p, xs, rfl, hp, rp⟩ := rb_tup r1.b
    refine .inr ⟨p, xs, rfl, hp, fun u hu => ?_⟩
    exact q _ _ (x1.tr ((Gr.new hu).mono fun _ z => z.elim)) (t1.gr (Gr.new hu)) (.tup (.inl (.inl upd_same)) ((rl_rev rp).go (Gr.new hu) (fun _ z _ => z.elim) fun _ z => .inl z))
  · split at h2
    · rename_i z hz
      cases h2
      exact .inl ⟨z, rb_str r1.b, by rw [line24_eq]; exact Nat.le_of_ble_eq_true hz, q _ H1 x1 t1 (.str _)⟩
    · cases h2
  · cases h2⟩
end
end Dv

/-! Dv18: sorted, max and min of tuples. -/
namespace Dv
open PySem PySem.Spec PyProof.Rows L2

/-! ### sorting by insertion -/
section
variable {α : Type} {lt : α → α → Bool}
def insB (lt : α → α → Bool) (x : α) : List α → List α
  | [] => [x]
  | y :: r => if lt y x then y :: insB lt x r else x :: y :: r
def sortB (lt : α → α → Bool) : List α → List α
  | [] => []
  | x :: r => insB lt x (sortB lt r)
theorem insB_perm (x : α) : ∀ l, (insB lt x l).Perm (x :: l)
  | [] => .refl _
  | y :: r => by
    unfold insB
    split
    · exact ((insB_perm x r).cons y).trans (.swap x y r)
    · exact .refl _
theorem sortB_perm : ∀ l, (sortB lt l).Perm l
  | [] => .refl _
  | x :: r => (insB_perm x _).trans ((sortB_perm r).cons x)
/-- a ≤ b: not b < a -/
def leB (lt : α → α → Bool) (a b : α) : Prop := lt b a = false
theorem insB_pw (tr : ∀ a b c, leB lt a b → leB lt b c → leB lt a c) (as : ∀ a b, lt a b = true → lt b a = false) (x : α) : ∀ l, l.Pairwise (leB lt) → (insB lt x l).Pairwise (leB lt)
  | [], _ => by unfold insB; exact List.pairwise_singleton _ _
  | y :: r, h => by
    obtain ⟨h1, h2⟩ := List.pairwise_cons.mp h
    unfold insB
    split
    · rename_i c
      refine List.pairwise_cons.mpr ⟨fun z hz => ?_, insB_pw tr as x r h2⟩
      rcases List.mem_cons.mp ((insB_perm x r).mem_iff.mp hz) with rfl | hz
      · exact as _ _ c
      · exact h1 z hz
    · rename_i c
      have c : lt y x = false := by cases e : lt y x <;> first | rfl | exact absurd e c
      refine List.pairwise_cons.mpr ⟨fun z hz => ?_, h⟩
      rcases List.mem_cons.mp hz with rfl | hz
      · exact c
      · exact tr x y z c (h1 z hz)
theorem sortB_pw (tr : ∀ a b c, leB lt a b → leB lt b c → leB lt a c) (as : ∀ a b, lt a b = true → lt b a = false) : ∀ l, (sortB lt l).Pairwise (leB lt)
  | [] => .nil
  | x :: r => insB_pw tr as x _ (sortB_pw tr as r)
theorem sortB_eq (tr : ∀ a b c, leB lt a b → leB lt b c → leB lt a c) (as : ∀ a b, lt a b = true → lt b a = false) (an : ∀ a b, leB lt a b → leB lt b a → a = b) {l m : List α} (p : m.Perm l) (h : m.Pairwise (leB lt)) : m = sortB lt l :=
  List.Perm.eq_of_pairwise (fun a b _ _ => an a b) h (sortB_pw tr as l) (p.trans (sortB_perm l).symm)
end
def ltI (a b : Int) : Bool := decide (a < b)
def sortI (l : List Int) : List Int := sortB ltI l
theorem leI {a b : Int} : leB ltI a b ↔ a ≤ b := by
  unfold leB ltI
  rw [decide_eq_false_iff_not]
  omega
theorem sortI_eq {l m : List Int} (p : m.Perm l) (h : m.Pairwise (· ≤ ·)) : m = sortI l :=
  sortB_eq (lt := ltI) (fun a b c x y => by rw [leI] at *; omega) (fun a b h => by unfold ltI at *; rw [decide_eq_true_eq] at h; rw [decide_eq_false_iff_not]; omega) (fun a b x y => by rw [leI] at *; omega) p (h.imp fun h => leI.mpr h)
def ltS (a b : Str) : Bool := ltCps (cps a) (cps b)
def sortS (l : List Str) : List Str := sortB ltS l
theorem leS {a b : Str} : leB ltS a b ↔ cps a ≤ cps b := by
  unfold leB ltS
  rw [ltCps_eq, decide_eq_false_iff_not]
  exact List.not_lt
theorem cps_inj {a b : Str} (h : cps a = cps b) : a = b := by
  cases a; cases b
  unfold cps at h
  congr 1
  exact Array.toList_inj.mp h
theorem sS_tr (a b c : Str) (x : leB ltS a b) (y : leB ltS b c) : leB ltS a c := by
  rw [leS] at *
  exact List.le_trans x y
theorem sS_an (a b : Str) (x : leB ltS a b) (y : leB ltS b a) : a = b := by
  rw [leS] at *
  exact cps_inj (List.le_antisymm x y)
theorem sS_as (a b : Str) (h : ltS a b = true) : ltS b a = false := by
  unfold ltS at *
  rw [ltCps_eq, decide_eq_true_eq] at h
  rw [ltCps_eq, decide_eq_false_iff_not]
  exact fun g => List.lt_irrefl (cps a) (List.lt_trans h g)
theorem rising_pw : ∀ (l : List Str) (p : Str), risingS p l = true → (p :: l).Pairwise (leB ltS)
  | [], p, _ => List.pairwise_singleton _ _
  | x :: r, p, h => by
    rw [risingS, Bool.and_eq_true, Bool.not_eq_true'] at h
    have ih := rising_pw r x h.2
    refine List.pairwise_cons.mpr ⟨fun z hz => ?_, ih⟩
    have h1 : leB ltS p x := h.1
    rcases List.mem_cons.mp hz with rfl | hz
    · exact h1
    · exact sS_tr p x z h1 ((List.pairwise_cons.mp ih).1 z hz)
theorem sorted_pw : ∀ (l : List Str), sortedS l = true → l.Pairwise (leB ltS)
  | [], _ => .nil
  | x :: r, h => rising_pw r x h
theorem sortS_eq {l m : List Str} (p : m.Perm l) (h : sortedS m = true) : m = sortS l := sortB_eq sS_tr sS_as sS_an p (sorted_pw m h)

/-! ### sorted(..) of fewer than 64 -/
def keysD : List (D × D) → List D := List.map (·.1)
def qSorted1 : D → Option D
  | .list ds => if ds.length.blt 64 then match intsD ds with
    | some ns => some (.list ((sortI ns).map .int))
    | none => match strsD ds with
      | some ss => some (.list ((sortS ss).map .str))
      | none => none
    else none
  | .dict es => if es.length.blt 64 then match strsD (es.map (·.1)) with
    | some ss => some (.list ((sortS ss).map .str))
    | none => match intsD (es.map (·.1)) with
      | some ns => some (.list ((sortI ns).map .int))
      | none => none
    else none
  | _ => none
def qSorted : List D → Option D := q1 qSorted1
theorem intsD_len : ∀ {ds : List D} {ns : List Int}, intsD ds = some ns → ds = ns.map .int
  | [], _, h => by cases h; rfl
  | d :: ds, ns, h => by
    cases d <;> try (cases h)
    rename_i i
    cases e2 : intsD ds with
    | none => rw [intsD, e2] at h; cases h
    | some s =>
      rw [intsD, e2] at h; cases h
      rw [intsD_len e2]; rfl
theorem strsD_len : ∀ {ds : List D} {ns : List Str}, strsD ds = some ns → ds = ns.map .str
  | [], _, h => by cases h; rfl
  | d :: ds, ns, h => by
    cases d <;> try (cases h)
    rename_i i
    cases e2 : strsD ds with
    | none => rw [strsD, e2] at h; cases h
    | some s =>
      rw [strsD, e2] at h; cases h
      rw [strsD_len e2]; rfl
section
variable {K : PySem.W.Frag} {O : OS} {H : Hp}
theorem rk_strs : ∀ {es : List (D × D)} {kvs : List (Key × V)} {ss : List Str}, RepK K O H kvs es → es.map (·.1) = ss.map .str → kvs.map (·.1) = ss.map Sum.inr
  | [], _, [], .nil, _ => rfl
  | (_, _) :: _, _, [], .cons _ _, h => by cases h
  | [], _, _ :: _, .nil, h => by cases h
  | (_, _) :: es, _, x :: ss, .cons (k := k) r q, h => by
    rw [List.map_cons, List.map_cons] at h
    have h1 := (List.cons.inj h).1
    have h2 := (List.cons.inj h).2
    rw [List.map_cons, List.map_cons, rk_strs q h2]
    congr 1
    cases k with
    | inl i => cases h1
    | inr y => cases h1; rfl
theorem rk_ints : ∀ {es : List (D × D)} {kvs : List (Key × V)} {ss : List Int}, RepK K O H kvs es → es.map (·.1) = ss.map .int → kvs.map (·.1) = ss.map Sum.inl
  | [], _, [], .nil, _ => rfl
  | (_, _) :: _, _, [], .cons _ _, h => by cases h
  | [], _, _ :: _, .nil, h => by cases h
  | (_, _) :: es, _, x :: ss, .cons (k := k) r q, h => by
    rw [List.map_cons, List.map_cons] at h
    have h1 := (List.cons.inj h).1
    have h2 := (List.cons.inj h).2
    rw [List.map_cons, List.map_cons, rk_ints q h2]
    congr 1
    cases k with
    | inl i => cases h1; rfl
    | inr y => cases h1
theorem rt_not : ∀ {es : List (D × D)} {kvs : List (List Key × V)}, RepT K O H kvs es → ∀ {ss : List Str}, es.map (·.1) = ss.map .str → es = []
  | [], _, .nil, _, _ => rfl
  | (_, _) :: es, _, .cons r q, [], h => by cases h
  | (_, _) :: es, _, .cons r q, _ :: _, h => by
    rw [List.map_cons, List.map_cons] at h
    exact absurd (List.cons.inj h).1 (by unfold keyTD; intro z; cases z)
theorem rt_notI : ∀ {es : List (D × D)} {kvs : List (List Key × V)}, RepT K O H kvs es → ∀ {ss : List Int}, es.map (·.1) = ss.map .int → es = []
  | [], _, .nil, _, _ => rfl
  | (_, _) :: es, _, .cons r q, [], h => by cases h
  | (_, _) :: es, _, .cons r q, _ :: _, h => by
    rw [List.map_cons, List.map_cons] at h
    exact absurd (List.cons.inj h).1 (by unfold keyTD; intro z; cases z)
end
section
variable {X : Cx} {e : Expr} {es : List Expr} {ga : FA} {p pos : Pos}
theorem on_sorted : OpNN X.K (fun xs H Q => ((∃ (a : Addr) (kvs : List (Key × V)) (ks : List Str), xs = [.ref a] ∧ Rd H a (.dK kvs) ∧ kvs.map (·.1) = ks.map Sum.inr ∧ ks.length < 64 ∧ ∀ ys p, ys.Perm ks → sortedS ys = true → H p = none → Q (.ref p) (upd H p (.lst (ys.map V.str)))) ∨
    (∃ (a : Addr) (kvs : List (Key × V)) (ks : List Int), xs = [.ref a] ∧ Rd H a (.dK kvs) ∧ kvs.map (·.1) = ks.map Sum.inl ∧ ks.length < 64 ∧ ∀ (ys : List Int) (p : Addr), ys.Perm ks → ys.Pairwise (· ≤ ·) → H p = none → Q (.ref p) (upd H p (.lst (ys.map V.int)))))
    ∨ (rSorted X.K xs H Q ∨ rSortedS X.K xs H Q)) (q1 fun d => match d with
      | .dict es => if es.isEmpty then none else qSorted1 (.dict es)
      | d => qSorted1 d) := onn1 fun O H v x d Q hd rv hx q => by
  have fI : ∀ {p : Addr} {ns : List Int}, H p = none → Top X.K (addO O p) (upd H p (.lst ((sortI ns).map V.int))) p (.list ((sortI ns).map .int)) := fun hp => .lst upd_same (rl_ofInts _)
  have fS : ∀ {p : Addr} {ns : List Str}, H p = none → Top X.K (addO O p) (upd H p (.lst ((sortS ns).map V.str))) p (.list ((sortS ns).map .str)) := fun hp => .lst upd_same (rl_ofStrs _)
  split at hx
  · rename_i es
    split at hx
    · cases hx
    rename_i hne
    have hx : (if es.length.blt 64 then match strsD (es.map (·.1)) with
      | some ss => some (.list ((sortS ss).map .str))
      | none => match intsD (es.map (·.1)) with
        | some ns => some (.list ((sortI ns).map .int))
        | none => none
      else none) = some d := hx
    split at hx
    case isFalse => cases hx
    rename_i hl
    have hl := Nat.blt_eq.mp hl
    split at hx
    · rename_i ss h2
      cases hx
      have h3 := strsD_len h2
      have h4 : ss.length = es.length := by have := congrArg List.length h3; rw [List.length_map, List.length_map] at this; exact this.symm
      obtain ⟨p, rfl, ⟨kvs, hp, rp⟩ | ⟨kvs, hp, rp⟩⟩ := rb_dict rv
      · exact .inl (.inl ⟨p, kvs, ss, rfl, .inl hp, rk_strs rp h3, by omega, fun ys p' hy hs hp' => by rw [sortS_eq hy hs]; exact q p' _ hp' (fS hp')⟩)
      · exact absurd (rt_not rp h3) (by rintro rfl; exact hne rfl)
    · split at hx
      · rename_i ns h2
        cases hx
        have h3 := intsD_len h2
        have h4 : ns.length = es.length := by have := congrArg List.length h3; rw [List.length_map, List.length_map] at this; exact this.symm
        obtain ⟨p, rfl, ⟨kvs, hp, rp⟩ | ⟨kvs, hp, rp⟩⟩ := rb_dict rv
        · exact .inl (.inr ⟨p, kvs, ns, rfl, .inl hp, rk_ints rp h3, by omega, fun ys p' hy hs hp' => by rw [sortI_eq hy hs]; exact q p' _ hp' (fI hp')⟩)
        · exact absurd (rt_notI rp h3) (by rintro rfl; exact hne rfl)
      · cases hx
  · rename_i x hn
    unfold qSorted1 at hx
    split at hx
    · rename_i ds
      split at hx
      case isFalse => cases hx
      rename_i hl
      have hl := Nat.blt_eq.mp hl
      obtain ⟨p, xs, rfl, hp, rp⟩ := rb_list rv
      have hlen := rp.length
      split at hx
      · rename_i ns h2
        cases hx
        have h3 := intsD_len h2
        have h4 : ns.length = ds.length := by have := congrArg List.length h3; rw [List.length_map] at this; exact this.symm
        rw [rl_ints rp h2] at hp
        exact .inr (.inl ⟨p, ns, rfl, .of hp, by omega, fun ys p' hy hs hp' => by rw [sortI_eq hy hs]; exact q p' _ hp' (fI hp')⟩)
      · split at hx
        · rename_i ss h2
          cases hx
          have h3 := strsD_len h2
          have h4 : ss.length = ds.length := by have := congrArg List.length h3; rw [List.length_map] at this; exact this.symm
          rw [rl_strs rp h2] at hp
          exact .inr (.inr ⟨p, ss, rfl, .of hp, by omega, fun ys p' hy hs hp' => by rw [sortS_eq hy hs]; exact q p' _ hp' (fS hp')⟩)
        · cases hx
    · exact absurd rfl (hn _)
    · cases hx
def qSortedF : List D → Option D := q1 fun d => match d with
  | .dict es => if es.isEmpty then none else qSorted1 (.dict es)
  | d => qSorted1 d
theorem sn_sorted (hc : X.calm = true) (hm : X.mg "sorted" = none) (ha : SAB X (e :: es) ga) (hg : Gl X "sorted" := by rfl) (he : starEach (e :: es) X.env = (false, eval e X.env) :: starEach es X.env := by rfl) (hpl : (backTo pos (starEach es X.env)).any (·.1) = false := by rfl) : SN X (.Call (.Name "sorted" p) (e :: es) [] pos) (eCall qSortedF ga) :=
  sn_callB (((call_sortedD hc).or (call_sortedDI hc)).or (cr_sorted.or cr_sortedS)) on_sorted hm ha (by decide +kernel) hg (by decide) (by decide) he hpl
end
end Dv

/-! Dv19: enumerate over a list, a tuple, a text; reversed; max, min of a tuple. -/
namespace PySem
open Sem (wp)
set_option maxHeartbeats 1000000 in
theorem meets_enumerate_new1B {v : Value} {o : Obj} {H : Heap → Prop} (B : Begins v o H) :
    Meets (Builtin.«enumerate.__new__» ⟨[.type "enumerate", v], []⟩) (fun _ R s => H s.heap ∧
      R (.ok (.ret (.ref (s.heap.push o).objs.size))) { s with heap := (s.heap.push o).push { cls := .type "enumerate", data := .fields #[.none, .bool false, .ref s.heap.objs.size, rawInt 0, .none, .none] } }) :=
  .of_wp fun prog w A R s h => by
    obtain ⟨hp, g, d, tk, os⟩ := s; obtain ⟨h1, h⟩ := h
    have hsub := sub_enumerate
    have q1 : ∀ {A' : Around} {E : Value → Shared → Prop} {Q : Value → Shared → Prop}, Q (.ref hp.objs.size) ⟨hp.push o, g, d, tk, os⟩ → wpAny (model prog w) A' (pyIter v) Q E ⟨hp, g, d, tk, os⟩ :=
      fun q => B.iter prog w _ _ ⟨hp, g, d, tk, os⟩ _ h1 q
    wp_walk using q1
    refine wpAny_stack_any fun st => wpAny_pure ?_
    split
    · rename_i c _ _ _ _ _
      cases (c == Value.type "enumerate")
      · wp_walk using q1
        exact ⟨_, rfl, h⟩
      · wp_walk using q1
        exact ⟨_, rfl, h⟩
    · wp_walk using q1
      exact ⟨_, rfl, h⟩
section
variable {prog : Program} {w : World} {A : Around} {E : Value → Shared → Prop} {s : Shared}
theorem enum_begins1 {v : Value} {o : Obj} {H : Heap → Prop} {Q : Value → Shared → Prop} (B : Begins v o H) (h1 : H s.heap)
    (h : ∀ h', IsEnum h' (s.heap.objs.size + 1) s.heap.objs.size 0 .none → h'.get? s.heap.objs.size = some o → h'.objs.size = s.heap.objs.size + 2 →
      (∀ b o, s.heap.get? b = some o → h'.get? b = some o) → Q (.ref (s.heap.objs.size + 1)) { s with heap := h' }) :
    wpAny (model prog w) A (call (.type "enumerate") [v]) Q E s := by
  refine callType_new F.called_enumerate (by decide) (F.typeCall_enumerate_1 _) (F.newCall_enumerate_1 _) (fun obj => F.args_object_init_2 obj _) F.entry_enumerate_new
    (meets_enumerate_new1B B) ⟨h1, ?_⟩
  have hz : (s.heap.push o).objs.size = s.heap.objs.size + 1 := Heap.size_push ..
  show _ ∧ _
  rw [hz]
  have he : IsEnum ((s.heap.push o).push { cls := .type "enumerate", data := .fields #[.none, .bool false, .ref s.heap.objs.size, rawInt 0, .none, .none] }) (s.heap.objs.size + 1) s.heap.objs.size 0 .none := by
    have := Heap.get?_push_size (s.heap.push o) (o := { cls := .type "enumerate", data := .fields #[.none, .bool false, .ref s.heap.objs.size, rawInt 0, .none, .none] }) rfl
    rw [hz] at this; exact this
  refine ⟨⟨_, he, rfl⟩, h _ he (Heap.get?_push_of_some _ (Heap.get?_push_size _ B.free)) (by rw [Heap.size_push, hz]) fun b o x => Heap.get?_push_of_some _ (Heap.get?_push_of_some _ x)⟩
end
end PySem
namespace Dv
open PySem PySem.Spec PyProof.Rows L2

/-- enumerate over what is known to be xs while G stands -/
def IteG (G : Hp → Prop) (xs : List V) : It :=
  ⟨fun i H => i < xs.length ∧ G H, fun i H v H' => ∃ T x, v = .ref T ∧ H T = none ∧ H' = upd H T (.tup [.int (i : Nat), x]) ∧ xs[i]? = some x, fun i H => xs.length ≤ i ∧ G H⟩
/-- one turn, by what the iterator draws -/
theorem enum_turn {X : Cx} {elts : List Expr} {kk : Nat} {tpos : Pos} {e it : Addr} {fp : List Addr} {n i : Nat} {P : Nat → Value → Prop} {St : Nat → Heap → Prop} {St0 : Nat → Heap → Prop} {pins : List (Addr × Obj)} {s : Shared} {σ : L2.St} {H : Hp} {E : Value → Shared → Prop} {x : V} {old : Value}
    (I : Inv X pins σ H s) (hf : ∀ b ∈ [e, it], FpOk X pins H b) (D : Draws X.prog X.w X.A.in1 it fp n P St) (he : IsEnum s.heap e it ((i : Nat) : Int) old) (hst : St i s.heap) (hlt : i < n) (hne : e ≠ it) (hef : e ∉ fp) (hP : ∀ v, P i v → RelV x v)
    (h0 : ∀ j h, St j h → St0 j h) (hk0 : ∀ j h h', St0 j h → (∀ o, h.get? it = some o → h'.get? it = some o) → St0 j h') {R : Nat → Heap → Prop} (hR : ∀ h, (∃ old, IsEnum h e it ((i + 1 : Nat) : Int) old) → St0 (i + 1) h → R (i + 1) h) :
    wpAny (model X.prog X.w) X.A (pyNext (.ref e)) (fun r s1 => ∃ u, r = some u ∧
      wpAny (model X.prog X.w) X.A (letOwnedTupleGo (.Tuple elts kk tpos) (.ref e) u) (fun _ s2 => ∃ v H', Inv X pins σ H' s2 ∧ RelV v u ∧ (∃ T, v = .ref T ∧ H T = none ∧ H' = upd H T (.tup [.int (i : Nat), x])) ∧ R (i + 1) s2.heap ∧ ∀ b ∈ [e, it], H' b = none) E s1) E s := by
  have hel : e < s.heap.objs.size := Heap.lt_size he
  have hil : it < s.heap.objs.size := by obtain ⟨o, q⟩ := D.live _ _ hst; exact Heap.lt_size q
  refine wpAny_pyNext_enum_itemC D he hst hlt hne hef fun u h' tk hu ho hst' hT hsz hk => ?_
  refine ⟨_, rfl, wpAny_letOwnedTupleGo_enum (s := { s with heap := h', toks := tk + 1 }) ho fun h'' he' sb => ?_⟩
  have hT2 : h''.get? s.heap.objs.size = some { cls := .type "tuple", data := .seq #[.int i tk, u] } := (sb.2 _ (Nat.ne_of_gt hel)).trans hT
  have new : ObjOk X.prog X.w (upd H s.heap.objs.size (.tup [.int (i : Nat), x])) h'' s.heap.objs.size (.tup [.int (i : Nat), x]) :=
    ⟨by show 2 ≤ sizeLine; decide, [.int i tk, u], .cons ⟨_, rfl⟩ (.cons (hP u hu) .nil), ⟨_, hT2, rfl, _, rfl⟩⟩
  have I1 : Inv X pins σ (upd H s.heap.objs.size (.tup [.int (i : Nat), x])) { s with heap := h'', toks := tk + 1 } :=
    I.turnedNew (ch := [e, it]) (fun b o hb q => (sb.2 b (fun z => hb (by simp [z]))).trans (hk b o (fun z => hb (by simp [z])) (fun z => hb (by simp [z])) q)) hf (Nat.le_refl _) new
  refine ⟨.ref s.heap.objs.size, _, I1, rfl, ⟨_, rfl, I.hok.fresh (Nat.le_refl _), rfl⟩, hR _ ⟨u, ?_⟩ (hk0 _ _ _ (h0 _ _ hst') fun o q => (sb.2 it (Ne.symm hne)).trans q), fun b hb => ?_⟩
  · have e1 : ((i + 1 : Nat) : Int) = (i : Int) + 1 := by omega
    rw [e1]; exact he'
  · have hb' : b < s.heap.objs.size := by
      have e' : b = e ∨ b = it := by simpa using hb
      rcases e' with z | z
      · rw [z]; exact hel
      · rw [z]; exact hil
    rw [upd_ne (Nat.ne_of_lt hb')]
    exact (hf b hb).1
theorem turn_enumT {P : Program} {w : World} {K : PySem.W.Frag} {elts : List Expr} {kk : Nat} {tpos : Pos} (a e it : Addr) (xs : List V) :
    Turn P w K (.Tuple elts kk tpos) (IteG (fun H => SqT K H a xs) xs) [e, it] e (fun i h => (∃ old, IsEnum h e it ((i : Nat) : Int) old) ∧ (h.IsTupleIter it a i ∧ i ≤ xs.length) ∧ e ≠ it) where
  mem := by simp
  obj := fun i h st b hb => by
    obtain ⟨⟨old, he⟩, ⟨⟨o, ho, hc, hd⟩, _⟩, _⟩ := st
    have e' : b = e ∨ b = it := by simpa using hb
    rcases e' with z | z
    · rw [z]; exact ⟨_, he, fun v q => nomatch q⟩
    · rw [z]; exact ⟨o, ho, fun v q => by rw [hd] at q; cases q⟩
  keep := fun i h h' st k => let ⟨⟨old, he⟩, ⟨hi, hl⟩, hne⟩ := st; ⟨⟨old, k e (by simp) _ he⟩, ⟨hi.at fun o q => k it (by simp) o q, hl⟩, hne⟩
  item := by
    intro X hP hw hK hc i pins s σ H E I hf st hg
    subst hP hw hK
    obtain ⟨⟨old, he⟩, ⟨hit, hl⟩, hne⟩ := st
    obtain ⟨hlt, hq⟩ := hg
    obtain ⟨its, rv, p, hz⟩ := I.tuple hq
    have hlen := rv.length
    have hx : xs[i]? = some xs[i] := List.getElem?_eq_getElem hlt
    obtain ⟨u, hu, ru⟩ := rv.get hx
    obtain ⟨ol, hol, hcl, _⟩ := id p
    have ha : a ≠ it := fun z => by
      obtain ⟨oi, hoi, hci, _⟩ := id hit
      rw [z, hoi] at hol
      cases hol
      rw [hci] at hcl
      exact absurd hcl (by decide)
    have hae : a ≠ e := fun z => by
      have he' : s.heap.get? e = _ := he
      rw [z, he'] at hol
      cases hol
      have q : Value.type "enumerate" = Value.type "tuple" := hcl
      exact absurd q (by decide)
    refine thn (enum_turn (elts := elts) (kk := kk) (tpos := tpos) (x := xs[i]) (St0 := fun i h => h.IsTupleIter it a i) (R := fun i h => (∃ old, IsEnum h e it ((i : Nat) : Int) old) ∧ (h.IsTupleIter it a i ∧ i ≤ xs.length) ∧ e ≠ it) I hf (Draws.tuple (A := X.A.in1) (I.ok.hd hc) it a ha its.toArray) he ⟨hit, p⟩ (by simp; omega) hne (by simp; exact ⟨hne, fun z => hae z.symm⟩)
      (fun v hv => by
        have hv : its.toArray[i]? = some v := hv
        rw [List.getElem?_toArray, hu] at hv
        cases hv; exact ru) (fun j h st => st.1) (fun j h h' st k => st.at k) (fun h h1 h2 => ⟨h1, ⟨h2, hlt⟩, hne⟩)) fun r s1 ⟨u', er, h1⟩ => ⟨u', er, thn h1 fun _ s2 ⟨v, H', I', rv', ⟨T, ev, hT, eH⟩, h3, h4⟩ => ⟨v, H', I', rv', ⟨T, _, ev, hT, eH, hx⟩, h3, h4⟩⟩
  done := by
    intro X hP hw hK hc i pins s σ H E I hf st hg
    subst hP hw hK
    obtain ⟨⟨old, he⟩, ⟨hit, hl⟩, hne⟩ := st
    obtain ⟨hge, hq⟩ := hg
    obtain ⟨its, rv, p, hz⟩ := I.tuple hq
    have hlen := rv.length
    have ei : i = xs.length := Nat.le_antisymm hl hge
    obtain ⟨ol, hol, hcl, _⟩ := id p
    have ha : a ≠ it := fun z => by
      obtain ⟨oi, hoi, hci, _⟩ := id hit
      rw [z, hoi] at hol
      cases hol
      rw [hci] at hcl
      exact absurd hcl (by decide)
    obtain ⟨f0, f1, f2, f3, f4, f5⟩ := hf it (by simp)
    have en : i = its.toArray.size := by rw [ei, List.size_toArray]; exact hlen
    refine wpAny_pyNext_enum_endD (Draws.tuple (A := X.A.in1) (I.ok.hd hc) it a ha its.toArray) he ⟨by rw [← en]; exact hit, p⟩ fun h' eb => ⟨rfl, I.turned (t' := s.toks) (fun b o hb q => eb b o hb q) f0 f1 f3 f4 f5⟩
  self := fun A i s Q E st h => let ⟨⟨_, he⟩, _⟩ := st; wpAny_pyIter_enum he h
def chV (z : Str) : List V := z.cps.toList.map fun c => .str ⟨#[c]⟩
theorem turn_enumS {P : Program} {w : World} {K : PySem.W.Frag} {elts : List Expr} {kk : Nat} {tpos : Pos} (z : Str) (t : Tok) (e it : Addr) :
    Turn P w K (.Tuple elts kk tpos) (IteG (fun _ => True) (chV z)) [e, it] e (fun i h => (∃ old, IsEnum h e it ((i : Nat) : Int) old) ∧ (h.IsStrIter it (strIterType z) z t i ∧ i ≤ z.cps.size) ∧ e ≠ it) where
  mem := by simp
  obj := fun i h st b hb => by
    obtain ⟨⟨old, he⟩, ⟨⟨o, ho, hc, hd⟩, _⟩, _⟩ := st
    have e' : b = e ∨ b = it := by simpa using hb
    rcases e' with z | z
    · rw [z]; exact ⟨_, he, fun v q => nomatch q⟩
    · rw [z]; exact ⟨o, ho, fun v q => by rw [hd] at q; cases q⟩
  keep := fun i h h' st k => let ⟨⟨old, he⟩, ⟨⟨o, ho, r⟩, hl⟩, hne⟩ := st; ⟨⟨old, k e (by simp) _ he⟩, ⟨⟨o, k it (by simp) o ho, r⟩, hl⟩, hne⟩
  item := by
    intro X hP hw hK hc i pins s σ H E I hf st hg
    subst hP hw hK
    obtain ⟨⟨old, he⟩, ⟨hit, hl⟩, hne⟩ := st
    obtain ⟨hlt, _⟩ := hg
    have hlt : i < z.cps.size := by unfold chV at hlt; rw [List.length_map, Array.length_toList] at hlt; exact hlt
    have hcx : z.cps[i]? = some z.cps[i] := Array.getElem?_eq_getElem hlt
    refine thn (enum_turn (elts := elts) (kk := kk) (tpos := tpos) (x := .str ⟨#[z.cps[i]]⟩) (St0 := fun i h => h.IsStrIter it (strIterType z) z t i) (R := fun i h => (∃ old, IsEnum h e it ((i : Nat) : Int) old) ∧ (h.IsStrIter it (strIterType z) z t i ∧ i ≤ z.cps.size) ∧ e ≠ it) I hf (Draws.text (A := X.A.in1) (I.ok.hd hc) it z t) he hit hlt hne (by simp; exact hne)
      (fun v hv => by
        obtain ⟨c, u, hc', ev⟩ := hv
        rw [hcx] at hc'
        cases hc'
        exact ⟨u, ev⟩) (fun j h st => st) (fun j h h' st k => let ⟨o, ho, r⟩ := st; ⟨o, k o ho, r⟩) (fun h h1 h2 => ⟨h1, ⟨h2, hlt⟩, hne⟩)) fun r s1 ⟨u', er, h1⟩ => ⟨u', er, thn h1 fun _ s2 ⟨v, H', I', rv', ⟨T, ev, hT, eH⟩, h3, h4⟩ => ⟨v, H', I', rv', ⟨T, _, ev, hT, eH, ?_⟩, h3, h4⟩⟩
    unfold chV
    rw [List.getElem?_map, Array.getElem?_toList, hcx]
    rfl
  done := by
    intro X hP hw hK hc i pins s σ H E I hf st hg
    subst hP hw hK
    obtain ⟨⟨old, he⟩, ⟨hit, hl⟩, hne⟩ := st
    obtain ⟨hge, _⟩ := hg
    have hge : z.cps.size ≤ i := by unfold chV at hge; rw [List.length_map, Array.length_toList] at hge; exact hge
    have ei : i = z.cps.size := Nat.le_antisymm hl hge
    obtain ⟨f0, f1, f2, f3, f4, f5⟩ := hf it (by simp)
    refine wpAny_pyNext_enum_endD (Draws.text (A := X.A.in1) (I.ok.hd hc) it z t) he (by rw [← ei]; exact hit) fun h' eb => ⟨rfl, I.turned (t' := s.toks) (fun b o hb q => eb b o hb q) f0 f1 f3 f4 f5⟩
  self := fun A i s Q E st h => let ⟨⟨_, he⟩, _⟩ := st; wpAny_pyIter_enum he h
def iEnumA (K : PySem.W.Frag) (te : TE) : TI := fun σ H R => te σ H fun x H1 => (∃ a xs, x = .ref a ∧ SqL K H1 a xs ∧ R (Ite K a) H1) ∨ (∃ a xs, x = .ref a ∧ SqT K H1 a xs ∧ R (IteG (fun H => SqT K H a xs) xs) H1) ∨ ∃ z, x = .str z ∧ R (IteG (fun _ => True) (chV z)) H1
section
variable {X : Cx} {e : Expr} {te : TE} {fe : FE} {p pos tpos : Pos} {elts : List Expr} {kk : Nat}
theorem pie2 {pins : List (Addr × Obj)} {s1 : Shared} {σ : L2.St} {H1 : Hp} {h' : Heap} (I1 : Inv X pins σ H1 s1) (b : Addr) (hb : b ∈ [s1.heap.objs.size + 1, s1.heap.objs.size]) : FpOk X pins H1 b := by
  have e' : b = s1.heap.objs.size + 1 ∨ b = s1.heap.objs.size := by simpa using hb
  have hle : s1.heap.objs.size ≤ b := by
    rcases e' with z | z
    · rw [z]; exact Nat.le_add_right _ _
    · rw [z]; exact Nat.le_refl _
  exact I1.fpOk hle (I1.hok.fresh hle)
theorem pi_enumA (hg : Gl X "enumerate") (hm : X.mg "enumerate" = none) (he : PE X e te) (hs : starEach [e] X.env = (false, eval e X.env) :: starEach [] X.env := by rfl) (hs1 : starEach [e] X.env = [(false, eval e X.env)] := by rfl) :
    PI X (.Tuple elts kk tpos) (.Call (.Name "enumerate" p) [e] [] pos) (iEnumA X.K te) := by
  refine ⟨fun pins s σ H R I h => ?_⟩
  refine Call_ (ld_blt I hg hm boot_enumerate (PyProof.Rows.callWith_type1 (args_cons (thn (he.run pins s σ H _ I h) fun u s1 ⟨v, H1, I1, r1, q1⟩ => args_nil ?_) hs) hs1 rfl))
  rcases q1 with ⟨a, xs, rfl, hq, q⟩ | ⟨a, xs, rfl, hq, q⟩ | ⟨z, rfl, q⟩
  · obtain rfl : u = Value.ref a := r1
    obtain ⟨its, rv, p', hz⟩ := I1.list hq
    refine call_enumerate_list p'.isList fun h' he hit hsz hk => wpAny_pyIter_enum he ?_
    exact ⟨s1.heap.objs.size + 1, [s1.heap.objs.size + 1, s1.heap.objs.size], _, _, H1, rfl, I1.kept (t' := s1.toks) hk, turn_enum a (s1.heap.objs.size + 1) s1.heap.objs.size, ⟨⟨.none, he⟩, hit, Nat.succ_ne_self _⟩, fun b hb => pie2 (h' := h') I1 b hb, q⟩
  · obtain rfl : u = Value.ref a := r1
    obtain ⟨its, rv, p', hz⟩ := I1.tuple hq
    refine PySem.enum_begins1 (begins_tuple a its.toArray) p' fun h' he hit hsz hk => wpAny_pyIter_enum he ?_
    exact ⟨s1.heap.objs.size + 1, [s1.heap.objs.size + 1, s1.heap.objs.size], _, _, H1, rfl, I1.kept (t' := s1.toks) hk, turn_enumT a (s1.heap.objs.size + 1) s1.heap.objs.size xs, ⟨⟨.none, he⟩, ⟨⟨_, hit, rfl, rfl⟩, Nat.zero_le _⟩, Nat.succ_ne_self _⟩, fun b hb => pie2 (h' := h') I1 b hb, q⟩
  · obtain ⟨t, rfl⟩ := r1
    refine PySem.enum_begins1 (begins_text z t) trivial fun h' he hit hsz hk => wpAny_pyIter_enum he ?_
    exact ⟨s1.heap.objs.size + 1, [s1.heap.objs.size + 1, s1.heap.objs.size], _, _, H1, rfl, I1.kept (t' := s1.toks) hk, turn_enumS z t (s1.heap.objs.size + 1) s1.heap.objs.size, ⟨⟨.none, he⟩, ⟨⟨_, hit, rfl, rfl⟩, Nat.zero_le _⟩, Nat.succ_ne_self _⟩, fun b hb => pie2 (h' := h') I1 b hb, q⟩
def enumD : Nat → List D → List D
  | _, [] => []
  | i, d :: r => .tuple [.int i, d] :: enumD (i + 1) r
theorem enumD_len : ∀ (ds : List D) (i : Nat), (enumD i ds).length = ds.length
  | [], _ => rfl
  | _ :: r, i => by rw [enumD, List.length_cons, List.length_cons, enumD_len r]
theorem enumD_get : ∀ (ds : List D) (i j : Nat) (d : D), (enumD i ds)[j]? = some d → ∃ x, ds[j]? = some x ∧ d = .tuple [.int ((i + j : Nat) : Int), x]
  | [], _, _, _, h => by cases h
  | x :: r, i, 0, d, h => by cases h; exact ⟨x, rfl, rfl⟩
  | x :: r, i, j + 1, d, h => by
    obtain ⟨y, h1, h2⟩ := enumD_get r (i + 1) j d h
    exact ⟨y, h1, by rw [h2, show i + 1 + j = i + (j + 1) by omega]⟩
theorem pair_new {K : PySem.W.Frag} {O : OS} {H : Hp} {T : Addr} {i : Nat} {x : V} {d : D} (hT : H T = none) (r : Rep K O H x d) : Rep K O (upd H T (.tup [.int (i : Nat), x])) (.ref T) (.tuple [.int (i : Nat), d]) :=
  .tup (.inl (.inl upd_same)) (.cons (.int _) (.cons (r.go (Gr.new hT) (fun _ z _ => z.elim) fun _ z => .inl z) .nil))
theorem walk_enumL {K : PySem.W.Frag} {O : OS} {H : Hp} {a : Addr} {xs : List V} {ds : List D} (no : ¬ O a) (e : H a = some (.lst xs)) (r : RepL K O H xs ds) : Walk K O H (Ite K a) (enumD 0 ds) := fun i O' H' af _ => by
  have e' : H' a = some (.lst xs) := af.xt _ _ e (.inl no)
  have r' := af.repL r
  refine ⟨fun d h => ?_, fun h => ⟨xs, .of e', by rw [r'.length, ← enumD_len ds 0]; exact h⟩⟩
  obtain ⟨x, hx, ed⟩ := enumD_get ds 0 i d h
  obtain ⟨v, hv, rv⟩ := r'.get hx
  refine ⟨⟨xs, v, .of e', hv⟩, fun w H'' ⟨T, y, ew, hT, eH, hy⟩ => ?_⟩
  have := hy xs (.of e')
  rw [hv] at this
  cases this
  subst ew eH ed
  rw [Nat.zero_add]
  exact ⟨Gr.new hT, pair_new hT rv⟩
theorem walk_enumG {K : PySem.W.Frag} {O : OS} {H : Hp} {G : Hp → Prop} {xs : List V} {ds : List D} (g : ∀ O' H', Aft O O' H H' → G H') (r : RepL K O H xs ds) : Walk K O H (IteG G xs) (enumD 0 ds) := fun i O' H' af _ => by
  have r' := af.repL r
  have hl := r'.length
  refine ⟨fun d h => ?_, fun h => ⟨by rw [hl, ← enumD_len ds 0]; exact h, g O' H' af⟩⟩
  obtain ⟨x, hx, ed⟩ := enumD_get ds 0 i d h
  obtain ⟨v, hv, rv⟩ := r'.get hx
  refine ⟨⟨(List.getElem?_eq_some_iff.mp hv).1, g O' H' af⟩, fun w H'' ⟨T, y, ew, hT, eH, hy⟩ => ?_⟩
  rw [hv] at hy
  cases hy
  subst ew eH ed
  rw [Nat.zero_add]
  exact ⟨Gr.new hT, pair_new hT rv⟩
theorem rl_chars {K : PySem.W.Frag} {O : OS} {H : Hp} : ∀ cs : List Nat, RepL K O H (cs.map fun c => V.str ⟨#[c]⟩) (cs.map fun c => .str (S [c]))
  | [] => .nil
  | c :: cs => .cons (.str _) (rl_chars cs)
def iEnumF (fa : FE) : FI := fun ρ T => match fa ρ T with
  | none => none
  | some (d, T1) => match seqD d with
    | none => none
    | some ds => some (enumD 0 ds, T1)
theorem si_enum (hm : X.mg "enumerate" = none) (h : SE X e fe) (hg : Gl X "enumerate" := by rfl) (hs : starEach [e] X.env = (false, eval e X.env) :: starEach [] X.env := by rfl) (hs1 : starEach [e] X.env = [(false, eval e X.env)] := by rfl) : SI X (.Tuple elts kk tpos) (.Call (.Name "enumerate" p) [e] [] pos) (iEnumF fe) := ⟨PI.imp (pi_enumA hg hm h.pe hs hs1) fun σ H R ⟨G, B, O, τ, ρ, T, ds, T', E, hf, q⟩ => by
  unfold iEnumF at hf
  split at hf
  · cases hf
  rename_i d T1 h1
  split at hf
  · cases hf
  rename_i ds' h2
  cases hf
  refine ⟨G, B, O, τ, ρ, T, d, T', E, h1, fun v H1 x t r => ?_⟩
  unfold seqD at h2
  split at h2
  · cases h2
    cases r with
    | lst no e r => exact .inl ⟨_, _, rfl, .of e, q _ H1 x t (walk_enumL no e r)⟩
  · cases h2
    cases r with
    | tup e r => exact .inr (.inl ⟨_, _, rfl, e, q _ H1 x t (walk_enumG (fun O' H' af => af.xt.sqT e) r)⟩)
  · cases h2
    cases r
    exact .inr (.inr ⟨_, rfl, q _ H1 x t (walk_enumG (fun _ _ _ => trivial) (rl_chars _))⟩)
  · cases h2⟩

/-! ### reversed -/
def iRevF (fa : FE) : FI := fun ρ T => match fa ρ T with
  | some (.list ds, T1) => some (ds.reverse, T1)
  | some (.tuple ds, T1) => some (ds.reverse, T1)
  | _ => none
theorem rev_get {α : Type} {xs : List α} {i : Nat} (h : i < xs.length) : xs[xs.length - 1 - i]? = xs.reverse[i]? := by
  rw [List.getElem?_reverse h]
theorem walk_revL {K : PySem.W.Frag} {O : OS} {H : Hp} {a : Addr} {xs : List V} {ds : List D} (no : ¬ O a) (e : H a = some (.lst xs)) (r : RepL K O H xs ds) : Walk K O H (Itv K a xs.length) ds.reverse := fun i O' H' af _ => by
  have e' : H' a = some (.lst xs) := af.xt _ _ e (.inl no)
  have r' := rl_rev (af.repL r)
  have hl := r'.length
  rw [List.length_reverse] at hl
  refine ⟨fun d h => ?_, fun h => by show xs.length ≤ i; omega⟩
  obtain ⟨v, hv, rv⟩ := r'.get h
  have hi : i < xs.length := by have := (List.getElem?_eq_some_iff.mp hv).1; rw [List.length_reverse] at this; exact this
  refine ⟨⟨hi, xs, v, .of e', by rw [rev_get hi]; exact hv⟩, fun x H'' ⟨e1, e2⟩ => ?_⟩
  subst e1
  have := e2 xs (.of e')
  rw [rev_get hi, hv] at this
  cases this
  exact ⟨Xt.refl _, rv⟩
theorem walk_revT {K : PySem.W.Frag} {O : OS} {H : Hp} {a : Addr} {xs : List V} {ds : List D} (e : SqT K H a xs) (r : RepL K O H xs ds) : Walk K O H (RT.ItvT K a xs.length) ds.reverse := fun i O' H' af _ => by
  have e' : SqT K H' a xs := af.xt.sqT e
  have r' := rl_rev (af.repL r)
  have hl := r'.length
  rw [List.length_reverse] at hl
  refine ⟨fun d h => ?_, fun h => by show xs.length ≤ i; omega⟩
  obtain ⟨v, hv, rv⟩ := r'.get h
  have hi : i < xs.length := by have := (List.getElem?_eq_some_iff.mp hv).1; rw [List.length_reverse] at this; exact this
  refine ⟨⟨hi, xs, v, e', by rw [rev_get hi]; exact hv⟩, fun x H'' ⟨e1, e2⟩ => ?_⟩
  subst e1
  have := e2 xs e'
  rw [rev_get hi, hv] at this
  cases this
  exact ⟨Xt.refl _, rv⟩
theorem si_rev {tg : Expr} (hm : X.mg "reversed" = none) (h : SE X e fe) (hg : Gl X "reversed" := by rfl) (hs : starEach [e] X.env = (false, eval e X.env) :: starEach [] X.env := by rfl) : SI X tg (.Call (.Name "reversed" p) [e] [] pos) (iRevF fe) := ⟨PI.imp (RT.pi_revA hg hm h.pe hs) fun σ H R ⟨G, B, O, τ, ρ, T, ds, T', E, hf, q⟩ => by
  unfold iRevF at hf
  split at hf
  · rename_i ds' T1 h1
    cases hf
    refine ⟨G, B, O, τ, ρ, T, _, T', E, h1, fun v H1 x t r => ?_⟩
    cases r with
    | lst no e r => exact ⟨_, _, rfl, .inl ⟨.of e, q _ H1 x t (walk_revL no e r)⟩⟩
  · rename_i ds' T1 h1
    cases hf
    refine ⟨G, B, O, τ, ρ, T, _, T', E, h1, fun v H1 x t r => ?_⟩
    cases r with
    | tup e r => exact ⟨_, _, rfl, .inr ⟨e, q _ H1 x t (walk_revT e r)⟩⟩
  · cases hf⟩
end
end Dv

/-! Dv20: max, min, sum of tuples; a text's replace, with a token out. -/
namespace Dv
open PySem PySem.Spec PyProof.Rows L2
section
variable {prog : Program} {w : World} {A : Around} {E : Value → Shared → Prop} {s : Shared} {l : Addr} {its : List Value} {ns : List Int} {Q : Value → Shared → Prop}
theorem iter_tup {items : Array Value} {Q : Value → Shared → Prop} (hl : s.heap.IsTuple l items)
    (h : ∀ s₂ : Shared, s₂ = { s with heap := s.heap.push { cls := .type "tuple_iterator", data := .fields #[.ref l, .int 0 0] } } →
      (s₂.heap.IsTupleIter s.heap.objs.size l 0 ∧ s₂.heap.IsTuple l items) → (∀ b ∈ [s.heap.objs.size, l], b < s₂.heap.objs.size) → l ≠ s.heap.objs.size → Q (.ref s.heap.objs.size) s₂) :
    wpAny (model prog w) A (pyIter (.ref l)) Q E s := by
  have hlt : l < s.heap.objs.size := by obtain ⟨_, e, _⟩ := hl; exact Heap.lt_size e
  refine wpAny_pyIter_tuple hl (h _ rfl ⟨⟨_, Heap.get?_push_size _ rfl, rfl, rfl⟩, hl.push _⟩ (fun b hb => ?_) (Nat.ne_of_lt hlt))
  show b < (s.heap.push _).objs.size
  rw [Heap.size_push]
  rcases List.mem_cons.mp hb with rfl | hb
  · exact Nat.lt_succ_self _
  · rcases List.mem_cons.mp hb with rfl | hb
    · exact Nat.lt_succ_of_lt hlt
    · cases hb
theorem old_keptT {h' : Heap} (hk : ∀ b o, b ∉ [s.heap.objs.size] → (s.heap.push { cls := .type "tuple_iterator", data := .fields #[.ref l, .int 0 0] }).get? b = some o → h'.get? b = some o) :
    ∀ b o, s.heap.get? b = some o → h'.get? b = some o := fun b o e => by
  refine hk b o (fun hm => ?_) (Heap.get?_push_of_some _ e)
  rcases List.mem_cons.mp hm with e1 | hm
  · exact absurd (e1 ▸ Heap.lt_size e) (Nat.lt_irrefl _)
  · cases hm
theorem maxT_raw (hh : A.handled = none) (hl : s.heap.IsTuple l its.toArray) (hi : IntsAre its ns) (hne : 0 < ns.length)
    (h : ∀ h' tk M t', (∀ b o, s.heap.get? b = some o → h'.get? b = some o) → M ∈ ns → (∀ a, a ∈ ns → a ≤ M) → Q (.int M t') { s with heap := h', toks := tk }) : wpAny (model prog w) A (call (.builtin "max") [.ref l]) Q E s := by
  obtain ⟨xs, e⟩ := hi.allInts.items
  have hn : numsOf (intItems xs).toList = ns := by rw [← e]; exact hi.numsOf
  rw [nums_intItems] at hn
  subst hn
  rw [e] at hl
  have hsz : 0 < xs.size := by simpa using hne
  refine call_max_walk (iter_tup hl fun s₂ e st hfp hlI => ?_)
  subst e
  refine ⟨_, _, _, _, _, _, _, rfl, Walks.tuple (A := A.in1) hh _ l hlI (intItems xs), st, hfp, by simpa [intItems] using hsz, CmpOf.ints_gt (numAt xs) (fun _ _ => intItems_at), fun v h' tk hP hk => ?_⟩
  have hv : (intItems xs)[argBest (fun i j => decide (numAt xs i > numAt xs j)) (xs.size - 1)]? = some v := by simpa [intItems] using hP
  obtain ⟨t, rfl⟩ := intItems_at hv
  obtain ⟨h1, h2⟩ := argBest_gt (numAt xs) (xs.size - 1)
  refine h h' tk _ t (old_keptT hk) ?_ fun a ha => ?_
  · rw [numAt_eq]; exact PySem.getD_mem (by rw [List.length_map, Array.length_toList]; omega)
  · obtain ⟨j, hj, rfl⟩ := mem_getD ha
    rw [List.length_map, Array.length_toList] at hj
    rw [← numAt_eq]; exact h2 j (by omega)
theorem minT_raw (hh : A.handled = none) (hl : s.heap.IsTuple l its.toArray) (hi : IntsAre its ns) (hne : 0 < ns.length)
    (h : ∀ h' tk M t', (∀ b o, s.heap.get? b = some o → h'.get? b = some o) → M ∈ ns → (∀ a, a ∈ ns → M ≤ a) → Q (.int M t') { s with heap := h', toks := tk }) : wpAny (model prog w) A (call (.builtin "min") [.ref l]) Q E s := by
  obtain ⟨xs, e⟩ := hi.allInts.items
  have hn : numsOf (intItems xs).toList = ns := by rw [← e]; exact hi.numsOf
  rw [nums_intItems] at hn
  subst hn
  rw [e] at hl
  have hsz : 0 < xs.size := by simpa using hne
  refine call_min_walk (iter_tup hl fun s₂ e st hfp hlI => ?_)
  subst e
  refine ⟨_, _, _, _, _, _, _, rfl, Walks.tuple (A := A.in1) hh _ l hlI (intItems xs), st, hfp, by simpa [intItems] using hsz, CmpOf.ints_lt (numAt xs) (fun _ _ => intItems_at), fun v h' tk hP hk => ?_⟩
  have hv : (intItems xs)[argBest (fun i j => decide (numAt xs i < numAt xs j)) (xs.size - 1)]? = some v := by simpa [intItems] using hP
  obtain ⟨t, rfl⟩ := intItems_at hv
  obtain ⟨h1, h2⟩ := argBest_lt (numAt xs) (xs.size - 1)
  refine h h' tk _ t (old_keptT hk) ?_ fun a ha => ?_
  · rw [numAt_eq]; exact PySem.getD_mem (by rw [List.length_map, Array.length_toList]; omega)
  · obtain ⟨j, hj, rfl⟩ := mem_getD ha
    rw [List.length_map, Array.length_toList] at hj
    rw [← numAt_eq]; exact h2 j (by omega)
theorem sumT_raw (hh : A.handled = none) (hl : s.heap.IsTuple l its.toArray) (hi : IntsAre its ns)
    (h : ∀ h' tk t', (∀ b o, s.heap.get? b = some o → h'.get? b = some o) → Q (.int ns.sum t') { s with heap := h', toks := tk }) : wpAny (model prog w) A (call (.builtin "sum") [.ref l]) Q E s := by
  obtain ⟨xs, e⟩ := hi.allInts.items
  have hn : numsOf (intItems xs).toList = ns := by rw [← e]; exact hi.numsOf
  rw [nums_intItems] at hn
  rw [e] at hl
  refine call_sum_walkG (iter_tup hl fun s₂ e st hfp hlI => ?_)
  subst e
  refine ⟨_, _, _, _, _, _, numAt xs, rfl, Walks.tuple (A := A.in1) hh _ l hlI (intItems xs), st, hfp, (fun _ _ => intItems_at), fun h' tk t' hk => ?_⟩
  have h3 := h h' tk t' (old_keptT hk)
  have e2 : preSum (numAt xs) (intItems xs).size = ns.sum := by
    have e3 : (intItems xs).size = xs.size := by simp [intItems]
    rw [e3, preSum_eq, List.take_of_length_le (by simp), hn]
  rw [e2]
  exact h3
end
section
variable {X : Cx} {a b e : Expr} {es : List Expr} {ga : FA} {p pos : Pos}
def rMaxT (K : PySem.W.Frag) : List V → Hp → VK → Prop := fun vs H Q => ∃ (a : Addr) (ns : List Int), vs = [V.ref a] ∧ SqT K H a (ns.map V.int) ∧ 0 < ns.length ∧ ∀ m, m ∈ ns → (∀ y, y ∈ ns → y ≤ m) → Q (.int m) H
def rMinT (K : PySem.W.Frag) : List V → Hp → VK → Prop := fun vs H Q => ∃ (a : Addr) (ns : List Int), vs = [V.ref a] ∧ SqT K H a (ns.map V.int) ∧ 0 < ns.length ∧ ∀ m, m ∈ ns → (∀ y, y ∈ ns → m ≤ y) → Q (.int m) H
def rSumT (K : PySem.W.Frag) : List V → Hp → VK → Prop := fun vs H Q => ∃ (a : Addr) (ns : List Int), vs = [V.ref a] ∧ SqT K H a (ns.map V.int) ∧ Q (.int ns.sum) H
theorem cr_maxT (hc : X.calm = true) : CallR X (.builtin "max") (rMaxT X.K) := by
  intro pins s σ H vs us Q I r h
  obtain ⟨a, ns, rfl, hs, hne, q⟩ := h
  obtain ⟨its, rv, hl, _⟩ := I.tuple hs
  rw [Vals.ref1 r]
  exact maxT_raw (I.ok.hd hc) hl rv.ints hne fun h' tk m t' hk h1 h2 => ⟨.int _, H, I.kept hk, ⟨_, rfl⟩, q m h1 h2⟩
theorem cr_minT (hc : X.calm = true) : CallR X (.builtin "min") (rMinT X.K) := by
  intro pins s σ H vs us Q I r h
  obtain ⟨a, ns, rfl, hs, hne, q⟩ := h
  obtain ⟨its, rv, hl, _⟩ := I.tuple hs
  rw [Vals.ref1 r]
  exact minT_raw (I.ok.hd hc) hl rv.ints hne fun h' tk m t' hk h1 h2 => ⟨.int _, H, I.kept hk, ⟨_, rfl⟩, q m h1 h2⟩
theorem cr_sumT (hc : X.calm = true) : CallR X (.builtin "sum") (rSumT X.K) := by
  intro pins s σ H vs us Q I r h
  obtain ⟨a, ns, rfl, hs, q⟩ := h
  obtain ⟨its, rv, hl, _⟩ := I.tuple hs
  rw [Vals.ref1 r]
  exact sumT_raw (I.ok.hd hc) hl rv.ints fun h' tk t' hk => ⟨.int _, H, I.kept hk, ⟨_, rfl⟩, q⟩
def qMaxT : List D → Option D
  | [.tuple ds] => match intsD ds with
    | some (m :: r) => some (.int (mxL m r))
    | _ => none
  | _ => none
def qMinT : List D → Option D
  | [.tuple ds] => match intsD ds with
    | some (m :: r) => some (.int (mnL m r))
    | _ => none
  | _ => none
def qSumT : List D → Option D
  | [.tuple ds] => match intsD ds with
    | some ns => some (.int ns.sum)
    | none => none
  | _ => none
theorem on_maxT : OpN X.K (rMaxT X.K) qMaxT := fun O H xs ds d Q hd r hg q => by
  unfold qMaxT at hg
  split at hg
  · split at hg
    · rename_i m s h2
      cases hg
      obtain ⟨v, rfl, rv⟩ := rbl1 r
      obtain ⟨p, xs, rfl, hp, rp⟩ := rb_tup rv
      rw [rl_ints rp h2] at hp
      refine ⟨p, m :: s, rfl, hp, Nat.succ_pos _, fun k hk hy => ?_⟩
      have sp := mxL_spec s m
      have h1 : k ≤ mxL m s := by
        rcases List.mem_cons.mp hk with z | z
        · rw [z]; exact sp.2.1
        · exact sp.2.2 k z
      have h2 : mxL m s ≤ k := by
        rcases sp.1 with z | z
        · rw [z]; exact hy m List.mem_cons_self
        · exact hy _ (List.mem_cons_of_mem _ z)
      rw [Int.le_antisymm h1 h2]
      exact q _ H (Xt.refl H) (.int _)
    · cases hg
  · cases hg
theorem on_minT : OpN X.K (rMinT X.K) qMinT := fun O H xs ds d Q hd r hg q => by
  unfold qMinT at hg
  split at hg
  · split at hg
    · rename_i m s h2
      cases hg
      obtain ⟨v, rfl, rv⟩ := rbl1 r
      obtain ⟨p, xs, rfl, hp, rp⟩ := rb_tup rv
      rw [rl_ints rp h2] at hp
      refine ⟨p, m :: s, rfl, hp, Nat.succ_pos _, fun k hk hy => ?_⟩
      have sp := mnL_spec s m
      have h1 : mnL m s ≤ k := by
        rcases List.mem_cons.mp hk with z | z
        · rw [z]; exact sp.2.1
        · exact sp.2.2 k z
      have h2 : k ≤ mnL m s := by
        rcases sp.1 with z | z
        · rw [z]; exact hy m List.mem_cons_self
        · exact hy _ (List.mem_cons_of_mem _ z)
      rw [Int.le_antisymm h2 h1]
      exact q _ H (Xt.refl H) (.int _)
    · cases hg
  · cases hg
theorem on_sumT : OpN X.K (rSumT X.K) qSumT := fun O H xs ds d Q hd r hg q => by
  unfold qSumT at hg
  split at hg
  · split at hg
    · rename_i ns h2
      cases hg
      obtain ⟨v, rfl, rv⟩ := rbl1 r
      obtain ⟨p, xs, rfl, hp, rp⟩ := rb_tup rv
      rw [rl_ints rp h2] at hp
      exact ⟨p, ns, rfl, hp, q _ H (Xt.refl H) (.int _)⟩
    · cases hg
  · cases hg
theorem OpN.or {K : PySem.W.Frag} {r r' : List V → Hp → VK → Prop} {g g' : List D → Option D} (h : OpN K r g) (h' : OpN K r' g') : OpN K (fun xs H Q => r xs H Q ∨ r' xs H Q) (fun ds => (g ds).or (g' ds)) := fun O H xs ds d Q hd rr hg q => by
  have hg : (g ds).or (g' ds) = some d := hg
  cases e : g ds with
  | some z =>
    rw [e] at hg
    have hg : some z = some d := hg
    cases hg
    exact .inl (h O H xs ds d Q hd rr e q)
  | none =>
    rw [e] at hg
    exact .inr (h' O H xs ds d Q hd rr hg q)
def qMaxA (ds : List D) : Option D := (qMax ds).or (qMaxT ds)
def qMinA (ds : List D) : Option D := (qMin ds).or (qMinT ds)
theorem se_maxA (hc : X.calm = true) (hm : X.mg "max" = none) (ha : SAB X (e :: es) ga) (hg : Gl X "max" := by rfl) (he : starEach (e :: es) X.env = (false, eval e X.env) :: starEach es X.env := by rfl) (hpl : (backTo pos (starEach es X.env)).any (·.1) = false := by rfl) : SE X (.Call (.Name "max" p) (e :: es) [] pos) (eCall qMaxA ga) :=
  se_callB (((call_max2 hc).or (cr_max hc)).or (cr_maxT hc)) (on_max.or on_maxT) hm ha (by decide +kernel) hg (by decide) (by decide) he hpl
theorem se_minA (hc : X.calm = true) (hm : X.mg "min" = none) (ha : SAB X (e :: es) ga) (hg : Gl X "min" := by rfl) (he : starEach (e :: es) X.env = (false, eval e X.env) :: starEach es X.env := by rfl) (hpl : (backTo pos (starEach es X.env)).any (·.1) = false := by rfl) : SE X (.Call (.Name "min" p) (e :: es) [] pos) (eCall qMinA ga) :=
  se_callB (((call_min2 hc).or (cr_min hc)).or (cr_minT hc)) (on_min.or on_minT) hm ha (by decide +kernel) hg (by decide) (by decide) he hpl
end

/-! ### a token is out -/
theorem tokAny {α : Type} {M : Model} {A : Around} {E : Value → Shared → Prop} {s : Shared} {t : Sem α} {Q : α → Shared → Prop} {n : Nat} (hn : n ≤ s.toks) (h : wpAny M A t Q E s) : wpAny M A t (fun a s' => n ≤ s'.toks ∧ Q a s') E s :=
  wpAny_mono (wpAny_toks_of hn h) (fun _ _ x => x) fun _ _ x => x.2
section
variable {X : Cx} {a b c e o : Expr} {es : List Expr} {fa fb : FE} {f g : FT} {ga : FA} {x : Str} {p pos cpos apos : Pos}
structure SEt (X : Cx) (e : Expr) (f : FE) : Prop where
  pe : PET X e (rdE X.K f)
structure SSt (X : Cx) (st : Stmt) (f : FS) : Prop where
  ps : PST X st (rdS X.K f)
structure SSsT (X : Cx) (sts : List Stmt) (f : FS) : Prop where
  ps : PSsT X sts (rdS X.K f)
/-- a test that puts a token out -/
structure STk (X : Cx) (e : Expr) (f : FT) : Prop where
  run : ∀ (pins : List (Addr × Obj)) (s : Shared) (σ : L2.St) (H : Hp) (Q : Bool → Hp → Prop), Inv X pins σ H s → rdT X.K f σ H Q → wpAny (model X.prog X.w) X.A (isTrue e X.env (eval e X.env)) (fun b s' => 1 ≤ s'.toks ∧ TP X pins σ Q b s') X.xe s
/-- .. that wants one -/
structure STt (X : Cx) (e : Expr) (f : FT) : Prop where
  run : ∀ (pins : List (Addr × Obj)) (s : Shared) (σ : L2.St) (H : Hp) (Q : Bool → Hp → Prop), 1 ≤ s.toks → Inv X pins σ H s → rdT X.K f σ H Q → wpAny (model X.prog X.w) X.A (isTrue e X.env (eval e X.env)) (TP X pins σ Q) X.xe s
theorem tk_cmp {op : CmpOp} {r : R2} {g : D → D → Option D} {i : Int} {j : Nat} {cp : Pos} (ho : OpR X (compareOp op) r) (hg : Op2 X.K r g) (ha : SB X a fa) (hm : behindInMarks op (.Constant (.int i) j cp) = false := by first | exact nobehind _ (by decide) (by decide) | rfl) :
    STk X (.Compare a [op] [.Constant (.int i) j cp] pos) (tBool (e2 g fa (eC (.int i)))) := ⟨fun pins s σ H Q I h => by
  have h' := tOp_of (fb := eC (.int i)) hg σ H _ (rdT_bool h)
  obtain ⟨G, B, O, τ, ρ, T, d, T', E, hf, q⟩ := rdT_bool h
  obtain ⟨dx, T1, dy, h1, h2, h3⟩ := e2_some hf
  cases h2
  refine wpAny_isTrue_Compare1 (thn (ha.pe.run pins s σ H (fun x H1 => Xt (tS τ) H H1 ∧ TpOk O τ H1 T' ∧ RepBT X.K O τ H1 x dx) I ⟨G, B, O, τ, ρ, T, dx, T', E, h1, fun v H' x t r => ⟨x, t, r⟩⟩) fun v s1 ⟨x, H1, I1, rx, x1, t1, r1⟩ => ?_) hm
  refine wpAny_Constant_int ?_
  refine thn (tokAny (n := 1) (by show 1 ≤ s1.toks + 1; omega) (ho pins { s1 with toks := s1.toks + 1 } σ H1 x (.int i) v _ _ (I1.tok _) rx ⟨_, rfl⟩ (hg O H1 x (.int i) dx _ d _ (E.step x1 t1).dom r1.b (.inl (.int i)) h3 fun w H2 x2 r2 => q w H2 (x1.tr (x2.mono fun _ z => z.elim)) (t1.gr x2) r2))) fun w s2 ⟨hk, z, H2, I2, rz, k, ez, qz⟩ => ?_
  subst ez
  cases rz
  exact wpAny_truthy_bool ⟨hk, H2, I2, qz⟩⟩
theorem st_andK (ha : STk X a f) (hb : STt X b g) : ST X (.BoolOp .And [a, b] pos) (tAndF f g) := ⟨⟨fun pins s σ H Q I h => by
  have h' := rd_and h
  refine isTrue_and (thn (ha.run pins s σ H _ I h') fun c s1 ⟨hk, H1, I1, q1⟩ => ?_)
  cases c with
  | true =>
    refine isTrue_and (thn (hb.run pins s1 σ H1 _ hk I1 q1) fun c s2 e => ?_)
    cases c with
    | true => exact isTrue_and_nil e
    | false => exact e
  | false => exact ⟨H1, I1, q1⟩⟩⟩
theorem stt_cmp {op : CmpOp} {r : R2} {g : D → D → Option D} (ho : OpR X (compareOp op) r) (hg : Op2 X.K r g) (ha : SEt X a fa) (hb : SB X b fb) (hm : behindInMarks op b = false := by first | exact nobehind _ (by decide) (by decide) | rfl) :
    STt X (.Compare a [op] [b] pos) (tBool (e2 g fa fb)) := ⟨fun pins s σ H Q h0 I h => by
  obtain ⟨G, B, O, τ, ρ, T, d, T', E, hf, q⟩ := rdT_bool h
  obtain ⟨dx, T1, dy, h1, h2, h3⟩ := e2_some hf
  refine wpAny_isTrue_Compare1 (thn (ha.pe pins s σ H (fun x H1 => Xt (tS τ) H H1 ∧ TpOk O τ H1 T1 ∧ Rep X.K O H1 x dx) h0 I ⟨G, B, O, τ, ρ, T, dx, T1, E, h1, fun v H' x t r => ⟨x, t, r⟩⟩) fun v s1 ⟨x, H1, I1, rx, x1, t1, r1⟩ => ?_) hm
  have E1 := E.step x1 t1
  refine thn (hb.pe.run pins s1 σ H1 (fun y H2 => Xt (tS τ) H1 H2 ∧ TpOk O τ H2 T' ∧ RepBT X.K O τ H2 y dy) I1 ⟨G, B, O, τ, ρ, T1, dy, T', E1, h2, fun v H' x t r => ⟨x, t, r⟩⟩) fun u s2 ⟨y, H2, I2, ry, x2, t2, r2⟩ => ?_
  refine thn (ho pins s2 σ H2 x y v u _ I2 rx ry (hg O H2 x y dx dy d _ (E1.step x2 t2).dom (.inl (r1.step E1 x2)) r2.b h3 fun w H3 x3 r3 => q w H3 ((x1.tr x2).tr (x3.mono fun _ z => z.elim)) (t2.gr x3) r3)) fun w s3 ⟨z, H3, I3, rz, k, ez, qz⟩ => ?_
  subst ez
  cases rz
  exact wpAny_truthy_bool ⟨H3, I3, qz⟩⟩
/-- a def that wants a token -/
structure FnOkT (P : Program) (w : World) (K : PySem.W.Frag) (mg : Str → Option Value) (base : Heap) (CX : CXT) (k : Nat) (f : Addr) (fd : FuncData) (ps : List Str) (sp : Sp) : Prop where
  len : ∀ vs H Q E, sp vs H Q E → vs.length = ps.length
  run : ∀ (A : Around) (outer : List Env) (s : Shared) (H : Hp) (args : Args) (us : List Value) (vs : List V) (Q : VK) (E : XK), 1 ≤ s.toks → Room k A → Env0 P w K mg base A outer s H → BindsTo s fd args (ps.zip us) → Vals vs us → sp vs H Q E →
    codeAny (model P w) A (.call (.ref f) args) (CR CX outer P w H s Q E) s
theorem fnT_of {CX : CXT} {P : Program} {w : World} {K : PySem.W.Frag} {mg : Str → Option Value} {base : Heap} {k : Nat} {f : Addr} {name qual : Str} {params : Arguments} {body : List Stmt} {scope : Scope} {dV kV doc pm cdv ct oc : Value} {an od : Option Addr}
    {osl : Array (Option Value)} {N ps : List Str} {sp : Sp} (lk : K.lookup f = some ⟨oc, od, .func (PySem.W.fnOf name qual params body scope dV kV doc pm an cdv ct), osl⟩) (hcd : PySem.W.codeIn K cdv qual = true) (S : FnScope N ps scope)
    (len : ∀ vs H Q E, sp vs H Q E → vs.length = ps.length)
    (hbody : ∀ (A : Around) (outer : List Env) (s : Shared) (H : Hp) (vs : List V) (Q : VK) (E : XK), Room k (A.deeper (envOfC qual scope s.heap.objs.size f cdv)) → sp vs H Q E →
      ∃ t, PSsT (cxOf CX P w K mg base N qual scope f cdv A outer s H E) body t ∧ t { nx := fun _ H' => Q .non H', rt := Q } (start N vs) H) :
    FnOkT P w K mg base CX (k + 1) f (PySem.W.fnOf name qual params body scope dV kV doc pm an cdv ct) ps sp := by
  refine ⟨len, fun A outer s H args us vs Q E h0 hr e0 hb r hsp => ?_⟩
  have hl := len _ _ _ _ hsp
  have KX : K.In s.heap := e0.mod.kin.keeps fun b o e => (e0.bs b o e).1
  have lim : s.heap.NoLimit := e0.mod.nolimit.keeps fun b o e => (e0.bs b o e).1
  have hkind : ∀ y ∈ ps.zip us, scope.names.lookup y.1 = some .local ∨ (scope.names.lookup y.1 = some .cell ∧ ((cellsFrom (s.heap.objs.size + 1) scope.names []).lookup y.1).isSome = true) := fun ⟨n, v⟩ hy => by
    rcases S.par n (List.of_mem_zip hy).1 with q | q
    · exact .inl q
    · exact .inr ⟨q, PySem.W.cellsFrom_some _ _ _ (.inl q)⟩
  refine codeAny_call_function hr.depth (KX _ _ lk) rfl S.co S.gen rfl (PySem.W.codeRec_of KX hcd) (hb _ _ _ _ ?_)
  refine wpAny_with_toks h0 (wpAny_newFunctionEnv_cells S.kind hkind fun env he s1 x h1 => ?_)
  subst he
  refine ⟨lim.keeps x.toInCall.keep, codeAny_func ?_⟩
  obtain ⟨t, ht, hq⟩ := hbody A outer s H vs Q E (hr.deeper _) hsp
  have I : Inv (cxOf CX P w K mg base N qual scope f cdv A outer s H E) [] (start N vs) H s1 := inv_start S hr.hd e0 hl r x
  refine wpAny_mono (ht [] s1 (start N vs) H _ h1 I hq) (fun fl s' hs => ?_) fun e s' hs => hs
  have fin : ∀ {σ' : L2.St} {H' : Hp} {v : V} {u : Value}, Inv (cxOf CX P w K mg base N qual scope f cdv A outer s H E) [] σ' H' s' → RelV v u → Q v H' → CE outer P w H s Q u s' :=
    fun {σ' H' v u} J rv q => ⟨v, H', J.os, J.bare, J.base, J.hok, rv, q⟩
  cases fl with
  | ret u =>
    obtain ⟨v, σ', H', J, rv, q⟩ := hs
    exact fin J rv q
  | next =>
    obtain ⟨σ', H', J, q⟩ := hs
    exact fin (v := V.non) (u := Value.none) J rfl q
  | brk =>
    obtain ⟨_, _, _, q⟩ := hs
    exact False.elim q
  | cont =>
    obtain ⟨_, _, _, q⟩ := hs
    exact False.elim q
theorem sst_of {st : Stmt} {f : FS} (h : SS X st f) : SSt X st f := ⟨PST.of h.ps⟩
theorem ssst_of {sts : List Stmt} {f : FS} (h : SSs X sts f) : SSsT X sts f := ⟨PSsT.of h.ps⟩
theorem PSsT.imp {sts : List Stmt} {t u : TS} (h : PSsT X sts t) (w : ∀ D σ H, u D σ H → t D σ H) : PSsT X sts u := fun pins s σ H D h0 I q => h pins s σ H D h0 I (w D σ H q)
theorem ssst_cons {st : Stmt} {rest : List Stmt} {f g : FS} (h1 : SSt X st f) (h2 : SSsT X rest g) : SSsT X (st :: rest) (sSeq f g) := ⟨PSsT.imp (psst_cons h1.ps h2.ps) fun D σ H ⟨G, B, O, τ, ρ, T, fl, T', E, hf, q⟩ => by
  unfold sSeq at hf
  split at hf
  · cases hf
  · rename_i ρ1 T1 h
    exact ⟨G, B, O, τ, ρ, T, _, T1, E, h, fun σ' H' O' a E' => ⟨G, B, O', τ, ρ1, T1, fl, T', E', hf, q.go a⟩⟩
  · rename_i fl1 T1 hn h
    cases hf
    refine ⟨G, B, O, τ, ρ, T, _, _, E, h, ?_⟩
    cases fl with
    | nx r => exact absurd rfl (hn r)
    | _ => exact q⟩
theorem sst_set {i : Nat} {pos' : Pos} (hN : X.N.Nodup) (he : SEt X e fa) (hi : X.N[i]? = some x := by rfl) (hx : Loc X.env.scope x := by first | exact Or.inl rfl | exact Or.inr rfl) (hs : swapsWith e (some (.Name x pos')) pos.line X.env = pure false := by rfl) (hf : X.fn x = true ∨ X.env.scope.names.lookup x = some .local := by first | exact .inl rfl | exact .inr rfl | assumption) :
    SSt X (.Assign [.Name x pos'] e pos) (sSet i fa) := ⟨fun pins s σ H D h0 I h => by
  refine wpAny_Assign_Name (thn (he.pe pins s σ H _ h0 I (tAsg_set h)) fun v s1 ⟨y, H1, I1, r1, q1⟩ => ?_) hs
  exact store_ok I1 hN hi hx r1 (fun s2 I2 => ⟨_, H1, I2, q1⟩) hf⟩
def eRpl (y z : Str) (fa : FE) : FE := fun ρ T => match fa ρ T with
  | some (.str x, T1) => if (x.length + (x.length + 1) * z.length).ble 16777216 then some (.str (S (PySem.StrLaws.replL (cps y) (cps z) (cps x))), T1) else none
  | _ => none
theorem set_repl {y z : Str} {j k : Nat} {c0 c1 : Pos} (ha : SE X a fa) (hy : 1 ≤ y.length := by decide) (hyz : (y == z) = false := by decide)
    (hst : starEach [.Constant (.str y) j c0, .Constant (.str z) k c1] X.env = [(false, eval (.Constant (.str y) j c0) X.env), (false, eval (.Constant (.str z) k c1) X.env)] := by rfl)
    (hbase : attributeBase a "replace" X.env (eval a X.env) = eval a X.env := by rfl) (hline : (apos.endLine == pos.line) = true := by rfl) :
    SEt X (.Call (.Attribute a "replace" apos) [.Constant (.str y) j c0, .Constant (.str z) k c1] [] pos) (eRpl y z fa) := ⟨fun pins s σ H Q h0 I ⟨G, B, O, τ, ρ, T, d, T', E, hf, q⟩ => by
  unfold eRpl at hf
  split at hf
  case h_2 => cases hf
  rename_i x T1 h1
  split at hf
  case isFalse => cases hf
  rename_i hb
  cases hf
  refine CwR.pet_replC ha.pe hyz hst hbase hline pins s σ H Q h0 I ⟨G, B, O, τ, ρ, T, _, T', E, h1, fun v H1 x1 t1 r1 => ?_⟩
  cases r1
  refine ⟨x, rfl, Nat.le_of_ble_eq_true hb, ?_⟩
  have e : Txt.replace x y z = S (PySem.StrLaws.replL (cps y) (cps z) (cps x)) := by
    rw [← S_cps (Txt.replace x y z)]
    exact congrArg S (PySem.StrLaws.replace_list hy)
  rw [e]
  exact q _ H1 x1 t1 (.str _)⟩
end
section
variable {P : Program} {w : World} {K : PySem.W.Frag} {mg : Str → Option Value} {base : Heap}
theorem fnT_p {x qual : Str} {st : Stmt} {f : Addr} {fd : FuncData} {N ps : List Str} {k : Nat} {b : FS} (F : Fun K x qual st f fd) (S : FnScope N ps (defScope st)) (hl : ps.length ≤ N.length)
    (hb : ∀ (cdv : Value) (A : Around) (outer : List Env) (s : Shared) (H : Hp) (E : XK), Room k (A.deeper (envOfC qual (defScope st) s.heap.objs.size f cdv)) →
      SSsT (cxOf CX0 P w K mg base N qual (defScope st) f cdv A outer s H E) (defBody st) b) : FnOkT P w K mg base CX0 (k + 1) f fd ps (spP K ps.length (bodyP N.length b)) := by
  obtain ⟨oc, od, kV, doc, pm, an, cdv, ct, osl, rfl, lk, hcd⟩ := F.ex
  refine fnT_of lk hcd S (fun vs H Q E h => ?_) (fun A outer s H vs Q E hr h => ?_)
  · obtain ⟨O, ds, d, _, r, e, _⟩ := h
    rw [r.length, e]
  · obtain ⟨O, ds, d, hO, r, e, hf, q⟩ := h
    refine ⟨_, (hb cdv A outer s H E hr).ps, ?_⟩
    unfold bodyP at hf
    have E0 : Sta K H O O none (L2.start N vs) H (frame N.length (ds.map .fr)) T0 := sta_startP hO r (by omega)
    split at hf
    · rename_i d1 T1 h1
      cases hf
      exact ⟨H, O, O, none, _, T0, .rt d, T1, E0, h1, fun v H' _ x rv => q v H' (x.mono fun _ z => by cases z) rv⟩
    · rename_i ρ1 T1 h1
      cases hf
      exact ⟨H, O, O, none, _, T0, .nx ρ1, T1, E0, h1, fun σ' H' O' _ E' => q .non H' (E'.gk.mono fun _ z => by cases z) .non⟩
    · cases hf
end
section
variable {X : Cx} {k n : Nat} {f : Addr} {fd : FuncData} {ps : List Str} {x : Str} {p pos : Pos} {e : Expr} {es : List Expr} {fa : FA}
theorem set_call {g : List D → Option D} (F : FnOkT X.prog X.w X.K X.mg X.base CX0 k f fd ps (spP X.K n g)) (hr : Room k X.A) (hm : X.mg x = some (.ref f)) (hk : PySem.W.keepIn X.K (.ref f) = true) (hb : Binds X.K fd ps [])
    (ha : SA X (e :: es) fa) (hg : Gl X x := by rfl) (hdb : (x == ("__debug__" : Str)) = false := by decide) (he : starEach (e :: es) X.env = (false, eval e X.env) :: starEach es X.env := by rfl) (hpl : (backTo pos (starEach es X.env)).any (·.1) = false := by rfl) :
    SEt X (.Call (.Name x p) (e :: es) [] pos) (eCall (argc n g) fa) := ⟨fun pins s σ H Q h0 I h => by
  refine wpAny_Call_Name_kw (ld_glob I hg hm ?_ hdb)
  refine PySem.W.callWith_K (h₀ := X.base) I.ok.mod.kin hk (thn (tokAny h0 (ha.pe.run pos pins s σ H _ I (tCall_of (E := E0) argc_len h))) fun us s1 ⟨h1, vs, H1, I1, r, q⟩ => ⟨I1.kIn, ?_⟩) he hpl
  obtain ⟨O, ds, d, a1, a2, a3, a4, a5⟩ := q
  have hl : us.length = ps.length := by
    rw [← r.length]
    exact F.len vs H1 Q E0 (by rw [List.append_nil] at a2; exact ⟨O, ds, d, a1, a2, a3, argc_f a4, a5⟩)
  rw [List.append_nil] at a2
  refine wpAny_call (codeAny_mono (F.run X.A X.stack s1 H1 ⟨us, []⟩ us vs Q E0 h1 hr I1.env0 (by have := hb s1 us I1.kIn (by rw [List.append_nil]; exact hl); rw [List.append_nil] at this; exact this) r ⟨O, ds, d, a1, a2, a3, argc_f a4, a5⟩) fun r s' hq => ?_)
  cases r with
  | error e => exact pass0 pins σ H1 s1 e s' I1 hq
  | ok fl =>
    cases fl with
    | ret u => exact I1.after hq
    | next => exact False.elim hq
    | brk => exact False.elim hq
    | cont => exact False.elim hq⟩
end
end Dv

/-! Dv21: the tape. -/
namespace Dv
open PySem PySem.Spec PyProof.Rows L2

def tapeKV (c : Addr) (T : Tp) : List (Key × V) := [(.inr "cells", .ref c), (.inr "at", .int T.idx), (.inr "left", .int T.left), (.inr "seed", .int T.seed), (.inr "salt", .int T.salt)]
theorem tapeHO_eq (c : Addr) (T : Tp) : tapeHO c T = .dK (tapeKV c T) := rfl
/-- a key and what is read there -/
structure TKey (key : Str) (rd : Tp → D) : Prop where
  at' : ∀ (K : PySem.W.Frag) (O : OS) (H : Hp) (c : Addr) (T : Tp), ¬ O c → H c = some (.lst (T.cells.map V.int)) → ∃ v, valV (tapeKV c T) (.inr key) = some v ∧ Rep K O H v (rd T)
theorem key_ne {a b : Str} (h : cps a ≠ cps b) : ¬ (Sum.inr a : Key) = Sum.inr b := fun e => h (by cases e; rfl)
theorem tk_cells : TKey "cells" (fun T => .list (T.cells.map .int)) := ⟨fun K O H c T n e => ⟨_, valV_pos rfl, .lst n e (rl_ofInts _)⟩⟩
theorem tk_at : TKey "at" (fun T => .int T.idx) := ⟨fun K O H c T n e => ⟨_, (valV_neg (key_ne (by decide))).trans (valV_pos rfl), .int _⟩⟩
theorem tk_left : TKey "left" (fun T => .int T.left) := ⟨fun K O H c T n e => ⟨_, (valV_neg (key_ne (by decide))).trans ((valV_neg (key_ne (by decide))).trans (valV_pos rfl)), .int _⟩⟩
theorem tk_seed : TKey "seed" (fun T => .int T.seed) := ⟨fun K O H c T n e => ⟨_, (valV_neg (key_ne (by decide))).trans ((valV_neg (key_ne (by decide))).trans ((valV_neg (key_ne (by decide))).trans (valV_pos rfl))), .int _⟩⟩
theorem tk_salt : TKey "salt" (fun T => .int T.salt) := ⟨fun K O H c T n e => ⟨_, (valV_neg (key_ne (by decide))).trans ((valV_neg (key_ne (by decide))).trans ((valV_neg (key_ne (by decide))).trans ((valV_neg (key_ne (by decide))).trans (valV_pos rfl)))), .int _⟩⟩
def eTget (i : Nat) (rd : Tp → D) : FE := fun ρ T => match ρ[i]? with
  | some .tp => some (rd T, T)
  | _ => none
structure TUp (key : Str) (up : Int → Tp → Tp) : Prop where
  put : ∀ (c : Addr) (T : Tp) (x : Int), putK (tapeKV c T) (.inr key) (.int x) = tapeKV c (up x T)
  cells : ∀ (T : Tp) (x : Int), (up x T).cells = T.cells
theorem putK_map {kvs : List (Key × V)} {k : Key} {v : V} (h : (kvs.any fun kv => decide (kv.1 = k)) = true) : putK kvs k v = kvs.map fun kv => if kv.1 = k then (kv.1, v) else kv := by
  unfold putK
  rw [if_pos h]
theorem tu_left : TUp "left" (fun x T => { T with left := x }) := ⟨fun c T x => by
  rw [putK_map (by simp [tapeKV])]
  simp only [tapeKV, List.map_cons, List.map_nil, if_neg (key_ne (show cps "cells" ≠ cps "left" by decide)), if_neg (key_ne (show cps "at" ≠ cps "left" by decide)), if_neg (key_ne (show cps "seed" ≠ cps "left" by decide)), if_neg (key_ne (show cps "salt" ≠ cps "left" by decide)), if_true], fun _ _ => rfl⟩
theorem tu_at : TUp "at" (fun x T => { T with idx := x }) := ⟨fun c T x => by
  rw [putK_map (by simp [tapeKV])]
  simp only [tapeKV, List.map_cons, List.map_nil, if_neg (key_ne (show cps "cells" ≠ cps "at" by decide)), if_neg (key_ne (show cps "left" ≠ cps "at" by decide)), if_neg (key_ne (show cps "seed" ≠ cps "at" by decide)), if_neg (key_ne (show cps "salt" ≠ cps "at" by decide)), if_true], fun _ _ => rfl⟩
theorem tu_salt : TUp "salt" (fun x T => { T with salt := x }) := ⟨fun c T x => by
  rw [putK_map (by simp [tapeKV])]
  simp only [tapeKV, List.map_cons, List.map_nil, if_neg (key_ne (show cps "cells" ≠ cps "salt" by decide)), if_neg (key_ne (show cps "left" ≠ cps "salt" by decide)), if_neg (key_ne (show cps "seed" ≠ cps "salt" by decide)), if_neg (key_ne (show cps "at" ≠ cps "salt" by decide)), if_true], fun _ _ => rfl⟩
def sTset (i : Nat) (up : Int → Tp → Tp) (f : FE) : FS := fun ρ T => match f ρ T with
  | some (.int x, T1) => match ρ[i]? with
    | some .tp => some (.nx ρ, up x T1)
    | _ => none
  | _ => none
section
variable {X : Cx} {e : Expr} {fe : FE} {pos pos' px cp : Pos} {x key : Str} {j : Nat} {rd : Tp → D} {up : Int → Tp → Tp} {k : Nat}
theorem se_tget (i : Nat) (hr : Room k X.A) (h : TKey key rd) (hN : X.N[i]? = some x := by rfl) (hv : Vis X.env.scope x := by first | exact Or.inl rfl | exact Or.inr (Or.inl rfl) | exact Or.inr (Or.inr rfl)) (hd : (x == ("__debug__" : Str)) = false := by decide) (hcd : (x == ("__classdict__" : Str)) = false := by decide)
    (hs : NoSl (.Constant (.str key) j cp) := by intro _ _; rfl) : SE X (.Subscript (.Name x px) (.Constant (.str key) j cp) pos) (eTget i rd) := ⟨PE.imp (pe_dget (hu_of hr) (pe_var hN hv hd hcd) pe_str hs) fun σ H Q ⟨G, B, O, τ, ρ, T, d, T', E, hf, q⟩ => by
  unfold eTget at hf
  split at hf
  case h_2 => cases hf
  rename_i e1
  obtain ⟨rfl, rfl⟩ : rd T = d ∧ T = T' := by cases hf; exact ⟨rfl, rfl⟩
  obtain ⟨p, ep, eσ⟩ := E.tp i e1
  obtain ⟨op, c, hp, nc, hc⟩ := E.tok p ep
  obtain ⟨v, hv, rv⟩ := h.at' X.K O H c T nc hc
  exact ⟨_, eσ, p, v, rfl, .inl ⟨_, .inr key, .inl hp, rfl, hv.symm⟩, q v H (Xt.refl H) E.tok rv⟩⟩
theorem ss_tset (i : Nat) (hr : Room k X.A) (h : TUp key up) (he : SE X e fe) (hN : X.N[i]? = some x := by rfl) (hv : Vis X.env.scope x := by first | exact Or.inl rfl | exact Or.inr (Or.inl rfl) | exact Or.inr (Or.inr rfl)) (hd : (x == ("__debug__" : Str)) = false := by decide) (hcd : (x == ("__classdict__" : Str)) = false := by decide)
    (hs : swapsWith e (some (.Subscript (.Name x px) (.Constant (.str key) j cp) pos')) pos.line X.env = pure false := by rfl) : SS X (.Assign [.Subscript (.Name x px) (.Constant (.str key) j cp) pos'] e pos) (sTset i up fe) := ⟨PS.imp (ps_dput (hu_of hr) (pe_var hN hv hd hcd) pe_str he.pe hs) fun D σ H ⟨G, B, O, τ, ρ, T, fl, T', E, hf, q⟩ => by
  unfold sTset at hf
  split at hf
  case h_2 => cases hf
  rename_i y T1 h1
  split at hf
  case h_2 => cases hf
  rename_i e1
  cases hf
  obtain ⟨p, ep, eσ⟩ := E.tp i e1
  refine ⟨G, B, O, τ, ρ, T, _, T1, E, h1, fun v H1 x1 t1 r1 => ?_⟩
  cases r1
  have E1 := E.step x1 t1
  obtain ⟨op, c, hp, nc, hc⟩ := t1 p ep
  have hz : (tapeKV c T1).length < sizeLine := by rw [sizeLine_eq]; show 5 < _; decide
  have hHO : (HO.dK (putK (tapeKV c T1) (.inr key) (.int y))) = tapeHO c (up y T1) := by rw [h.put]; rfl
  refine ⟨_, eσ, p, _, rfl, .inl ⟨_, .inr key, hp, rfl, hz, rfl⟩, ?_⟩
  show D.nx σ (upd H1 p (.dK (putK (tapeKV c T1) (.inr key) (.int y))))
  rw [hHO]
  have xw : Xt (tS τ) H1 (upd H1 p (tapeHO c (up y T1))) := Xt.wr ep hp id
  have ne : c ≠ p := fun z => nc (z ▸ op)
  have tw : TpOk O τ (upd H1 p (tapeHO c (up y T1))) (up y T1) := fun p' e' => by
    rw [ep] at e'
    cases e'
    exact ⟨op, c, upd_same, nc, by rw [upd_ne ne, h.cells]; exact hc⟩
  exact q σ _ O (E.aft (x1.tr xw)) (E.step (x1.tr xw) tw)⟩
end

/-! ### the tape is made -/
def SqF (K : PySem.W.Frag) (H : Hp) (a : Addr) (xs : List V) : Prop := (∃ o, H a = some (.frz o (.lst xs))) ∨ ∃ (o : Obj) (its : Array Value) (n : Nat), K.lookup a = some o ∧ o.cls = .type "list" ∧ o.dict = none ∧ o.data = .seq its n ∧ its.size ≤ sizeLine ∧ Vals xs its.toList
theorem SqF.sq {K : PySem.W.Frag} {H : Hp} {a : Addr} {xs : List V} (h : SqF K H a xs) : SqL K H a xs := h.imp (fun h => .inr h) id
theorem SqF.go {K : PySem.W.Frag} {S : OS} {H H' : Hp} {a : Addr} {xs : List V} (x : Xt S H H') (h : SqF K H a xs) : SqF K H' a xs := h.imp (fun ⟨o, h⟩ => ⟨o, x _ _ h (.inr trivial)⟩) id
theorem SqF.of {K : PySem.W.Frag} {H : Hp} {a : Addr} {xs : List V} (o : Only H) (h : SqL K H a xs) : SqF K H a xs := by
  rcases h with (h | h) | h
  · rcases o a with z | ⟨ob, ys, z⟩
    · rw [z] at h; cases h
    · rw [z] at h; cases h
  · exact .inl h
  · exact .inr h
theorem walk_scr {K : PySem.W.Frag} {O : OS} {H : Hp} {a : Addr} {ns : List Int} (h : SqF K H a (ns.map V.int)) : Walk K O H (Itl K a) (ns.map .int) := fun i O' H' af _ => by
  have h' : SqF K H' a (ns.map V.int) := h.go af.xt
  refine ⟨fun d hd => ?_, fun hl => ⟨_, h'.sq, by rw [List.length_map] at hl ⊢; exact hl⟩⟩
  rw [List.getElem?_map] at hd
  cases e : ns[i]? with
  | none => rw [e] at hd; cases hd
  | some z =>
    rw [e] at hd
    cases hd
    have hv : (ns.map V.int)[i]? = some (.int z) := by rw [List.getElem?_map, e]; rfl
    refine ⟨⟨_, _, h'.sq, hv⟩, fun x H'' ⟨e1, e2⟩ => ?_⟩
    subst e1
    have := e2 _ h'.sq
    rw [hv] at this
    cases this
    exact ⟨Xt.refl _, .int _⟩
/-- a comprehension whose walk is known otherwise -/
theorem tLc_ofW {K : PySem.W.Frag} {wi : TI} {g : FG} {ft : FT} {fe : FE} {ws vs : List Nat} (hw : ∀ j ∈ ws, j ∈ vs) {G : Hp} {B O : OS} {τ : Option Addr} {σ : L2.St} {H : Hp} {ρ : Rho} {T T' : Tp} {ds ys : List D} {Q : VK} (E : Sta K G B O τ σ H ρ T)
    (hi : ∀ R : It → Hp → Prop, (∀ J, Walk K O H J ds → R J H) → wi σ H R) (h2 : lcL g ft fe (wipeR ρ vs) ds T = some (ys, T')) (hsz : ds.length ≤ sizeLine)
    (q : ∀ p H', H p = none → Xt (tS τ) H H' → TpOk (addO O p) τ H' T' → Top K (addO O p) H' p (.list ys) → Q (.ref p) H') : tLc wi (rdG K ws g) (rdT K ft) (rdE K fe) vs σ H Q := by
  refine hi _ fun J w1 p hp => ?_
  have np : ∀ a, O a → a ≠ p := fun a z e => E.dom a z (by rw [e]; exact hp)
  have ns : ∀ (i : Nat) (d : D), (wipeR ρ vs)[i]? = some (.ow d) → (wipe σ vs)[i]? ≠ some (some (.ref p)) := fun i d e z => by
    obtain ⟨a, e2, oa, _⟩ := (E.wipe vs).ow i d e
    rw [z] at e2; cases e2
    exact np p oa rfl
  have gp : G p = none := by
    cases e : G p with
    | none => rfl
    | some u =>
      have := E.gk p u e (.inl fun z => np p (E.tO p z) rfl)
      rw [hp] at this; cases this
  have nt : τ ≠ some p := fun z => np p (E.tO p z) rfl
  refine ⟨fun i m H' => i + m = ds.length ∧ ∃ T3 acc ys1 ys2, Sta K G B (addO O p) τ (wipe σ vs) H' (wipeR ρ vs) T3 ∧ Xt (tS τ) H H' ∧ H' p = some (.lst acc) ∧ RepL K (addO O p) H' acc ys1 ∧ acc.length ≤ i ∧
      lcL g ft fe (wipeR ρ vs) (ds.drop i) T3 = some (ys2, T') ∧ ys = ys1 ++ ys2, ⟨ds.length, by omega, T, [], [], ys, (E.wipe vs).fill hp, Xt.new hp, upd_same, .nil, Nat.le_refl _, by rw [List.drop_zero]; exact h2, rfl⟩, ?_⟩
  rintro i m H' ⟨im, T3, acc, ys1, ys2, E3, x3, hacc, racc, lacc, hl, rfl⟩
  have a3 : Aft O (addO O p) H H' := ⟨x3.mono E.tO, addO_new hp⟩
  obtain ⟨wg, wst⟩ := w1 i (addO O p) H' a3 E3.dom
  by_cases hi : i < ds.length
  · have e : ds[i]? = some ds[i] := List.getElem?_eq_getElem hi
    obtain ⟨go, yl⟩ := wg _ e
    rw [List.drop_eq_getElem_cons hi] at hl
    generalize ds[i] = d at *
    have hl : (match g d (wipeR ρ vs) with
      | none => none
      | some ρ1 => match ft ρ1 T3 with
        | none => none
        | some (false, T1) => lcL g ft fe (wipeR ρ vs) (ds.drop (i + 1)) T1
        | some (true, T1) => match fe ρ1 T1 with
          | none => none
          | some (y, T2) => match lcL g ft fe (wipeR ρ vs) (ds.drop (i + 1)) T2 with
            | none => none
            | some (ys, T3) => some (y :: ys, T3)) = some (ys2, T') := hl
    refine .inr ⟨go, fun H4 => ∃ T3 acc ys1' ys2', Sta K G B (addO O p) τ (wipe σ vs) H4 (wipeR ρ vs) T3 ∧ Xt (tS τ) H H4 ∧ H4 p = some (.lst acc) ∧ RepL K (addO O p) H4 acc ys1' ∧ acc.length ≤ i + 1 ∧
      lcL g ft fe (wipeR ρ vs) (ds.drop (i + 1)) T3 = some (ys2', T') ∧ ys1 ++ ys2 = ys1' ++ ys2', fun H4 h4 => ⟨m - 1, by omega, by omega, h4⟩, fun x H2 hy => ?_⟩
    obtain ⟨gr, rx⟩ := yl x H2 hy
    have grt : Xt (tS τ) H' H2 := gr.mono fun _ z => z.elim
    have tOp : ∀ a, tS τ a → addO O p a := fun a z => .inl (E.tO a z)
    have keep : ∀ {H5 H6 : Hp} {u}, Xt (tS τ) H5 H6 → H5 p = some u → H6 p = some u := fun x e => x p _ e (.inl nt)
    split at hl
    · cases hl
    rename_i ρ1 hg
    refine ⟨G, B, addO O p, τ, _, T3, d, ρ1, E3.grow gr, rx, hg, fun σ2 o2 E4 => ⟨wipe_off o2 hw, ?_⟩⟩
    split at hl
    · cases hl
    · rename_i T4 ht
      refine ⟨G, B, addO O p, τ, ρ1, T3, false, T4, E4, ht, fun H5 x5 t5 => ?_⟩
      have x35 := grt.tr x5
      exact ⟨T4, acc, ys1, ys2, E3.step x35 t5, x3.tr x35, keep x35 hacc, racc.go x35 (fun a z _ => tOp a z) (fun _ z => .inl z), by omega, hl, rfl⟩
    · rename_i T4 ht
      refine ⟨G, B, addO O p, τ, ρ1, T3, true, T4, E4, ht, fun H5 x5 t5 => ?_⟩
      have x35 := grt.tr x5
      split at hl
      · cases hl
      rename_i y T5 he
      split at hl
      · cases hl
      rename_i ys3 T6 hr
      cases hl
      refine ⟨G, B, addO O p, τ, ρ1, T4, y, T5, E4.step x5 t5, he, fun yv H6 x6 t6 ry => ?_⟩
      have x36 := x35.tr x6
      have hacc6 := keep x36 hacc
      have E6 := E3.step x36 t6
      refine ⟨acc, hacc6, by omega, T5, acc ++ [yv], ys1 ++ [y], ys3, E6.turnAt hacc6 id (.inr rfl) nt gp ns, (x3.tr x36).mut hp, upd_same, ?_, by rw [List.length_append]; exact Nat.add_le_add_right lacc 1, hr, by rw [List.append_assoc]; rfl⟩
      have xw : Xt (fun b => b = p) H6 (upd H6 p (.lst (acc ++ [yv]))) := Xt.wr rfl hacc6 id
      have hin : ∀ a, a = p → H6 a ≠ none → addO O p a := fun a z _ => .inr z
      exact RepL.app (ry.go xw hin fun _ z => .inl z) ((racc.go x36 (fun a z _ => tOp a z) (fun _ z => .inl z)).go xw hin fun _ z => .inl z)
  · have e : i = ds.length := by omega
    subst e
    rw [List.drop_length] at hl
    cases hl
    rw [List.append_nil] at q
    exact .inl ⟨wst (Nat.le_refl _), q p H' hp x3 E3.tok (.lst hacc racc)⟩

/-! ### _law_tape -/
/-- the seed of the cells -/
def seedF : Int → List Int → Int
  | s, [] => s
  | s, c :: r => seedF ((s * 31 + c) % 2147483647) r
def absI (z : Int) : Int := if z < 0 then -z else z
def mkTape (ns : List Int) : Tp := ⟨ns.map absI, 0, 0, seedF 7 (ns.map absI), 0⟩
/-- what _law_tape promises -/
def spMk (K : PySem.W.Frag) : Sp := fun vs H Q _ => ∃ a ns, vs = [.ref a] ∧ SqF K H a (ns.map V.int) ∧ ns.length ≤ 63 ∧ ∀ p c H', H p = none → p ≠ c → H' p = some (tapeHO c (mkTape ns)) → H' c = some (.lst ((mkTape ns).cells.map V.int)) → Q (.ref p) H'
def fCell : FE := eCall qAbs (aCons (eCall qInt (aCons (eOwn 3) aNil)) aNil)
def fSeed2 : FS := sSet 2 (eC (.int 7))
def fSeed3 : FS := sFz 1 (sFor (iSeq (eVar 1)) (gSet 3) (sSet 2 (e2 qMod (eCall qInt (aCons (e2 qAdd (e2 qMul (eOwn 2) (eC (.int 31))) (eOwn 3)) aNil)) (eC (.int 2147483647)))))
def fSeed : FS := sSeq fSeed2 fSeed3
theorem seq_of {K : PySem.W.Frag} {f g : FS} {D : Ends} {σ : L2.St} {H : Hp} (h : rdS K (sSeq f g) D σ H) : tSeq (rdS K f) (rdS K g) D σ H := by
  obtain ⟨G, B, O, τ, ρ, T, fl, T', E, hf, q⟩ := h
  unfold sSeq at hf
  split at hf
  · cases hf
  · rename_i ρ1 T1 h
    exact ⟨G, B, O, τ, ρ, T, _, T1, E, h, fun σ' H' O' a E' => ⟨G, B, O', τ, ρ1, T1, fl, T', E', hf, q.go a⟩⟩
  · rename_i fl1 T1 hn h
    cases hf
    refine ⟨G, B, O, τ, ρ, T, _, _, E, h, ?_⟩
    cases fl with
    | nx r => exact absurd rfl (hn r)
    | _ => exact q
theorem lc_cells (T : Tp) : ∀ ns : List Int, lcL (gSet 3) tTrue fCell [.un, .un, .un, .un] (ns.map .int) T = some ((ns.map absI).map .int, T)
  | [] => rfl
  | n :: ns => by
    rw [List.map_cons, lcL]
    show (match fCell [.un, .un, .un, .fr (.int n)] T with
      | none => none
      | some (y, T2) => match lcL (gSet 3) tTrue fCell [.un, .un, .un, .un] (ns.map .int) T2 with
        | none => none
        | some (ys, T3) => some (y :: ys, T3)) = _
    have e : fCell [.un, .un, .un, .fr (.int n)] T = some (.int (absI n), T) := rfl
    rw [e]
    show (match lcL (gSet 3) tTrue fCell [.un, .un, .un, .un] (ns.map .int) T with
        | none => none
        | some (ys, T3) => some (PyData.int (absI n) :: ys, T3)) = _
    rw [lc_cells T ns]
    rfl
def fSeed1 : FS := sSet 2 (e2 qMod (eCall qInt (aCons (e2 qAdd (e2 qMul (eOwn 2) (eC (.int 31))) (eOwn 3)) aNil)) (eC (.int 2147483647)))
theorem fSeed1_run (l : D) (s c : Int) (T : Tp) : fSeed1 [.un, .fr l, .fr (.int s), .fr (.int c)] T = some (.nx [.un, .fr l, .fr (.int ((s * 31 + c) % 2147483647)), .fr (.int c)], T) := by
  have e : qMulI s 31 = some (.int (s * 31)) := by
    unfold qMulI
    rw [if_pos (by rw [Bool.or_eq_true]; exact .inr (by decide))]
  have e2 : qMul (.int s) (.int 31) = some (.int (s * 31)) := e
  unfold fSeed1 sSet
  simp only [Dv.e2, eCall, aCons, aNil, eOwn, eC, e2, qAdd, List.getElem?_cons_succ, List.getElem?_cons_zero, qInt, q1, qMod, i2, qModI]
  rfl
theorem seed_loop (l : D) (T : Tp) : ∀ (cs : List Int) (s : Int) (x : Cell), ∃ y, forL (gSet 3) fSeed1 (cs.map .int) [.un, .fr l, .fr (.int s), x] T = some (.nx [.un, .fr l, .fr (.int (seedF s cs)), y], T)
  | [], s, x => ⟨x, rfl⟩
  | c :: cs, s, x => by
    obtain ⟨y, h⟩ := seed_loop l T cs ((s * 31 + c) % 2147483647) (.fr (.int c))
    refine ⟨y, ?_⟩
    rw [List.map_cons, forL]
    show (match fSeed1 [.un, .fr l, .fr (.int s), .fr (.int c)] T with
      | none => none
      | some (.nx ρ2, T2) => forL (gSet 3) fSeed1 (cs.map .int) ρ2 T2
      | some (.ct ρ2, T2) => forL (gSet 3) fSeed1 (cs.map .int) ρ2 T2
      | some (.bk ρ2, T2) => some (.nx ρ2, T2)
      | some (.rt d, T2) => some (.rt d, T2)) = _
    rw [fSeed1_run]
    exact h
theorem fSeed_run (cs : List Int) (T : Tp) : ∃ y, fSeed [.un, .ow (.list (cs.map .int)), .un, .un] T = some (.nx [.un, .fr (.list (cs.map .int)), .fr (.int (seedF 7 cs)), y], T) := by
  obtain ⟨y, h⟩ := seed_loop (.list (cs.map PyData.int)) T cs 7 .un
  exact ⟨y, h⟩
theorem rep_un {n i : Nat} {c : Cell} (h : (List.replicate n Cell.un)[i]? = some c) : c = .un := by
  rw [List.getElem?_replicate] at h
  split at h <;> cases h
  rfl
theorem sta_zero {K : PySem.W.Frag} {σ : L2.St} {H : Hp} {n : Nat} (hl : σ.length = n) : Sta K H (fun _ => False) (fun _ => False) none σ H (List.replicate n .un) T0 where
  len := by rw [hl, List.length_replicate]
  fr := fun i d h => by have := rep_un h; cases this
  ow := fun i d h => by have := rep_un h; cases this
  sep := fun i j d d' a h _ _ _ => by have := rep_un h; cases this
  tp := fun i h => by have := rep_un h; cases this
  tok := fun p e => by cases e
  tb := fun p e => by cases e
  dom := fun a z => z.elim
  gb := fun a z => z.elim
  gd := fun a z => z.elim
  gk := Xt.refl H
theorem putK_new {kvs : List (Key × V)} {k : Key} {v : V} (h : ∀ p ∈ kvs, p.1 ≠ k) : putK kvs k v = kvs ++ [(k, v)] := by
  unfold putK
  rw [if_neg fun z => by
    obtain ⟨p, hp, e⟩ := List.any_eq_true.mp z
    exact h p hp (of_decide_eq_true e)]
theorem merge_tape (c : Addr) (T : Tp) : mergeK [] (tapeKV c T) = tapeKV c T := by
  have n1 := key_ne (show cps "cells" ≠ cps "at" by decide)
  have n2 := key_ne (show cps "cells" ≠ cps "left" by decide)
  have n3 := key_ne (show cps "cells" ≠ cps "seed" by decide)
  have n4 := key_ne (show cps "cells" ≠ cps "salt" by decide)
  have n5 := key_ne (show cps "at" ≠ cps "left" by decide)
  have n6 := key_ne (show cps "at" ≠ cps "seed" by decide)
  have n7 := key_ne (show cps "at" ≠ cps "salt" by decide)
  have n8 := key_ne (show cps "left" ≠ cps "seed" by decide)
  have n9 := key_ne (show cps "left" ≠ cps "salt" by decide)
  have n10 := key_ne (show cps "seed" ≠ cps "salt" by decide)
  unfold mergeK tapeKV
  simp only [List.foldl_cons, List.foldl_nil]
  rw [putK_new (kvs := []) (by intro p hp; cases hp)]
  rw [putK_new (k := .inr "at") (by intro p hp; simp at hp; subst hp; exact n1)]
  rw [putK_new (k := .inr "left") (by intro p hp; simp at hp; rcases hp with rfl | rfl <;> first | exact n2 | exact n5)]
  rw [putK_new (k := .inr "seed") (by intro p hp; simp at hp; rcases hp with rfl | rfl | rfl <;> first | exact n3 | exact n6 | exact n8)]
  rw [putK_new (k := .inr "salt") (by intro p hp; simp at hp; rcases hp with rfl | rfl | rfl | rfl <;> first | exact n4 | exact n7 | exact n9 | exact n10)]
  rfl
/-- _law_tape by its four statements -/
theorem fn_tape {P : Program} {w : World} {K : PySem.W.Frag} {mg : Str → Option Value} {base : Heap} {x qual : Str} {st : Stmt} {f : Addr} {fd : FuncData} {N ps : List Str} {k : Nat} (F : Fun K x qual st f fd) (S : FnScope N ps (defScope st)) (hN : N.length = 4) (hp : ps.length = 1)
    (hb : ∀ (cdv : Value) (A : Around) (outer : List Env) (s : Shared) (H : Hp) (E : XK), Room k (A.deeper (envOfC qual (defScope st) s.heap.objs.size f cdv)) →
      PSs (cxOf CX0 P w K mg base N qual (defScope st) f cdv A outer s H E).nox (defBody st) (tSeq (tAsg (tLc (iSeqT K (tVar 0)) (rdG K [3] (gSet 3)) (rdT K tTrue) (rdE K fCell) [3]) (gName 1)) (tSeq (rdS K fSeed2) (tSeq (rdS K fSeed3) (tRet (tDisp [(tC (.str "cells"), tVar 1), (tC (.str "at"), tC (.int 0)), (tC (.str "left"), tC (.int 0)), (tC (.str "seed"), tVar 2), (tC (.str "salt"), tC (.int 0))])))))) :
    FnOk P w K mg base CX0 (k + 1) f fd ps (spMk K) := by
  refine F.ok S (fun vs H Q E h => ?_) (fun cdv A outer s H vs Q E hr h => ⟨_, hb cdv A outer s H E hr, ?_⟩)
  · obtain ⟨a, ns, rfl, _⟩ := h
    rw [hp]; rfl
  obtain ⟨a, ns, rfl, hq, hl, q⟩ := h
  have hlen : (L2.start N [V.ref a]).length = 4 := by rw [start_len (by rw [hN]; exact (by decide : 1 ≤ 4)), hN]
  have E0 := sta_zero (K := K) (H := H) hlen
  have s0 : (L2.start N [V.ref a])[0]? = some (some (.ref a)) := start_get rfl
  unfold tSeq tAsg
  refine tLc_ofW (wi := iSeqT K (tVar 0)) (ws := [3]) (vs := [3]) (G := H) (B := fun _ => False) (O := fun _ => False) (τ := none) (ρ := [.un, .un, .un, .un]) (T := T0) (T' := T0) (ds := ns.map .int) (ys := (ns.map absI).map .int) (by decide) E0 (fun R hR => ?_) (lc_cells T0 ns) (by rw [List.length_map, sizeLine_eq]; omega) fun p H1 hp x1 t1 r1 => ?_
  · exact ⟨.ref a, s0, .inl ⟨a, rfl, ⟨_, hq.sq⟩, hR _ (walk_scr hq)⟩⟩
  · have E1 := E0.own (i := 1) hp x1 t1 r1
    obtain ⟨y, hy⟩ := fSeed_run (ns.map absI) T0
    refine seq_of ⟨H, fun _ => False, _, none, _, T0, _, T0, E1, hy, fun σ2 H2 O2 a2 E2 => ?_⟩
    obtain ⟨v1, e1, r1⟩ := E2.fr 1 _ rfl
    obtain ⟨v2, e2, r2⟩ := E2.fr 2 _ rfl
    cases r2
    cases r1 with
    | @lst c xs _ nc hc rc =>
    intro p2 hp2
    have hxs : xs = (ns.map absI).map V.int := rl_ints rc (by
      have : ∀ l : List Int, intsD (l.map .int) = some l := fun l => by
        induction l with
        | nil => rfl
        | cons a l ih => rw [List.map_cons, intsD, ih]
      exact this _)
    have ne : c ≠ p2 := fun z => by rw [z, hp2] at hc; cases hc
    refine ⟨_, e1, _, e2, upd_same, tapeKV c (mkTape ns), rfl, by show 5 ≤ 15; decide, ?_⟩
    rw [merge_tape]
    have hp0 : H p2 = none := by
      cases e : H p2 with
      | none => rfl
      | some u =>
        have := E2.gk p2 u e (.inl fun z => by cases z)
        rw [hp2] at this; cases this
    exact q p2 c _ hp0 (Ne.symm ne) upd_same (by rw [upd_ne ne, upd_ne ne, hc, hxs]; rfl)
/-! ### the law itself -/
def spLaw (K : PySem.W.Frag) : Sp := fun vs H Q _ => ∃ (a : Addr) (ns : List Int), vs = [.ref a] ∧ SqF K H a (ns.map V.int) ∧ ns.length ≤ 63 ∧ ∀ H', Q (.bl true) H'
theorem fn_law {P : Program} {w : World} {K : PySem.W.Frag} {mg : Str → Option Value} {base : Heap} {x qual : Str} {st : Stmt} {f : Addr} {fd : FuncData} {N ps : List Str} {k : Nat} {b : FS} (F : Fun K x qual st f fd) (S : FnScope N ps (defScope st)) (hN : 2 ≤ N.length) (hp : ps.length = 1)
    (hm : ∀ ns : List Int, ns.length ≤ 63 → ∃ T', b ((List.replicate N.length .un).set 1 .tp) (mkTape ns) = some (.rt (.bool true), T'))
    (hb : ∀ (cdv : Value) (A : Around) (outer : List Env) (s : Shared) (H : Hp) (E : XK), Room k (A.deeper (envOfC qual (defScope st) s.heap.objs.size f cdv)) →
      PSs (cxOf CX0 P w K mg base N qual (defScope st) f cdv A outer s H E).nox (defBody st) (tSeq (tAsg (tCall (spMk K) [] E0 (tCons (tVar 0) tNil)) (gName 1)) (rdS K b))) :
    FnOk P w K mg base CX0 (k + 1) f fd ps (spLaw K) := by
  refine F.ok S (fun vs H Q E h => ?_) (fun cdv A outer s H vs Q E hr h => ⟨_, hb cdv A outer s H E hr, ?_⟩)
  · obtain ⟨a, ns, rfl, _⟩ := h
    rw [hp]; rfl
  obtain ⟨a, ns, rfl, hq, hl, q⟩ := h
  have hlen : (L2.start N [V.ref a]).length = N.length := start_len (by show 1 ≤ N.length; omega)
  have s0 : (L2.start N [V.ref a])[0]? = some (some (.ref a)) := start_get rfl
  refine ⟨.ref a, s0, a, ns, rfl, hq, hl, fun p c H1 hp0 ne e1 e2 => ?_⟩
  obtain ⟨T', hT⟩ := hm ns hl
  have hset : ∀ (i : Nat) (cc : Cell), ((List.replicate N.length Cell.un).set 1 .tp)[i]? = some cc → (i = 1 ∧ cc = .tp) ∨ cc = .un := fun i cc h => by
    rw [List.getElem?_set] at h
    by_cases hi : 1 = i
    · rw [if_pos hi] at h
      split at h
      · cases h; exact .inl ⟨hi.symm, rfl⟩
      · cases h
    · rw [if_neg hi] at h
      exact .inr (rep_un h)
  refine ⟨H1, fun z => z = p, fun z => z = p, some p, _, mkTape ns, .rt (.bool true), T', ?_, hT, fun v H2 t2 x2 r2 => ?_⟩
  · exact {
      len := by rw [List.length_set, List.length_set, List.length_replicate, hlen]
      fr := fun i d h => by rcases hset i _ h with ⟨_, z⟩ | z <;> cases z
      ow := fun i d h => by rcases hset i _ h with ⟨_, z⟩ | z <;> cases z
      sep := fun i j d d' _ h _ _ _ => by rcases hset i _ h with ⟨_, z⟩ | z <;> cases z
      tp := fun i h => by
        rcases hset i _ h with ⟨z, _⟩ | z
        · subst z
          exact ⟨p, rfl, by rw [List.getElem?_set_self (by rw [hlen]; omega)]⟩
        · cases z
      tok := fun p' e => by
        cases e
        exact ⟨rfl, c, e1, fun z => ne z.symm, e2⟩
      tb := fun p' e => by cases e; rfl
      dom := fun z e => by rw [e, e1]; simp
      gb := fun z e => e
      gd := fun z e => by rw [e, e1]; simp
      gk := Xt.refl H1 }
  · cases r2
    exact q H2
end Dv

/-! Dv22: short names for the printed derivations. -/
namespace Dv
open PySem PySem.Spec PyProof.Rows L2
section
variable {X : Cx} {a b c e : Expr} {es rs : List Expr} {fa fb : FE} {ga : FA} {pos : Pos} {k : Nat}
theorem sc_lt (ha : SB X a fa) (hb : SB X b fb) : SC X .Lt a b (e2 qLt fa fb) := sc_of op_lt (o2_i0 fun _ _ _ _ => .bl _) ha hb
theorem sc_le (ha : SB X a fa) (hb : SB X b fb) : SC X .LtE a b (e2 qLe fa fb) := sc_of op_le (o2_i0 fun _ _ _ _ => .bl _) ha hb
theorem sc_gt (ha : SB X a fa) (hb : SB X b fb) : SC X .Gt a b (e2 qGt fa fb) := sc_of op_gt (o2_i0 fun _ _ _ _ => .bl _) ha hb
theorem sc_ge (ha : SB X a fa) (hb : SB X b fb) : SC X .GtE a b (e2 qGe fa fb) := sc_of op_ge (o2_i0 fun _ _ _ _ => .bl _) ha hb
theorem sc_eq (hr : Room k X.A) (ha : SB X a fa) (hb : SB X b fb) : SC X .Eq a b (e2 qEq fa fb) := sc_of (op_eq.or (op_eqD (by have := hr.units; omega))) o2_eq ha hb
theorem sc_ne (hr : Room k X.A) (ha : SB X a fa) (hb : SB X b fb) : SC X .NotEq a b (e2 qNe fa fb) := sc_of (op_ne.or (op_neD (by have := hr.units; omega))) o2_ne ha hb
def qIsnt (x y : D) : Option D := qNot (qIs x y)
def qNotin (x y : D) : Option D := qNot (qIn x y)
theorem sc_is (ha : SB X a fa) (hb : SB X b fb) : SC X .Is a b (e2 qIs fa fb) := sc_of (op_isN.or op_isBl) o2_is ha hb
theorem sc_isnt (ha : SB X a fa) (hb : SB X b fb) : SC X .IsNot a b (e2 qIsnt fa fb) := sc_of (op_notN.or op_notBl) o2_isnt ha hb
theorem sc_notin' (ha : SB X a fa) (hb : SB X b fb) : SC X .NotIn a b (e2 qNotin fa fb) := sc_notin ha hb
variable {L : D → FE} {op : CmpOp} {ops : List CmpOp}
theorem sll_lt (hb : SB X b fb) : SL X [.Lt] [b] (lLast qLt fb) := sl_last op_lt (o2_i0 fun _ _ _ _ => .bl _) hb
theorem sll_le (hb : SB X b fb) : SL X [.LtE] [b] (lLast qLe fb) := sl_last op_le (o2_i0 fun _ _ _ _ => .bl _) hb
theorem slc_lt (hb : SB X b fb) (hr : SL X (op :: ops) (c :: rs) L) : SL X (.Lt :: op :: ops) (b :: c :: rs) (lCons qLt fb L) := sl_cons op_lt (o2_i0 fun _ _ _ _ => .bl _) hb hr
theorem slc_le (hb : SB X b fb) (hr : SL X (op :: ops) (c :: rs) L) : SL X (.LtE :: op :: ops) (b :: c :: rs) (lCons qLe fb L) := sl_cons op_le (o2_i0 fun _ _ _ _ => .bl _) hb hr
theorem sll_eq (hk : Room k X.A) (hb : SB X b fb) : SL X [.Eq] [b] (lLast qEq fb) := sl_last (op_eq.or (op_eqD (by have := hk.units; omega))) o2_eq hb
theorem slc_eq (hk : Room k X.A) (hb : SB X b fb) (hr : SL X (op :: ops) (c :: rs) L) : SL X (.Eq :: op :: ops) (b :: c :: rs) (lCons qEq fb L) := sl_cons (op_eq.or (op_eqD (by have := hk.units; omega))) o2_eq hb hr
end
section
variable {X : Cx} {a b : Expr} {fa fb : FE} {pos cp : Pos} {k j : Nat} {i : Int}
theorem tk_lt (ha : SB X a fa) : STk X (.Compare a [.Lt] [.Constant (.int i) j cp] pos) (tBool (e2 qLt fa (eC (.int i)))) := tk_cmp op_lt (o2_i0 fun _ _ _ _ => .bl _) ha
theorem stt_ne (hr : Room k X.A) (ha : SEt X a fa) (hb : SB X b fb) : STt X (.Compare a [.NotEq] [b] pos) (tBool (e2 qNe fa fb)) := stt_cmp (op_ne.or (op_neD (by have := hr.units; omega))) o2_ne ha hb
end
/-- a def of the text, as it stands behind the top -/
def FunAt (K : PySem.W.Frag) (mg : Str → Option Value) (x : Str) (st : Stmt) : Prop := ∃ f fd, mg x = some (.ref f) ∧ Fun K x x st f fd
/-- .. and what it keeps -/
def Has (P : Program) (w : World) (K : PySem.W.Frag) (mg : Str → Option Value) (base : Heap) (x : Str) (ps : List Str) (k : Nat) (sp : Sp) : Prop := ∃ f fd, mg x = some (.ref f) ∧ PySem.W.keepIn K (.ref f) = true ∧ Binds K fd ps [] ∧ FnOk P w K mg base CX0 k f fd ps sp
def HasT (P : Program) (w : World) (K : PySem.W.Frag) (mg : Str → Option Value) (base : Heap) (x : Str) (ps : List Str) (k : Nat) (sp : Sp) : Prop := ∃ f fd, mg x = some (.ref f) ∧ PySem.W.keepIn K (.ref f) = true ∧ Binds K fd ps [] ∧ FnOkT P w K mg base CX0 k f fd ps sp
theorem FnOkT.mono {P : Program} {w : World} {K : PySem.W.Frag} {mg : Str → Option Value} {base : Heap} {CX : CXT} {j k : Nat} {f : Addr} {fd : FuncData} {ps : List Str} {sp : Sp} (F : FnOkT P w K mg base CX j f fd ps sp) (h : j ≤ k) :
    FnOkT P w K mg base CX k f fd ps sp := ⟨F.len, fun A outer s H args us vs Q E h0 hr => F.run A outer s H args us vs Q E h0 (hr.mono h)⟩
section
variable {X : Cx} {j k n : Nat} {ps : List Str} {x : Str} {p pos : Pos} {e : Expr} {es : List Expr} {fa : FA}
theorem se_callH {g : List D → Option D} (F : Has X.prog X.w X.K X.mg X.base x ps j (spP X.K n g)) (hr : Room k X.A) (hj : j ≤ k)
    (ha : SA X (e :: es) fa) (hg : Gl X x := by rfl) (hdb : (x == ("__debug__" : Str)) = false := by decide) (he : starEach (e :: es) X.env = (false, eval e X.env) :: starEach es X.env := by rfl) (hpl : (backTo pos (starEach es X.env)).any (·.1) = false := by rfl) :
    SE X (.Call (.Name x p) (e :: es) [] pos) (eCall (argc n g) fa) := by
  obtain ⟨f, fd, hm, hk, hb, F⟩ := F
  exact se_call (F.mono hj) hr hm hk hb ha hg hdb he hpl
theorem se_callTH {g : List D → Tp → Option (D × Tp)} {y : Str} {py : Pos} (i : Nat) (F : Has X.prog X.w X.K X.mg X.base x ps j (spT X.K n g)) (hr : Room k X.A) (hj : j ≤ k)
    (ha : SA X es fa) (hN : X.N[i]? = some y := by rfl) (hv : Vis X.env.scope y := by first | exact Or.inl rfl | exact Or.inr (Or.inl rfl) | exact Or.inr (Or.inr rfl)) (hg : Gl X x := by rfl) (hdb : (x == ("__debug__" : Str)) = false := by decide) (hd : (y == ("__debug__" : Str)) = false := by decide)
    (hcd : (y == ("__classdict__" : Str)) = false := by decide) (he : starEach (.Name y py :: es) X.env = (false, eval (.Name y py) X.env) :: starEach es X.env := by rfl) (hpl : (backTo pos (starEach es X.env)).any (·.1) = false := by rfl) :
    SE X (.Call (.Name x p) (.Name y py :: es) [] pos) (eCallT i n g fa) := by
  obtain ⟨f, fd, hm, hk, hb, F⟩ := F
  exact se_callT i (F.mono hj) hr hm hk hb ha hN hv hg hdb hd hcd he hpl
theorem set_callH {g : List D → Option D} (F : HasT X.prog X.w X.K X.mg X.base x ps j (spP X.K n g)) (hr : Room k X.A) (hj : j ≤ k)
    (ha : SA X (e :: es) fa) (hg : Gl X x := by rfl) (hdb : (x == ("__debug__" : Str)) = false := by decide) (he : starEach (e :: es) X.env = (false, eval e X.env) :: starEach es X.env := by rfl) (hpl : (backTo pos (starEach es X.env)).any (·.1) = false := by rfl) :
    SEt X (.Call (.Name x p) (e :: es) [] pos) (eCall (argc n g) fa) := by
  obtain ⟨f, fd, hm, hk, hb, F⟩ := F
  exact set_call (F.mono hj) hr hm hk hb ha hg hdb he hpl
theorem pe_callMk {N : Nat} {ta : TA} {e : Expr} (F : Has X.prog X.w X.K X.mg X.base x ps j (spMk X.K)) (hr : Room k X.A) (hj : j ≤ k)
    (ha : PA X [e] ta) (hg : Gl X x := by rfl) (hdb : (x == ("__debug__" : Str)) = false := by decide) (he : starEach [e] X.env = (false, eval e X.env) :: starEach [] X.env := by rfl) (hpl : (backTo pos (starEach [] X.env)).any (·.1) = false := by rfl) :
    PE X (.Call (.Name x p) [e] [] pos) (tCall (spMk X.K) [] E0 ta) := by
  obtain ⟨f, fd, hm, hk, hb, F⟩ := F
  exact pe_call (F.mono hj) hr hg hm hk hb .nil pass0 ha hdb he hpl
end
theorem funAt_mk {K : PySem.W.Frag} {h : Heap} {mg : Str → Option Value} {x : Str} {st : Stmt} {f : Addr} {oc kV dc pm cd ct : Value} {od an : Option Addr} {sl : Array (Option Value)} (X : K.In h) (G : h.Ns mainGlobals mg)
    (a : PySem.W.nsIn K mainGlobals x = some (some (.ref f))) (l : K.lookup f = some ⟨oc, od, .func (PySem.W.fnOf x x (defArgs st) (defBody st) (defScope st) .none kV dc pm an cd ct), sl⟩) (c : PySem.W.codeIn K cd x = true) (k : PySem.W.keepIn K (.ref f) = true) : FunAt K mg x st :=
  ⟨f, _, PySem.W.mg_of X G a, fun_mk l c k⟩
end Dv

/-! Dv23: how the pure readings are evaluated, step by step. -/
namespace Dv
open PySem
section
variable {f g : FS} {c c' : FT} {fa fb fc : FE} {ga gb : FA} {fi : FI} {gg : FG} {gs : FGs} {ρ ρ1 ρ2 : Rho} {T T1 T2 T3 : Tp} {d d1 d2 x y : D} {ds : List D} {r : Option (Fl × Tp)} {b : Bool} {i j n : Nat}
theorem bodyP_rt {N : Nat} {q : FS} (h : q (frame N (ds.map .fr)) T0 = some (.rt d, T1)) : bodyP N q ds = some d := by unfold bodyP; rw [h]
theorem bodyP_nx {N : Nat} {q : FS} (h : q (frame N (ds.map .fr)) T0 = some (.nx ρ1, T1)) : bodyP N q ds = some .none := by unfold bodyP; rw [h]
theorem bodyT_rt {N : Nat} {q : FS} (h : q (frame N (.tp :: ds.map .fr)) T = some (.rt d, T1)) : bodyT N q ds T = some (d, T1) := by unfold bodyT; rw [h]
theorem bodyT_nx {N : Nat} {q : FS} (h : q (frame N (.tp :: ds.map .fr)) T = some (.nx ρ1, T1)) : bodyT N q ds T = some (.none, T1) := by unfold bodyT; rw [h]
theorem seq_nx (h : f ρ T = some (.nx ρ1, T1)) (h2 : g ρ1 T1 = r) : sSeq f g ρ T = r := by unfold sSeq; rw [h]; exact h2
theorem seq_rt (h : f ρ T = some (.rt d, T1)) : sSeq f g ρ T = some (.rt d, T1) := by unfold sSeq; rw [h]
theorem seq_bk (h : f ρ T = some (.bk ρ1, T1)) : sSeq f g ρ T = some (.bk ρ1, T1) := by unfold sSeq; rw [h]
theorem if_t (h : c ρ T = some (true, T1)) (h2 : f ρ T1 = r) : sIf c f g ρ T = r := by unfold sIf; rw [h]; exact h2
theorem if_f (h : c ρ T = some (false, T1)) (h2 : g ρ T1 = r) : sIf c f g ρ T = r := by unfold sIf; rw [h]; exact h2
theorem drop_of (h : fa ρ T = some (d, T1)) : sDrop fa ρ T = some (.nx ρ, T1) := by unfold sDrop; rw [h]
theorem ret_of (h : fa ρ T = some (d, T1)) : sRet fa ρ T = some (.rt d, T1) := by unfold sRet; rw [h]
theorem set_of (h : fa ρ T = some (d, T1)) : sSet i fa ρ T = some (.nx (ρ.set i (.fr d)), T1) := by unfold sSet; rw [h]
theorem new_of (h : fa ρ T = some (d, T1)) : sNew i fa ρ T = some (.nx (ρ.set i (.ow d)), T1) := by unfold sNew; rw [h]
theorem par_of (h : fa ρ T = some (x, T1)) (h2 : fb ρ T1 = some (y, T2)) : sPar i j fa fb ρ T = some (.nx ((ρ.set i (.fr x)).set j (.fr y)), T2) := by unfold sPar; simp only [h, h2]
theorem asg_of (h : fa ρ T = some (d, T1)) (h2 : gg d ρ = some ρ1) : sAsgG fa gg ρ T = some (.nx ρ1, T1) := by unfold sAsgG; simp only [h, h2]
theorem app_of (h : fa ρ T = some (d, T1)) (h2 : ρ[i]? = some (.ow (.list ds))) (h3 : ds.length.blt line24 = true) : sApp i fa ρ T = some (.nx (ρ.set i (.ow (.list (ds ++ [d])))), T1) := by unfold sApp; simp only [h, h2, h3, if_true]
theorem call_of {q : List D → Option D} (h : ga ρ T = some (ds, T1)) (h2 : q ds = some d) : eCall q ga ρ T = some (d, T1) := by unfold eCall; simp only [h, h2]
theorem argc_of {q : List D → Option D} (hl : ds.length = n) (h : q ds = some d) : argc n q ds = some d := by unfold argc; rw [if_pos hl]; exact h
theorem callP_of {q : List D → Option D} (h : ga ρ T = some (ds, T1)) (hl : ds.length = n) (h2 : q ds = some d) : eCall (argc n q) ga ρ T = some (d, T1) := call_of h (argc_of hl h2)
theorem callT_of {q : List D → Tp → Option (D × Tp)} {r : Option (D × Tp)} (ht : ρ[i]? = some .tp) (h : ga ρ T = some (ds, T1)) (hl : ds.length = n) (h2 : q ds T1 = r) : eCallT i n q ga ρ T = r := by unfold eCallT; simp only [ht, h, hl, if_true]; exact h2
theorem a_cons (h : fa ρ T = some (d, T1)) (h2 : ga ρ T1 = some (ds, T2)) : aCons fa ga ρ T = some (d :: ds, T2) := by unfold aCons; simp only [h, h2]
theorem a_one (h : fa ρ T = some (d, T1)) : aCons fa aNil ρ T = some ([d], T1) := a_cons h rfl
theorem e2_of {q : D → D → Option D} (h : fa ρ T = some (x, T1)) (h2 : fb ρ T1 = some (y, T2)) (h3 : q x y = some d) : e2 q fa fb ρ T = some (d, T2) := by unfold e2; simp only [h, h2, h3]
theorem eF_of {q : D → Option D} (h : fa ρ T = some (x, T1)) (h3 : q x = some d) : eF q fa ρ T = some (d, T1) := by unfold eF; simp only [h, h3]
theorem meth_of {q : D → List D → Option D} (h : fa ρ T = some (x, T1)) (h2 : ga ρ T1 = some (ds, T2)) (h3 : q x ds = some d) : eMeth q fa ga ρ T = some (d, T2) := by unfold eMeth; simp only [h, h2, h3]
theorem eif_t (h : c ρ T = some (true, T1)) : eIf c fa fb ρ T = fa ρ T1 := by unfold eIf; rw [h]
theorem eif_f (h : c ρ T = some (false, T1)) : eIf c fa fb ρ T = fb ρ T1 := by unfold eIf; rw [h]
theorem bool_of (h : fa ρ T = some (.bool b, T1)) : tBool fa ρ T = some (b, T1) := by unfold tBool; rw [h]
theorem tru_of (h : fa ρ T = some (d, T1)) (h2 : truD d = some b) : tTru fa ρ T = some (b, T1) := by unfold tTru; simp only [h, h2]
theorem and_t (h : c ρ T = some (true, T1)) : tAndF c c' ρ T = c' ρ T1 := by unfold tAndF; rw [h]
theorem and_f (h : c ρ T = some (false, T1)) : tAndF c c' ρ T = some (false, T1) := by unfold tAndF; rw [h]
theorem or_t (h : c ρ T = some (true, T1)) : tOrF c c' ρ T = some (true, T1) := by unfold tOrF; rw [h]
theorem or_f (h : c ρ T = some (false, T1)) : tOrF c c' ρ T = c' ρ T1 := by unfold tOrF; rw [h]
theorem not_of (h : c ρ T = some (b, T1)) : tNotF c ρ T = some (!b, T1) := by unfold tNotF; rw [h]
theorem ch_of {L : D → FE} {r : Option (D × Tp)} (h : fa ρ T = some (x, T1)) (h2 : L x ρ T1 = r) : eCh fa L ρ T = r := by unfold eCh; rw [h]; exact h2
theorem lc_last {q : D → D → Option D} (h : fb ρ T = some (y, T1)) (h2 : q x y = some (.bool b)) : lLast q fb x ρ T = some (.bool b, T1) := by unfold lLast; simp only [h, h2]
theorem lc_t {q : D → D → Option D} {L : D → FE} {r : Option (D × Tp)} (h : fb ρ T = some (y, T1)) (h2 : q x y = some (.bool true)) (h3 : L y ρ T1 = r) : lCons q fb L x ρ T = r := by unfold lCons; simp only [h, h2]; exact h3
theorem lc_f {q : D → D → Option D} {L : D → FE} (h : fb ρ T = some (y, T1)) (h2 : q x y = some (.bool false)) : lCons q fb L x ρ T = some (.bool false, T1) := by unfold lCons; simp only [h, h2]
theorem tup_of (h : ga ρ T = some (ds, T1)) (h2 : ds.length.ble line24 = true) : eTup ga ρ T = some (.tuple ds, T1) := by unfold eTup; simp only [h, h2, if_true]
theorem lst_of (h : ga ρ T = some (ds, T1)) (h2 : ds.length.ble line24 = true) : eLst ga ρ T = some (.list ds, T1) := by unfold eLst; simp only [h, h2, if_true]
theorem gtup_of {ds : List D} (h : ds.length = n) (h2 : gs ds ρ = some ρ1) : gTupD n gs (.tuple ds) ρ = some ρ1 := by show (if _ then _ else _) = _; rw [if_pos h]; exact h2
theorem eand_t (h : fa ρ T = some (.bool true, T1)) : eAnd fa fb ρ T = fb ρ T1 := by unfold eAnd; rw [h]
theorem eand_f (h : fa ρ T = some (.bool false, T1)) : eAnd fa fb ρ T = some (.bool false, T1) := by unfold eAnd; rw [h]
theorem eor_t (h : fa ρ T = some (.bool true, T1)) : eOr fa fb ρ T = some (.bool true, T1) := by unfold eOr; rw [h]
theorem eor_f (h : fa ρ T = some (.bool false, T1)) : eOr fa fb ρ T = fb ρ T1 := by unfold eOr; rw [h]
theorem seq_i (h : fa ρ T = some (d, T1)) (h2 : seqD d = some ds) : iSeq fa ρ T = some (ds, T1) := by unfold iSeq; simp only [h, h2]
theorem for_of (h : fi ρ T = some (ds, T1)) (h2 : forL gg f ds ρ T1 = r) : sFor fi gg f ρ T = r := by unfold sFor; rw [h]; exact h2
theorem for_nil : forL gg f [] ρ T = some (.nx ρ, T) := rfl
theorem for_cons (h : gg d ρ = some ρ1) (h2 : f ρ1 T = some (.nx ρ2, T2)) (h3 : forL gg f ds ρ2 T2 = r) : forL gg f (d :: ds) ρ T = r := by unfold forL; simp only [h, h2]; exact h3
theorem for_rt (h : gg d ρ = some ρ1) (h2 : f ρ1 T = some (.rt x, T2)) : forL gg f (d :: ds) ρ T = some (.rt x, T2) := by unfold forL; simp only [h, h2]
theorem for_bk (h : gg d ρ = some ρ1) (h2 : f ρ1 T = some (.bk ρ2, T2)) : forL gg f (d :: ds) ρ T = some (.nx ρ2, T2) := by unfold forL; simp only [h, h2]
theorem wh_f (h : c ρ T = some (false, T1)) : whL c f (n + 1) ρ T = some (.nx ρ, T1) := by unfold whL; rw [h]
theorem wh_t (h : c ρ T = some (true, T1)) (h2 : f ρ T1 = some (.nx ρ2, T2)) (h3 : whL c f n ρ2 T2 = r) : whL c f (n + 1) ρ T = r := by unfold whL; simp only [h, h2]; exact h3
theorem lc_of {vs : List Nat} {ys : List D} (h : fi ρ T = some (ds, T1)) (h2 : lcL gg c fa (wipeR ρ vs) ds T1 = some (ys, T2)) (h3 : ds.length ≤ 16777216) : eLc fi gg c fa vs ρ T = some (.list ys, T2) := by
  unfold eLc; simp only [h, h2]
  rw [if_pos (by rw [line24_eq]; exact h3)]
theorem dc_of {vs : List Nat} {es : List (D × D)} (h : fi ρ T = some (ds, T1)) (h2 : dcL gg c fa fb (wipeR ρ vs) ds [] T1 = some (es, T2)) (h3 : ds.length.ble line24 = true) : eDc fi gg c fa fb vs ρ T = some (.dict es, T2) := by
  unfold eDc; simp only [h, h2, h3, if_true]
theorem r1_of {k : Int} (h : fa ρ T = some (.int k, T1)) (h2 : ok62 k = true) : iR1 fa ρ T = some (rngD 0 k.toNat, T1) := by unfold iR1; simp only [h, h2, if_true]
theorem r2_of {k l : Int} (h : fa ρ T = some (.int k, T1)) (h2 : fb ρ T1 = some (.int l, T2)) (h3 : ok62 k = true) (h4 : ok62 l = true) : iR2 fa fb ρ T = some (rngD k (l - k).toNat, T2) := by
  unfold iR2; simp only [h, h2, h3, h4, Bool.and_self, if_true]
theorem cut_of {fl fh : FO} {lo hi : Option Int} (h : fa ρ T = some (x, T1)) (h1 : fl ρ T1 = some (lo, T2)) (h2 : fh ρ T2 = some (hi, T3)) (h3 : qCut x lo hi = some d) : eCut fa fl fh ρ T = some (d, T3) := by unfold eCut; simp only [h, h1, h2, h3]
theorem o_of {k : Int} (h : fa ρ T = some (.int k, T1)) : oSome fa ρ T = some (some k, T1) := by unfold oSome; rw [h]
end
theorem ok62_nat {n : Nat} (h : n < 4611686018427387904) : ok62 (n : Int) = true := by
  unfold ok62; rw [Bool.and_eq_true, decide_eq_true_eq, decide_eq_true_eq]; omega
theorem rngD_map : ∀ (n : Nat) (lo : Int), rngD lo n = (List.range n).map fun i => .int (lo + (i : Nat))
  | 0, _ => rfl
  | n + 1, lo => by
    rw [rngD, rngD_map n (lo + 1), List.range_succ_eq_map, List.map_cons, List.map_map]
    congr 1
    · show PyData.int lo = .int (lo + ((0 : Nat) : Int)); congr 1; omega
    · apply List.map_congr_left
      intro i _
      show PyData.int (lo + 1 + i) = .int (lo + ((i + 1 : Nat) : Int))
      congr 1; omega
theorem rngD0 (n : Nat) : rngD 0 n = (List.range n).map fun i => .int ((i : Nat) : Int) := by
  rw [rngD_map]
  apply List.map_congr_left
  intro i _
  congr 1; omega
section
variable {α : Type} {g : FG} {ft : FT} {fe : FE} {ρ : Rho} {T : Tp}
theorem lcL_map {src : α → D} {h : α → D} : ∀ {xs : List α}, (∀ x ∈ xs, ∃ ρ1, g (src x) ρ = some ρ1 ∧ ft ρ1 T = some (true, T) ∧ fe ρ1 T = some (h x, T)) → lcL g ft fe ρ (xs.map src) T = some (xs.map h, T)
  | [], _ => rfl
  | x :: xs, hx => by
    obtain ⟨ρ1, h1, h2, h3⟩ := hx x List.mem_cons_self
    rw [List.map_cons, lcL]
    simp only [h1, h2, h3, lcL_map fun y hy => hx y (List.mem_cons_of_mem _ hy)]
    rfl
theorem lcL_filter {src : α → D} {h : α → D} {p : α → Bool} : ∀ {xs : List α}, (∀ x ∈ xs, ∃ ρ1, g (src x) ρ = some ρ1 ∧ ft ρ1 T = some (p x, T) ∧ fe ρ1 T = some (h x, T)) → lcL g ft fe ρ (xs.map src) T = some ((xs.filter p).map h, T)
  | [], _ => rfl
  | x :: xs, hx => by
    obtain ⟨ρ1, h1, h2, h3⟩ := hx x List.mem_cons_self
    have ih := lcL_filter (xs := xs) fun y hy => hx y (List.mem_cons_of_mem _ hy)
    rw [List.map_cons, lcL]
    cases e : p x with
    | true =>
      rw [e] at h2
      simp only [h1, h2, h3, ih]
      rw [List.filter_cons, if_pos e]; rfl
    | false =>
      rw [e] at h2
      simp only [h1, h2, h3, ih]
      rw [List.filter_cons, if_neg (by rw [e]; exact Bool.false_ne_true)]
theorem for_inv {f : FS} {P : Nat → Rho → Prop} {T : Tp} {src : Nat → D} : ∀ (n k : Nat) (ρ : Rho), P k ρ → (∀ i ρ, k ≤ i → i < k + n → P i ρ → ∃ ρ1 ρ2, g (src i) ρ = some ρ1 ∧ f ρ1 T = some (.nx ρ2, T) ∧ P (i + 1) ρ2) →
    ∃ ρ2, P (k + n) ρ2 ∧ forL g f ((List.range' k n).map src) ρ T = some (.nx ρ2, T)
  | 0, k, ρ, h, _ => ⟨ρ, h, rfl⟩
  | n + 1, k, ρ, h, hs => by
    obtain ⟨ρ1, ρ2, h1, h2, h3⟩ := hs k ρ (Nat.le_refl _) (by omega) h
    obtain ⟨ρ3, h4, h5⟩ := for_inv n (k + 1) ρ2 h3 fun i ρ a b c => hs i ρ (by omega) (by omega) c
    exact ⟨ρ3, by rw [show k + (n + 1) = k + 1 + n by omega]; exact h4, for_cons h1 h2 h5⟩
end
/-! ### the operations on what is known -/
theorem q_mul {i j : Int} (h : j.natAbs < 18446744073709551616) : qMul (.int i) (.int j) = some (.int (i * j)) := by
  show qMulI i j = _
  unfold qMulI
  rw [if_pos (by rw [Bool.or_eq_true, Nat.blt_eq, Nat.blt_eq]; exact .inr h)]
theorem q_div {i j : Int} (h : 0 < j) (h2 : j < 1073741824) : qDiv (.int i) (.int j) = some (.int (i / j)) := by
  show qDivI i j = _
  unfold qDivI
  rw [if_pos (by rw [Bool.and_eq_true, decide_eq_true_eq, decide_eq_true_eq]; exact ⟨h, h2⟩)]
theorem q_mod {i j : Int} (h : 0 < j) : qMod (.int i) (.int j) = some (.int (i % j)) := by
  show qModI i j = _
  unfold qModI
  rw [if_pos h]
theorem S_len (l : List Nat) : (S l).length = l.length := rfl
theorem ble24 {n : Nat} (h : n ≤ 16777216) : n.ble line24 = true := Nat.ble_eq_true_of_le h
theorem blt24 {n : Nat} (h : n < 16777216) : n.blt line24 = true := Nat.ble_eq_true_of_le h
theorem q_cat {u v : List Nat} (h : u.length + v.length ≤ 16777216) : qAdd (.str (S u)) (.str (S v)) = some (.str (S (u ++ v))) := by
  show (if (u.length + v.length).ble line24 then _ else _) = _
  rw [if_pos (ble24 h)]; rfl
theorem q_len {u : List Nat} (h : u.length ≤ 16777216) : qLen [.str (S u)] = some (.int (u.length : Nat)) := by
  show (if u.length.ble line24 then _ else _) = _
  rw [if_pos (ble24 h)]; rfl
end Dv

/-! printed by gen.py: each def as a pure function, and its derivation. -/
namespace Dv
open PySem PySem.Spec PyProof.Rows L2
def topS (i : Nat) : Stmt := PySem.Challenge.pw_shiftsandcells_k47_whole_slopes_between.main.body.getD i (.Pass ⟨0, 0, 0, 0⟩)
def sSkip : FS := fun ρ T => some (.nx ρ, T)

/-! ### _law_take -/
abbrev s_law_take : Stmt := topS 25
abbrev N_law_take : List Str := ["tape", "many", "drawn", "mixed"]
theorem nd_law_take : N_law_take.Nodup := by decide
def f_law_take : FS :=
  (sSeq (sIf (tAndF (tBool (e2 qEq (eTget 0 (fun T => .int T.left)) (eC (.int 0)))) (tBool (e2 qLt (eTget 0 (fun T => .int T.idx)) (eCall qLen (aCons (eTget 0 (fun T => .list (T.cells.map .int))) aNil))))) (sSeq (sTset 0 (fun x T => { T with left := x }) (e2 qIx (eTget 0 (fun T => .list (T.cells.map .int))) (eTget 0 (fun T => .int T.idx))))
    (sTset 0 (fun x T => { T with idx := x }) (e2 qAdd (eTget 0 (fun T => .int T.idx)) (eC (.int 1))))) sSkip)
    (sSeq (sIf (tBool (e2 qGt (eTget 0 (fun T => .int T.left)) (eC (.int 0)))) (sSeq (sSet 2 (e2 qMod (eCall qInt (aCons (eTget 0 (fun T => .int T.left)) aNil)) (eOwn 1)))
    (sSeq (sTset 0 (fun x T => { T with left := x }) (e2 qDiv (eTget 0 (fun T => .int T.left)) (eOwn 1)))
    (sRet (eVar 2)))) sSkip)
    (sSeq (sTset 0 (fun x T => { T with salt := x }) (e2 qAdd (eTget 0 (fun T => .int T.salt)) (eC (.int 1))))
    (sSeq (sSet 3 (e2 qMod (eCall qInt (aCons (e2 qAdd (e2 qMul (eTget 0 (fun T => .int T.seed)) (eC (.int 48271))) (e2 qMul (eTget 0 (fun T => .int T.salt)) (eC (.int 69621)))) aNil)) (eC (.int 2147483647))))
    (sSeq (sSet 3 (e2 qMod (eCall qInt (aCons (e2 qAdd (e2 qAdd (e2 qMul (eOwn 3) (eOwn 3)) (e2 qMul (eTget 0 (fun T => .int T.salt)) (eC (.int 40692)))) (eC (.int 12345))) aNil)) (eC (.int 2147483399))))
    (sRet (e2 qMod (eCall qInt (aCons (eOwn 3) aNil)) (eOwn 1))))))))
def p_law_take := bodyT 4 f_law_take
theorem ok_law_take {P : Program} {w : World} {K : PySem.W.Frag} {mg : Str → Option Value} {base : Heap} (F : FunAt K mg "_law_take" s_law_take) (m_int : mg "int" = none) (m_len : mg "len" = none) : Has P w K mg base "_law_take" ["tape", "many"] 1 (spT K 1 p_law_take) := by
  obtain ⟨f, fd, gm, F⟩ := F
  refine ⟨f, fd, gm, F.kp, F.binds (ps := ["tape", "many"]) (fun _ _ _ _ _ _ us hl => match us, hl with | [_, _], _ => rfl), ?_⟩
  exact fn_t (N := N_law_take) (b := f_law_take) F ⟨rfl, rfl, rfl, nd_law_take, rfl, by decide +kernel, by decide +kernel⟩ rfl (by decide) fun cdv A outer s H E hr =>
   (ss_cons (ss_if (sw_and (st_sc (sc_eq hr (se_tget 0 hr tk_left).sb se_int.sb)) (sw_and1 (st_sc (sc_lt (se_tget 0 hr tk_at).sb (se_len m_len (sab_cons (se_tget 0 hr tk_cells).sb sab_nil)).sb)))).st (ss_cons (ss_tset 0 hr tu_left (se_at (se_tget 0 hr tk_cells).sb (se_tget 0 hr tk_at).sb))
    (ss_one (ss_tset 0 hr tu_at (se_add (se_tget 0 hr tk_at).sb se_int.sb)))) ss_nil)
    (ss_cons (ss_if (st_sc (sc_gt (se_tget 0 hr tk_left).sb se_int.sb)) (ss_cons (ss_set (i := 2) nd_law_take (se_mod (se_int1 m_int (sab_cons (se_tget 0 hr tk_left).sb sab_nil)).sb (sbv 1)))
    (ss_cons (ss_tset 0 hr tu_left (se_div (se_tget 0 hr tk_left).sb (sbv 1)))
    (ss_one (ss_ret (sv 2))))) ss_nil)
    (ss_cons (ss_tset 0 hr tu_salt (se_add (se_tget 0 hr tk_salt).sb se_int.sb))
    (ss_cons (ss_set (i := 3) nd_law_take (se_mod (se_int1 m_int (sab_cons (se_add (se_mul (se_tget 0 hr tk_seed).sb se_int.sb).sb (se_mul (se_tget 0 hr tk_salt).sb se_int.sb).sb).sb sab_nil)).sb se_int.sb))
    (ss_cons (ss_set (i := 3) nd_law_take (se_mod (se_int1 m_int (sab_cons (se_add (se_add (se_mul (sbv 3) (sbv 3)).sb (se_mul (se_tget 0 hr tk_salt).sb se_int.sb).sb).sb se_int.sb).sb sab_nil)).sb se_int.sb))
    (ss_one (ss_ret (se_mod (se_int1 m_int (sab_cons (sbv 3) sab_nil)).sb (sbv 1)))))))))

/-! ### _law_neighbours -/
abbrev s_law_neighbours : Stmt := topS 29
abbrev N_law_neighbours : List Str := ["tape", "most", "one", "other", "k", "middle"]
theorem nd_law_neighbours : N_law_neighbours.Nodup := by decide
def f_law_neighbours : FS :=
  (sSeq (sAsgG (eTup (aCons (eTup (aCons (eC (.int 0)) (aCons (eC (.int 1)) aNil))) (aCons (eTup (aCons (eC (.int 1)) (aCons (eC (.int 1)) aNil))) aNil))) (gTupD 2 (gsCons (gSet 2) (gsCons (gSet 3) gsNil))))
    (sSeq (sFor (iR1 (eCallT 0 1 p_law_take (aCons (eC (.int 12)) aNil))) (gSet 4) (sSeq (sSet 5 (eTup (aCons (e2 qAdd (e2 qIx (eOwn 2) (eC (.int 0))) (e2 qIx (eOwn 3) (eC (.int 0)))) (aCons (e2 qAdd (e2 qIx (eOwn 2) (eC (.int 1))) (e2 qIx (eOwn 3) (eC (.int 1)))) aNil))))
    (sSeq (sIf (tBool (e2 qGt (e2 qIx (eOwn 5) (eC (.int 1))) (eOwn 1))) sBreak sSkip)
    (sIf (tBool (e2 qEq (eCallT 0 1 p_law_take (aCons (eC (.int 2)) aNil)) (eC (.int 0)))) (sSet 2 (eVar 5)) (sSet 3 (eVar 5))))))
    (sRet (eTup (aCons (eVar 2) (aCons (eVar 3) aNil))))))
def p_law_neighbours := bodyT 6 f_law_neighbours
theorem ok_law_neighbours {P : Program} {w : World} {K : PySem.W.Frag} {mg : Str → Option Value} {base : Heap} (F : FunAt K mg "_law_neighbours" s_law_neighbours) (H_law_take : Has P w K mg base "_law_take" ["tape", "many"] 1 (spT K 1 p_law_take)) (m_range : mg "range" = none) : Has P w K mg base "_law_neighbours" ["tape", "most"] 2 (spT K 1 p_law_neighbours) := by
  obtain ⟨f, fd, gm, F⟩ := F
  refine ⟨f, fd, gm, F.kp, F.binds (ps := ["tape", "most"]) (fun _ _ _ _ _ _ us hl => match us, hl with | [_, _], _ => rfl), ?_⟩
  exact fn_t (N := N_law_neighbours) (b := f_law_neighbours) F ⟨rfl, rfl, rfl, nd_law_neighbours, rfl, by decide +kernel, by decide +kernel⟩ rfl (by decide) fun cdv A outer s H E hr =>
   (ss_cons (ss_asg (se_tup (sa_cons (se_tup (sa_cons se_int (sa_cons se_int sa_nil))) (sa_cons (se_tup (sa_cons se_int (sa_cons se_int sa_nil))) sa_nil))) (sg_tup rfl (sgs_cons (sg_name 2 nd_law_neighbours) (sgs_cons (sg_name 3 nd_law_neighbours) sgs_nil))))
    (ss_cons (ss_for PassesOwn.never rfl (si_r1 m_range (se_callTH 0 H_law_take hr (by decide) (sa_cons se_int sa_nil))) (sg_name 4 nd_law_neighbours) (ss_cons (ss_set (i := 5) nd_law_neighbours (se_tup (sa_cons (se_add (se_at (sbv 2) se_int.sb).sb (se_at (sbv 3) se_int.sb).sb) (sa_cons (se_add (se_at (sbv 2) se_int.sb).sb (se_at (sbv 3) se_int.sb).sb) sa_nil))))
    (ss_cons (ss_if (st_sc (sc_gt (se_at (sbv 5) se_int.sb).sb (sbv 1))) (ss_one ss_break) ss_nil)
    (ss_one (ss_if (st_sc (sc_eq hr (se_callTH 0 H_law_take hr (by decide) (sa_cons se_int sa_nil)).sb se_int.sb)) (ss_one (ss_set (i := 2) nd_law_neighbours (sv 5))) (ss_one (ss_set (i := 3) nd_law_neighbours (sv 5))))))))
    (ss_one (ss_ret (se_tup (sa_cons (sv 2) (sa_cons (sv 3) sa_nil)))))))

/-! ### common -/
abbrev s_common : Stmt := topS 10
abbrev N_common : List Str := ["a", "b"]
theorem nd_common : N_common.Nodup := by decide
def f_common : FS :=
  (sSeq (whL (tTru (eOwn 1)) (sPar 0 1 (eVar 1) (e2 qMod (eOwn 0) (eOwn 1))) 100)
    (sRet (eVar 0)))
def p_common := bodyP 2 f_common
theorem ok_common {P : Program} {w : World} {K : PySem.W.Frag} {mg : Str → Option Value} {base : Heap} (F : FunAt K mg "common" s_common) : Has P w K mg base "common" ["a", "b"] 1 (spP K 2 p_common) := by
  obtain ⟨f, fd, gm, F⟩ := F
  refine ⟨f, fd, gm, F.kp, F.binds (ps := ["a", "b"]) (fun _ _ _ _ _ _ us hl => match us, hl with | [_, _], _ => rfl), ?_⟩
  exact fn_p (N := N_common) (b := f_common) F ⟨rfl, rfl, rfl, nd_common, rfl, by decide +kernel, by decide +kernel⟩ (by decide) fun cdv A outer s H E hr =>
   (ss_cons (ss_while 100 PassesOwn.never (st_tru (sbv 1)) (ss_one (ss_par (i := 0) (j := 1) rfl nd_common (sv 1) (se_mod (sbv 0) (sbv 1)))))
    (ss_one (ss_ret (sv 0))))

/-! ### check_slope -/
abbrev s_check_slope : Stmt := topS 11
abbrev N_check_slope : List Str := ["slope", "n", "d"]
theorem nd_check_slope : N_check_slope.Nodup := by decide
def f_check_slope : FS :=
  (sSeq (sAsgG (eVar 0) (gTupD 2 (gsCons (gSet 1) (gsCons (gSet 2) gsNil))))
    (sIf (tOrF (tNotF (tBool (eCh (eC (.int 0)) (lCons qLe (eOwn 1) (lCons qLe (eOwn 2) (lLast qLe (eC (.int 1000)))))))) (tOrF (tBool (e2 qLt (eOwn 2) (eC (.int 1)))) (tBool (e2 qNe (eCall (argc 2 p_common) (aCons (eVar 1) (aCons (eVar 2) aNil))) (eC (.int 1)))))) sNever sSkip))
def p_check_slope := bodyP 3 f_check_slope
theorem ok_check_slope {P : Program} {w : World} {K : PySem.W.Frag} {mg : Str → Option Value} {base : Heap} (F : FunAt K mg "check_slope" s_check_slope) (H_common : Has P w K mg base "common" ["a", "b"] 1 (spP K 2 p_common)) : Has P w K mg base "check_slope" ["slope"] 2 (spP K 1 p_check_slope) := by
  obtain ⟨f, fd, gm, F⟩ := F
  refine ⟨f, fd, gm, F.kp, F.binds (ps := ["slope"]) (fun _ _ _ _ _ _ us hl => match us, hl with | [_], _ => rfl), ?_⟩
  exact fn_p (N := N_check_slope) (b := f_check_slope) F ⟨rfl, rfl, rfl, nd_check_slope, rfl, by decide +kernel, by decide +kernel⟩ (by decide) fun cdv A outer s H E hr =>
   (ss_cons (ss_asg (sv 0) (sg_tup rfl (sgs_cons (sg_name 1 nd_check_slope) (sgs_cons (sg_name 2 nd_check_slope) sgs_nil))))
    (ss_one (ss_if (sw_or (st_not (st_ch se_int.sb (slc_le (sbv 1) (slc_le (sbv 2) (sll_le se_int.sb))))) (sw_or (st_sc (sc_lt (sbv 2) se_int.sb)) (sw_or1 (st_sc (sc_ne hr (se_callH H_common hr (by decide) (sa_cons (sv 1) (sa_cons (sv 2) sa_nil))).sb se_int.sb))))).st (ss_one ss_never) ss_nil)))

/-! ### line_word -/
abbrev s_line_word : Stmt := topS 12
abbrev N_line_word : List Str := ["slope", "start", "length", "n", "d", "k"]
theorem nd_line_word : N_line_word.Nodup := by decide
def f_line_word : FS :=
  (sSeq (sDrop (eCall (argc 1 p_check_slope) (aCons (eVar 0) aNil)))
    (sSeq (sIf (tOrF (tNotF (tBool (eCh (eC (.int 0)) (lCons qLe (eOwn 1) (lLast qLe (eC (.int 10000))))))) (tNotF (tBool (eCh (eC (.int 0)) (lCons qLe (eOwn 2) (lLast qLe (eC (.int 2000)))))))) sNever sSkip)
    (sSeq (sAsgG (eVar 0) (gTupD 2 (gsCons (gSet 3) (gsCons (gSet 4) gsNil))))
    (sRet (eMeth qJoin (eC (.str "")) (aCons (eLc (iR2 (eVar 1) (e2 qAdd (eOwn 1) (eOwn 2))) (gSet 5) tTrue (eCall qStr (aCons (e2 qSub (e2 qDiv (e2 qMul (e2 qAdd (eOwn 5) (eC (.int 1))) (eOwn 3)) (eOwn 4)) (e2 qDiv (e2 qMul (eOwn 5) (eOwn 3)) (eOwn 4))) aNil)) [5]) aNil))))))
def p_line_word := bodyP 6 f_line_word
theorem ok_line_word {P : Program} {w : World} {K : PySem.W.Frag} {mg : Str → Option Value} {base : Heap} (F : FunAt K mg "line_word" s_line_word) (H_check_slope : Has P w K mg base "check_slope" ["slope"] 2 (spP K 1 p_check_slope)) (m_range : mg "range" = none) (m_str : mg "str" = none) : Has P w K mg base "line_word" ["slope", "start", "length"] 3 (spP K 3 p_line_word) := by
  obtain ⟨f, fd, gm, F⟩ := F
  refine ⟨f, fd, gm, F.kp, F.binds (ps := ["slope", "start", "length"]) (fun _ _ _ _ _ _ us hl => match us, hl with | [_, _, _], _ => rfl), ?_⟩
  exact fn_p (N := N_line_word) (b := f_line_word) F ⟨rfl, rfl, rfl, nd_line_word, rfl, by decide +kernel, by decide +kernel⟩ (by decide) fun cdv A outer s H E hr =>
   (ss_cons (ss_expr (se_callH H_check_slope hr (by decide) (sa_cons (sv 0) sa_nil)))
    (ss_cons (ss_if (sw_or (st_not (st_ch se_int.sb (slc_le (sbv 1) (sll_le se_int.sb)))) (sw_or1 (st_not (st_ch se_int.sb (slc_le (sbv 2) (sll_le se_int.sb)))))).st (ss_one ss_never) ss_nil)
    (ss_cons (ss_asg (sv 0) (sg_tup rfl (sgs_cons (sg_name 3 nd_line_word) (sgs_cons (sg_name 4 nd_line_word) sgs_nil))))
    (ss_one (ss_ret (se_join se_str.sb (sab_cons (sn_lc (own := [("k", 5)]) rfl nd_line_word (si_r2 m_range (sv 1) (se_add (sbv 1) (sbv 2))) (blkOk_by (by rfl)) (fun _ _ _ _ _ => (sg_name 5 nd_line_word)) (fun _ _ _ _ _ => sts_nil) (fun _ _ _ _ _ => (se_str1 m_str (sab_cons (se_sub (se_div (se_mul (se_add (sbv 5) se_int.sb).sb (sbv 3)).sb (sbv 4)).sb (se_div (se_mul (sbv 5) (sbv 3)).sb (sbv 4)).sb).sb sab_nil)))).se.sb sab_nil)))))))

/-! ### round_of_slope -/
abbrev s_round_of_slope : Stmt := topS 13
abbrev N_round_of_slope : List Str := ["slope"]
theorem nd_round_of_slope : N_round_of_slope.Nodup := by decide
def f_round_of_slope : FS :=
  (sRet (eCall (argc 3 p_line_word) (aCons (eVar 0) (aCons (eC (.int 0)) (aCons (e2 qIx (eOwn 0) (eC (.int 1))) aNil)))))
def p_round_of_slope := bodyP 1 f_round_of_slope
theorem ok_round_of_slope {P : Program} {w : World} {K : PySem.W.Frag} {mg : Str → Option Value} {base : Heap} (F : FunAt K mg "round_of_slope" s_round_of_slope) (H_line_word : Has P w K mg base "line_word" ["slope", "start", "length"] 3 (spP K 3 p_line_word)) : Has P w K mg base "round_of_slope" ["slope"] 4 (spP K 1 p_round_of_slope) := by
  obtain ⟨f, fd, gm, F⟩ := F
  refine ⟨f, fd, gm, F.kp, F.binds (ps := ["slope"]) (fun _ _ _ _ _ _ us hl => match us, hl with | [_], _ => rfl), ?_⟩
  exact fn_p (N := N_round_of_slope) (b := f_round_of_slope) F ⟨rfl, rfl, rfl, nd_round_of_slope, rfl, by decide +kernel, by decide +kernel⟩ (by decide) fun cdv A outer s H E hr =>
   (ss_one (ss_ret (se_callH H_line_word hr (by decide) (sa_cons (sv 0) (sa_cons se_int (sa_cons (se_at (sbv 0) se_int.sb) sa_nil))))))

/-! ### check_word -/
abbrev s_check_word : Stmt := topS 5
abbrev N_check_word : List Str := ["word", "sign"]
theorem nd_check_word : N_check_word.Nodup := by decide
def f_check_word : FS :=
  (sIf (tOrF (tBool (e2 qGt (eCall qLen (aCons (eOwn 0) aNil)) (eC (.int 40)))) (tNotF (tTru (eCall qAll (aCons (eLc (iSeq (eVar 0)) (gSet 1) tTrue (e2 qIn (eOwn 1) (eC (.str "01"))) [1]) aNil))))) sNever sSkip)
def p_check_word := bodyP 2 f_check_word
theorem ok_check_word {P : Program} {w : World} {K : PySem.W.Frag} {mg : Str → Option Value} {base : Heap} (F : FunAt K mg "check_word" s_check_word) (m_all : mg "all" = none) (m_len : mg "len" = none) (g_MOST_LENGTH : ∃ t, mg "MOST_LENGTH" = some (.int 40 t)) : Has P w K mg base "check_word" ["word"] 1 (spP K 1 p_check_word) := by
  obtain ⟨f, fd, gm, F⟩ := F
  refine ⟨f, fd, gm, F.kp, F.binds (ps := ["word"]) (fun _ _ _ _ _ _ us hl => match us, hl with | [_], _ => rfl), ?_⟩
  exact fn_p (N := N_check_word) (b := f_check_word) F ⟨rfl, rfl, rfl, nd_check_word, rfl, by decide +kernel, by decide +kernel⟩ (by decide) fun cdv A outer s H E hr =>
   (ss_one (ss_if (sw_or (st_sc (sc_gt (se_len m_len (sab_cons (sbv 0) sab_nil)).sb (se_gl (v := (.int 40)) g_MOST_LENGTH.choose_spec ⟨_, rfl⟩ (fun _ _ _ => .int _)).sb)) (sw_or1 (st_not (st_tru (se_all rfl m_all (sab_cons (sn_lc (own := [("sign", 1)]) rfl nd_check_word (si_seq (sv 0)) (blkOk_by (by rfl)) (fun _ _ _ _ _ => (sg_name 1 nd_check_word)) (fun _ _ _ _ _ => sts_nil) (fun _ _ _ _ _ => (se_sc (sc_in (sbv 1) se_str.sb)))).se.sb sab_nil)).sb)))).st (ss_one ss_never) ss_nil))

/-! ### slope_of -/
abbrev s_slope_of : Stmt := topS 14
abbrev N_slope_of : List Str := ["word", "n", "told"]
theorem nd_slope_of : N_slope_of.Nodup := by decide
def f_slope_of : FS :=
  (sSeq (sIf (tNotF (tBool (eCh (eC (.int 1)) (lCons qLe (eCall qLen (aCons (eOwn 0) aNil)) (lLast qLe (eC (.int 40))))))) sNever sSkip)
    (sSeq (sDrop (eCall (argc 1 p_check_word) (aCons (eVar 0) aNil)))
    (sSeq (sSet 1 (eMeth qCount (eOwn 0) (aCons (eC (.str "1")) aNil)))
    (sSeq (sIf (tBool (e2 qNe (eCall (argc 2 p_common) (aCons (eVar 1) (aCons (eCall qLen (aCons (eOwn 0) aNil)) aNil))) (eC (.int 1)))) (sRet (eC .none)) sSkip)
    (sSeq (sSet 2 (eCall (argc 1 p_round_of_slope) (aCons (eTup (aCons (eVar 1) (aCons (eCall qLen (aCons (eOwn 0) aNil)) aNil))) aNil)))
    (sRet (eIf (tBool (e2 qIn (eOwn 0) (e2 qAdd (eOwn 2) (eOwn 2)))) (eTup (aCons (eVar 1) (aCons (eCall qLen (aCons (eOwn 0) aNil)) aNil))) (eC .none))))))))
def p_slope_of := bodyP 3 f_slope_of
theorem ok_slope_of {P : Program} {w : World} {K : PySem.W.Frag} {mg : Str → Option Value} {base : Heap} (F : FunAt K mg "slope_of" s_slope_of) (H_check_word : Has P w K mg base "check_word" ["word"] 1 (spP K 1 p_check_word)) (H_common : Has P w K mg base "common" ["a", "b"] 1 (spP K 2 p_common)) (H_round_of_slope : Has P w K mg base "round_of_slope" ["slope"] 4 (spP K 1 p_round_of_slope)) (m_len : mg "len" = none) (g_MOST_LENGTH : ∃ t, mg "MOST_LENGTH" = some (.int 40 t)) : Has P w K mg base "slope_of" ["word"] 5 (spP K 1 p_slope_of) := by
  obtain ⟨f, fd, gm, F⟩ := F
  refine ⟨f, fd, gm, F.kp, F.binds (ps := ["word"]) (fun _ _ _ _ _ _ us hl => match us, hl with | [_], _ => rfl), ?_⟩
  exact fn_p (N := N_slope_of) (b := f_slope_of) F ⟨rfl, rfl, rfl, nd_slope_of, rfl, by decide +kernel, by decide +kernel⟩ (by decide) fun cdv A outer s H E hr =>
   (ss_cons (ss_if (st_not (st_ch se_int.sb (slc_le (se_len m_len (sab_cons (sbv 0) sab_nil)).sb (sll_le (se_gl (v := (.int 40)) g_MOST_LENGTH.choose_spec ⟨_, rfl⟩ (fun _ _ _ => .int _)).sb)))) (ss_one ss_never) ss_nil)
    (ss_cons (ss_expr (se_callH H_check_word hr (by decide) (sa_cons (sv 0) sa_nil)))
    (ss_cons (ss_set (i := 1) nd_slope_of (se_count (sbv 0) (sab_cons se_str.sb sab_nil)))
    (ss_cons (ss_if (st_sc (sc_ne hr (se_callH H_common hr (by decide) (sa_cons (sv 1) (sa_cons (se_len m_len (sab_cons (sbv 0) sab_nil)) sa_nil))).sb se_int.sb)) (ss_one (ss_ret se_non)) ss_nil)
    (ss_cons (ss_set (i := 2) nd_slope_of (se_callH H_round_of_slope hr (by decide) (sa_cons (se_tup (sa_cons (sv 1) (sa_cons (se_len m_len (sab_cons (sbv 0) sab_nil)) sa_nil))) sa_nil)))
    (ss_one (ss_ret (se_if (st_sc (sc_in (sbv 0) (se_add (sbv 2) (sbv 2)).sb)) (se_tup (sa_cons (sv 1) (sa_cons (se_len m_len (sab_cons (sbv 0) sab_nil)) sa_nil))) se_non))))))))

/-! ### _law_between_right -/
abbrev s_law_between_right : Stmt := topS 31
abbrev N_law_between_right : List Str := ["tape", "one", "other", "middle", "word", "left", "right"]
theorem nd_law_between_right : N_law_between_right.Nodup := by decide
def f_law_between_right_1 : FS :=
  (sAsgG (eCallT 0 1 p_law_neighbours (aCons (eC (.int 60)) aNil)) (gTupD 2 (gsCons (gSet 1) (gsCons (gSet 2) gsNil))))
def f_law_between_right_2 : FS :=
  (sSet 3 (eTup (aCons (e2 qAdd (e2 qIx (eOwn 1) (eC (.int 0))) (e2 qIx (eOwn 2) (eC (.int 0)))) (aCons (e2 qAdd (e2 qIx (eOwn 1) (eC (.int 1))) (e2 qIx (eOwn 2) (eC (.int 1)))) aNil))))
def f_law_between_right_3 : FS :=
  (sSet 4 (e2 qAdd (eCall (argc 1 p_round_of_slope) (aCons (eVar 1) aNil)) (eCall (argc 1 p_round_of_slope) (aCons (eVar 2) aNil))))
def f_law_between_right_4 : FS :=
  (sIf (tOrF (tBool (e2 qNe (e2 qSub (e2 qMul (e2 qIx (eOwn 2) (eC (.int 0))) (e2 qIx (eOwn 1) (eC (.int 1)))) (e2 qMul (e2 qIx (eOwn 1) (eC (.int 0))) (e2 qIx (eOwn 2) (eC (.int 1))))) (eC (.int 1)))) (tBool (e2 qNe (eCall (argc 1 p_round_of_slope) (aCons (eVar 3) aNil)) (eOwn 4)))) (sRet (eC (.bool false))) sSkip)
def f_law_between_right_5 : FS :=
  (sPar 5 6 (eTup (aCons (e2 qAdd (e2 qIx (eOwn 1) (eC (.int 0))) (e2 qIx (eOwn 3) (eC (.int 0)))) (aCons (e2 qAdd (e2 qIx (eOwn 1) (eC (.int 1))) (e2 qIx (eOwn 3) (eC (.int 1)))) aNil))) (eTup (aCons (e2 qAdd (e2 qIx (eOwn 3) (eC (.int 0))) (e2 qIx (eOwn 2) (eC (.int 0)))) (aCons (e2 qAdd (e2 qIx (eOwn 3) (eC (.int 1))) (e2 qIx (eOwn 2) (eC (.int 1)))) aNil))))
def f_law_between_right_6 : FS :=
  (sIf (tOrF (tBool (e2 qNe (eCall (argc 1 p_round_of_slope) (aCons (eVar 5) aNil)) (e2 qAdd (eCall (argc 1 p_round_of_slope) (aCons (eVar 1) aNil)) (eOwn 4)))) (tBool (e2 qNe (eCall (argc 1 p_round_of_slope) (aCons (eVar 6) aNil)) (e2 qAdd (eOwn 4) (eCall (argc 1 p_round_of_slope) (aCons (eVar 2) aNil)))))) (sRet (eC (.bool false))) sSkip)
def f_law_between_right_7 : FS :=
  (sIf (tAndF (tBool (e2 qLt (eCall qLen (aCons (eOwn 4) aNil)) (eC (.int 41)))) (tBool (e2 qNe (eCall (argc 1 p_slope_of) (aCons (eVar 4) aNil)) (eOwn 3)))) (sRet (eC (.bool false))) sSkip)
def f_law_between_right_8 : FS :=
  (sRet (eOr (e2 qGt (eCall qLen (aCons (eOwn 4) aNil)) (eC (.int 40))) (e2 qEq (eCall (argc 1 p_slope_of) (aCons (e2 qAdd (eCall (argc 1 p_round_of_slope) (aCons (eVar 2) aNil)) (eCall (argc 1 p_round_of_slope) (aCons (eVar 1) aNil))) aNil)) (eOwn 3))))
def f_law_between_right : FS :=
  (sSeq f_law_between_right_1
    (sSeq f_law_between_right_2
    (sSeq f_law_between_right_3
    (sSeq f_law_between_right_4
    (sSeq f_law_between_right_5
    (sSeq f_law_between_right_6
    (sSeq f_law_between_right_7
    f_law_between_right_8)))))))
def p_law_between_right := bodyT 7 f_law_between_right
theorem ok_law_between_right {P : Program} {w : World} {K : PySem.W.Frag} {mg : Str → Option Value} {base : Heap} (F : FunAt K mg "_law_between_right" s_law_between_right) (H_law_neighbours : Has P w K mg base "_law_neighbours" ["tape", "most"] 2 (spT K 1 p_law_neighbours)) (H_round_of_slope : Has P w K mg base "round_of_slope" ["slope"] 4 (spP K 1 p_round_of_slope)) (H_slope_of : Has P w K mg base "slope_of" ["word"] 5 (spP K 1 p_slope_of)) (m_len : mg "len" = none) : Has P w K mg base "_law_between_right" ["tape"] 6 (spT K 0 p_law_between_right) := by
  obtain ⟨f, fd, gm, F⟩ := F
  refine ⟨f, fd, gm, F.kp, F.binds (ps := ["tape"]) (fun _ _ _ _ _ _ us hl => match us, hl with | [_], _ => rfl), ?_⟩
  exact fn_t (N := N_law_between_right) (b := f_law_between_right) F ⟨rfl, rfl, rfl, nd_law_between_right, rfl, by decide +kernel, by decide +kernel⟩ rfl (by decide) fun cdv A outer s H E hr =>
   (ss_cons (ss_asg (se_callTH 0 H_law_neighbours hr (by decide) (sa_cons se_int sa_nil)) (sg_tup rfl (sgs_cons (sg_name 1 nd_law_between_right) (sgs_cons (sg_name 2 nd_law_between_right) sgs_nil))))
    (ss_cons (ss_set (i := 3) nd_law_between_right (se_tup (sa_cons (se_add (se_at (sbv 1) se_int.sb).sb (se_at (sbv 2) se_int.sb).sb) (sa_cons (se_add (se_at (sbv 1) se_int.sb).sb (se_at (sbv 2) se_int.sb).sb) sa_nil))))
    (ss_cons (ss_set (i := 4) nd_law_between_right (se_add (se_callH H_round_of_slope hr (by decide) (sa_cons (sv 1) sa_nil)).sb (se_callH H_round_of_slope hr (by decide) (sa_cons (sv 2) sa_nil)).sb))
    (ss_cons (ss_if (sw_or (st_sc (sc_ne hr (se_sub (se_mul (se_at (sbv 2) se_int.sb).sb (se_at (sbv 1) se_int.sb).sb).sb (se_mul (se_at (sbv 1) se_int.sb).sb (se_at (sbv 2) se_int.sb).sb).sb).sb se_int.sb)) (sw_or1 (st_sc (sc_ne hr (se_callH H_round_of_slope hr (by decide) (sa_cons (sv 3) sa_nil)).sb (sbv 4))))).st (ss_one (ss_ret se_bl)) ss_nil)
    (ss_cons (ss_par (i := 5) (j := 6) rfl nd_law_between_right (se_tup (sa_cons (se_add (se_at (sbv 1) se_int.sb).sb (se_at (sbv 3) se_int.sb).sb) (sa_cons (se_add (se_at (sbv 1) se_int.sb).sb (se_at (sbv 3) se_int.sb).sb) sa_nil))) (se_tup (sa_cons (se_add (se_at (sbv 3) se_int.sb).sb (se_at (sbv 2) se_int.sb).sb) (sa_cons (se_add (se_at (sbv 3) se_int.sb).sb (se_at (sbv 2) se_int.sb).sb) sa_nil))))
    (ss_cons (ss_if (sw_or (st_sc (sc_ne hr (se_callH H_round_of_slope hr (by decide) (sa_cons (sv 5) sa_nil)).sb (se_add (se_callH H_round_of_slope hr (by decide) (sa_cons (sv 1) sa_nil)).sb (sbv 4)).sb)) (sw_or1 (st_sc (sc_ne hr (se_callH H_round_of_slope hr (by decide) (sa_cons (sv 6) sa_nil)).sb (se_add (sbv 4) (se_callH H_round_of_slope hr (by decide) (sa_cons (sv 2) sa_nil)).sb).sb)))).st (ss_one (ss_ret se_bl)) ss_nil)
    (ss_cons (ss_if (sw_and (st_sc (sc_lt (se_len m_len (sab_cons (sbv 4) sab_nil)).sb se_int.sb)) (sw_and1 (st_sc (sc_ne hr (se_callH H_slope_of hr (by decide) (sa_cons (sv 4) sa_nil)).sb (sbv 3))))).st (ss_one (ss_ret se_bl)) ss_nil)
    (ss_one (ss_ret (se_or (se_sc (sc_gt (se_len m_len (sab_cons (sbv 4) sab_nil)).sb se_int.sb)) (se_one (se_sc (sc_eq hr (se_callH H_slope_of hr (by decide) (sa_cons (se_add (se_callH H_round_of_slope hr (by decide) (sa_cons (sv 2) sa_nil)).sb (se_callH H_round_of_slope hr (by decide) (sa_cons (sv 1) sa_nil)).sb) sa_nil)).sb (sbv 3))))))))))))))

/-! ### from_parts -/
abbrev s_from_parts : Stmt := topS 16
abbrev N_from_parts : List Str := ["row", "a", "n", "d"]
theorem nd_from_parts : N_from_parts.Nodup := by decide
def f_from_parts : FS :=
  (sSeq (sIf (tOrF (tNotF (tBool (eCh (eC (.int 1)) (lCons qLe (eCall qLen (aCons (eOwn 0) aNil)) (lLast qLe (eC (.int 12))))))) (tNotF (tTru (eCall qAll (aCons (eLc (iSeq (eVar 0)) (gSet 1) tTrue (eCh (eC (.int 1)) (lCons qLe (eOwn 1) (lLast qLe (eC (.int 50))))) [1]) aNil))))) sNever sSkip)
    (sSeq (sAsgG (eTup (aCons (eC (.int 0)) (aCons (eC (.int 1)) aNil))) (gTupD 2 (gsCons (gSet 2) (gsCons (gSet 3) gsNil))))
    (sSeq (sFor (iRevF (eVar 0)) (gSet 1) (sPar 2 3 (eVar 3) (e2 qAdd (e2 qMul (eOwn 1) (eOwn 3)) (eOwn 2))))
    (sSeq (sIf (tBool (e2 qGt (eOwn 3) (eC (.int 1000)))) sNever sSkip)
    (sRet (eTup (aCons (eVar 2) (aCons (eVar 3) aNil))))))))
def p_from_parts := bodyP 4 f_from_parts
theorem ok_from_parts {P : Program} {w : World} {K : PySem.W.Frag} {mg : Str → Option Value} {base : Heap} (F : FunAt K mg "from_parts" s_from_parts) (m_all : mg "all" = none) (m_len : mg "len" = none) (m_reversed : mg "reversed" = none) : Has P w K mg base "from_parts" ["row"] 1 (spP K 1 p_from_parts) := by
  obtain ⟨f, fd, gm, F⟩ := F
  refine ⟨f, fd, gm, F.kp, F.binds (ps := ["row"]) (fun _ _ _ _ _ _ us hl => match us, hl with | [_], _ => rfl), ?_⟩
  exact fn_p (N := N_from_parts) (b := f_from_parts) F ⟨rfl, rfl, rfl, nd_from_parts, rfl, by decide +kernel, by decide +kernel⟩ (by decide) fun cdv A outer s H E hr =>
   (ss_cons (ss_if (sw_or (st_not (st_ch se_int.sb (slc_le (se_len m_len (sab_cons (sbv 0) sab_nil)).sb (sll_le se_int.sb)))) (sw_or1 (st_not (st_tru (se_all rfl m_all (sab_cons (sn_lc (own := [("a", 1)]) rfl nd_from_parts (si_seq (sv 0)) (blkOk_by (by rfl)) (fun _ _ _ _ _ => (sg_name 1 nd_from_parts)) (fun _ _ _ _ _ => sts_nil) (fun _ _ _ _ _ => (se_ch se_int.sb (slc_le (sbv 1) (sll_le se_int.sb))))).se.sb sab_nil)).sb)))).st (ss_one ss_never) ss_nil)
    (ss_cons (ss_asg (se_tup (sa_cons se_int (sa_cons se_int sa_nil))) (sg_tup rfl (sgs_cons (sg_name 2 nd_from_parts) (sgs_cons (sg_name 3 nd_from_parts) sgs_nil))))
    (ss_cons (ss_for PassesOwn.never rfl (Dv.si_rev m_reversed (sv 0)) (sg_name 1 nd_from_parts) (ss_one (ss_par (i := 2) (j := 3) rfl nd_from_parts (sv 3) (se_add (se_mul (sbv 1) (sbv 3)).sb (sbv 2)))))
    (ss_cons (ss_if (st_sc (sc_gt (sbv 3) se_int.sb)) (ss_one ss_never) ss_nil)
    (ss_one (ss_ret (se_tup (sa_cons (sv 2) (sa_cons (sv 3) sa_nil)))))))))

/-! ### lowered -/
abbrev s_lowered : Stmt := topS 21
abbrev N_lowered : List Str := ["word", "told", "sign"]
theorem nd_lowered : N_lowered.Nodup := by decide
def f_lowered : FS :=
  (sSeq (sDrop (eCall (argc 1 p_check_word) (aCons (eVar 0) aNil)))
    (sSeq (sSet 1 (eRpl "01" "2" (eVar 0)))
    (sSeq (sIf (tBool (e2 qIn (eC (.str "1")) (eOwn 1))) sNever sSkip)
    (sSeq (sRet (eMeth qJoin (eC (.str "")) (aCons (eLc (iSeq (eVar 1)) (gSet 2) tTrue (eIf (tBool (e2 qEq (eOwn 2) (eC (.str "2")))) (eC (.str "1")) (eC (.str "0"))) [2]) aNil))) sSkip))))
def p_lowered := bodyP 3 f_lowered
theorem ok_lowered {P : Program} {w : World} {K : PySem.W.Frag} {mg : Str → Option Value} {base : Heap} (F : FunAt K mg "lowered" s_lowered) (H_check_word : Has P w K mg base "check_word" ["word"] 1 (spP K 1 p_check_word)) : HasT P w K mg base "lowered" ["word"] 2 (spP K 1 p_lowered) := by
  obtain ⟨f, fd, gm, F⟩ := F
  refine ⟨f, fd, gm, F.kp, F.binds (ps := ["word"]) (fun _ _ _ _ _ _ us hl => match us, hl with | [_], _ => rfl), ?_⟩
  exact fnT_p (N := N_lowered) (b := f_lowered) F ⟨rfl, rfl, rfl, nd_lowered, rfl, by decide +kernel, by decide +kernel⟩ (by decide) fun cdv A outer s H E hr =>
   (ssst_cons (sst_of (ss_expr (se_callH H_check_word hr (by decide) (sa_cons (sv 0) sa_nil))))
    (ssst_cons (sst_set (i := 1) nd_lowered (set_repl (sv 0)))
    (ssst_cons (sst_of (ss_if (st_sc (sc_in se_str.sb (sbv 1))) (ss_one ss_never) ss_nil))
    (ssst_cons (sst_of (ss_ret (se_join se_str.sb (sab_cons (sn_lc (own := [("sign", 2)]) rfl nd_lowered (si_seq (sv 1)) (blkOk_by (by rfl)) (fun _ _ _ _ _ => (sg_name 2 nd_lowered)) (fun _ _ _ _ _ => sts_nil) (fun _ _ _ _ _ => (se_if (st_sc (sc_eq hr (sbv 2) se_str.sb)) se_str se_str))).se.sb sab_nil)))) (ssst_of ss_nil)))))

/-! ### parts_of -/
abbrev s_parts_of : Stmt := topS 15
abbrev N_parts_of : List Str := ["slope", "n", "d", "found"]
theorem nd_parts_of : N_parts_of.Nodup := by decide
def f_parts_of : FS :=
  (sSeq (sDrop (eCall (argc 1 p_check_slope) (aCons (eVar 0) aNil)))
    (sSeq (sAsgG (eVar 0) (gTupD 2 (gsCons (gSet 1) (gsCons (gSet 2) gsNil))))
    (sSeq (sIf (tBool (e2 qEq (eOwn 1) (eC (.int 0)))) sNever sSkip)
    (sSeq (sNew 3 (eLst aNil))
    (sSeq (whL (tTru (eOwn 1)) (sSeq (sApp 3 (e2 qDiv (eOwn 2) (eOwn 1)))
    (sPar 1 2 (e2 qMod (eOwn 2) (eOwn 1)) (eVar 1))) 100)
    (sRet (eCall qTuple (aCons (eOwn 3) aNil))))))))
def p_parts_of := bodyP 4 f_parts_of
theorem ok_parts_of {P : Program} {w : World} {K : PySem.W.Frag} {mg : Str → Option Value} {base : Heap} (F : FunAt K mg "parts_of" s_parts_of) (H_check_slope : Has P w K mg base "check_slope" ["slope"] 2 (spP K 1 p_check_slope)) (m_tuple : mg "tuple" = none) : Has P w K mg base "parts_of" ["slope"] 3 (spP K 1 p_parts_of) := by
  obtain ⟨f, fd, gm, F⟩ := F
  refine ⟨f, fd, gm, F.kp, F.binds (ps := ["slope"]) (fun _ _ _ _ _ _ us hl => match us, hl with | [_], _ => rfl), ?_⟩
  exact fn_p (N := N_parts_of) (b := f_parts_of) F ⟨rfl, rfl, rfl, nd_parts_of, rfl, by decide +kernel, by decide +kernel⟩ (by decide) fun cdv A outer s H E hr =>
   (ss_cons (ss_expr (se_callH H_check_slope hr (by decide) (sa_cons (sv 0) sa_nil)))
    (ss_cons (ss_asg (sv 0) (sg_tup rfl (sgs_cons (sg_name 1 nd_parts_of) (sgs_cons (sg_name 2 nd_parts_of) sgs_nil))))
    (ss_cons (ss_if (st_sc (sc_eq hr (sbv 1) se_int.sb)) (ss_one ss_never) ss_nil)
    (ss_cons (ss_new (i := 3) nd_parts_of (sn_lst sa_nil))
    (ss_cons (ss_while 100 PassesOwn.never (st_tru (sbv 1)) (ss_cons (ss_app (i := 3) (se_div (sbv 2) (sbv 1)))
    (ss_one (ss_par (i := 1) (j := 2) rfl nd_parts_of (se_mod (sbv 2) (sbv 1)) (sv 1)))))
    (ss_one (ss_ret (se_tuple m_tuple (sab_cons (sbv 3) sab_nil)))))))))

/-! ### raised -/
abbrev s_raised : Stmt := topS 20
abbrev N_raised : List Str := ["word", "sign"]
theorem nd_raised : N_raised.Nodup := by decide
def f_raised : FS :=
  (sSeq (sDrop (eCall (argc 1 p_check_word) (aCons (eVar 0) aNil)))
    (sRet (eMeth qJoin (eC (.str "")) (aCons (eLc (iSeq (eVar 0)) (gSet 1) tTrue (eIf (tBool (e2 qEq (eOwn 1) (eC (.str "1")))) (eC (.str "01")) (eC (.str "0"))) [1]) aNil))))
def p_raised := bodyP 2 f_raised
theorem ok_raised {P : Program} {w : World} {K : PySem.W.Frag} {mg : Str → Option Value} {base : Heap} (F : FunAt K mg "raised" s_raised) (H_check_word : Has P w K mg base "check_word" ["word"] 1 (spP K 1 p_check_word)) : Has P w K mg base "raised" ["word"] 2 (spP K 1 p_raised) := by
  obtain ⟨f, fd, gm, F⟩ := F
  refine ⟨f, fd, gm, F.kp, F.binds (ps := ["word"]) (fun _ _ _ _ _ _ us hl => match us, hl with | [_], _ => rfl), ?_⟩
  exact fn_p (N := N_raised) (b := f_raised) F ⟨rfl, rfl, rfl, nd_raised, rfl, by decide +kernel, by decide +kernel⟩ (by decide) fun cdv A outer s H E hr =>
   (ss_cons (ss_expr (se_callH H_check_word hr (by decide) (sa_cons (sv 0) sa_nil)))
    (ss_one (ss_ret (se_join se_str.sb (sab_cons (sn_lc (own := [("sign", 1)]) rfl nd_raised (si_seq (sv 0)) (blkOk_by (by rfl)) (fun _ _ _ _ _ => (sg_name 1 nd_raised)) (fun _ _ _ _ _ => sts_nil) (fun _ _ _ _ _ => (se_if (st_sc (sc_eq hr (sbv 1) se_str.sb)) se_str se_str))).se.sb sab_nil)))))

/-! ### _law_parts_right -/
abbrev s_law_parts_right : Stmt := topS 32
abbrev N_law_parts_right : List Str := ["tape", "slope", "n", "d", "row", "up", "word", "told", "across", "due"]
theorem nd_law_parts_right : N_law_parts_right.Nodup := by decide
def f_law_parts_right_1 : FS :=
  (sAsgG (eVar 1) (gTupD 2 (gsCons (gSet 2) (gsCons (gSet 3) gsNil))))
def f_law_parts_right_2 : FS :=
  (sIf (tBool (e2 qEq (eOwn 2) (eC (.int 0)))) (sRet (eC (.bool true))) sSkip)
def f_law_parts_right_3 : FS :=
  (sSet 4 (eCall (argc 1 p_parts_of) (aCons (eVar 1) aNil)))
def f_law_parts_right_4 : FS :=
  (sIf (tOrF (tAndF (tBool (e2 qLt (eCall qMaxA (aCons (eOwn 4) aNil)) (eC (.int 51)))) (tBool (e2 qNe (eCall (argc 1 p_from_parts) (aCons (eVar 4) aNil)) (eOwn 1)))) (tAndF (tBool (e2 qGt (eCall qLen (aCons (eOwn 4) aNil)) (eC (.int 1)))) (tBool (e2 qLt (e2 qIx (eOwn 4) (e2 qSub (eCall qLen (aCons (eOwn 4) aNil)) (eC (.int 1)))) (eC (.int 2)))))) (sRet (eC (.bool false))) sSkip)
def f_law_parts_right_5 : FS :=
  (sSet 5 (eTup (aCons (eVar 2) (aCons (e2 qAdd (eOwn 3) (eOwn 2)) aNil))))
def f_law_parts_right_6 : FS :=
  (sIf (tBool (e2 qNe (eCall (argc 1 p_parts_of) (aCons (eVar 5) aNil)) (e2 qAdd (eTup (aCons (e2 qAdd (e2 qIx (eOwn 4) (eC (.int 0))) (eC (.int 1))) aNil)) (eCut (eOwn 4) (oSome (eC (.int 1))) oNone)))) (sRet (eC (.bool false))) sSkip)
def f_law_parts_right_7 : FS :=
  (sSet 6 (eCall (argc 1 p_round_of_slope) (aCons (eVar 1) aNil)))
def f_law_parts_right_8 : FS :=
  (sSet 7 (eIf (tBool (e2 qLt (eCall qLen (aCons (eOwn 6) aNil)) (eC (.int 41)))) (eCall (argc 1 p_raised) (aCons (eVar 6) aNil)) (eC .none)))
def f_law_parts_right_9 : FS :=
  (sIf (tBool (e2 qIsnt (eOwn 7) (eC .none))) (sIf (tOrF (tBool (e2 qNe (eOwn 7) (eCall (argc 1 p_round_of_slope) (aCons (eVar 5) aNil)))) (tAndF (tBool (e2 qLt (eCall qLen (aCons (eOwn 7) aNil)) (eC (.int 41)))) (tBool (e2 qNe (eCall (argc 1 p_lowered) (aCons (eVar 7) aNil)) (eOwn 6))))) (sRet (eC (.bool false))) sSkip) sSkip)
def f_law_parts_right_10 : FS :=
  (sIf (tAndF (tBool (e2 qLt (eOwn 2) (eOwn 3))) (tBool (e2 qGt (eOwn 3) (eC (.int 2))))) (sSeq (sSet 8 (eTup (aCons (e2 qSub (eOwn 3) (eOwn 2)) (aCons (eVar 3) aNil))))
    (sSeq (sSet 9 (eIf (tBool (e2 qGt (e2 qIx (eOwn 4) (eC (.int 0))) (eC (.int 1)))) (e2 qAdd (eTup (aCons (eC (.int 1)) (aCons (e2 qSub (e2 qIx (eOwn 4) (eC (.int 0))) (eC (.int 1))) aNil))) (eCut (eOwn 4) (oSome (eC (.int 1))) oNone)) (e2 qAdd (eTup (aCons (e2 qAdd (eC (.int 1)) (e2 qIx (eOwn 4) (eC (.int 1)))) aNil)) (eCut (eOwn 4) (oSome (eC (.int 2))) oNone))))
    (sIf (tBool (e2 qNe (eCall (argc 1 p_parts_of) (aCons (eVar 8) aNil)) (eOwn 9))) (sRet (eC (.bool false))) sSkip))) sSkip)
def f_law_parts_right_11 : FS :=
  (sRet (eOr (e2 qGt (eCall qMaxA (aCons (eOwn 4) aNil)) (eC (.int 50))) (e2 qEq (e2 qIx (eCall (argc 1 p_from_parts) (aCons (eF qRev (eOwn 4)) aNil)) (eC (.int 1))) (eOwn 3))))
def f_law_parts_right : FS :=
  (sSeq f_law_parts_right_1
    (sSeq f_law_parts_right_2
    (sSeq f_law_parts_right_3
    (sSeq f_law_parts_right_4
    (sSeq f_law_parts_right_5
    (sSeq f_law_parts_right_6
    (sSeq f_law_parts_right_7
    (sSeq f_law_parts_right_8
    (sSeq f_law_parts_right_9
    (sSeq f_law_parts_right_10
    f_law_parts_right_11))))))))))
def p_law_parts_right := bodyT 10 f_law_parts_right
theorem ok_law_parts_right {P : Program} {w : World} {K : PySem.W.Frag} {mg : Str → Option Value} {base : Heap} (F : FunAt K mg "_law_parts_right" s_law_parts_right) (H_from_parts : Has P w K mg base "from_parts" ["row"] 1 (spP K 1 p_from_parts)) (H_lowered : HasT P w K mg base "lowered" ["word"] 2 (spP K 1 p_lowered)) (H_parts_of : Has P w K mg base "parts_of" ["slope"] 3 (spP K 1 p_parts_of)) (H_raised : Has P w K mg base "raised" ["word"] 2 (spP K 1 p_raised)) (H_round_of_slope : Has P w K mg base "round_of_slope" ["slope"] 4 (spP K 1 p_round_of_slope)) (m_len : mg "len" = none) (m_max : mg "max" = none) : Has P w K mg base "_law_parts_right" ["tape", "slope"] 5 (spT K 1 p_law_parts_right) := by
  obtain ⟨f, fd, gm, F⟩ := F
  refine ⟨f, fd, gm, F.kp, F.binds (ps := ["tape", "slope"]) (fun _ _ _ _ _ _ us hl => match us, hl with | [_, _], _ => rfl), ?_⟩
  exact fn_t (N := N_law_parts_right) (b := f_law_parts_right) F ⟨rfl, rfl, rfl, nd_law_parts_right, rfl, by decide +kernel, by decide +kernel⟩ rfl (by decide) fun cdv A outer s H E hr =>
   (ss_cons (ss_asg (sv 1) (sg_tup rfl (sgs_cons (sg_name 2 nd_law_parts_right) (sgs_cons (sg_name 3 nd_law_parts_right) sgs_nil))))
    (ss_cons (ss_if (st_sc (sc_eq hr (sbv 2) se_int.sb)) (ss_one (ss_ret se_bl)) ss_nil)
    (ss_cons (ss_set (i := 4) nd_law_parts_right (se_callH H_parts_of hr (by decide) (sa_cons (sv 1) sa_nil)))
    (ss_cons (ss_if (sw_or (sw_and (st_sc (sc_lt (se_maxA rfl m_max (sab_cons (sbv 4) sab_nil)).sb se_int.sb)) (sw_and1 (st_sc (sc_ne hr (se_callH H_from_parts hr (by decide) (sa_cons (sv 4) sa_nil)).sb (sbv 1))))).st (sw_or1 (sw_and (st_sc (sc_gt (se_len m_len (sab_cons (sbv 4) sab_nil)).sb se_int.sb)) (sw_and1 (st_sc (sc_lt (se_at (sbv 4) (se_sub (se_len m_len (sab_cons (sbv 4) sab_nil)).sb se_int.sb).sb).sb se_int.sb)))).st)).st (ss_one (ss_ret se_bl)) ss_nil)
    (ss_cons (ss_set (i := 5) nd_law_parts_right (se_tup (sa_cons (sv 2) (sa_cons (se_add (sbv 3) (sbv 2)) sa_nil))))
    (ss_cons (ss_if (st_sc (sc_ne hr (se_callH H_parts_of hr (by decide) (sa_cons (sv 5) sa_nil)).sb (se_add (se_tup (sa_cons (se_add (se_at (sbv 4) se_int.sb).sb se_int.sb) sa_nil)).sb (se_cut (sbv 4) (so_some se_int) so_none).sb).sb)) (ss_one (ss_ret se_bl)) ss_nil)
    (ss_cons (ss_set (i := 6) nd_law_parts_right (se_callH H_round_of_slope hr (by decide) (sa_cons (sv 1) sa_nil)))
    (ss_cons (ss_set (i := 7) nd_law_parts_right (se_if (st_sc (sc_lt (se_len m_len (sab_cons (sbv 6) sab_nil)).sb se_int.sb)) (se_callH H_raised hr (by decide) (sa_cons (sv 6) sa_nil)) se_non))
    (ss_cons (ss_if (st_sc (sc_isnt (sbv 7) se_non.sb)) (ss_one (ss_if (sw_or (st_sc (sc_ne hr (sbv 7) (se_callH H_round_of_slope hr (by decide) (sa_cons (sv 5) sa_nil)).sb)) (sw_or1 (st_andK (tk_lt (se_len m_len (sab_cons (sbv 7) sab_nil)).sb) (stt_ne hr (set_callH H_lowered hr (by decide) (sa_cons (sv 7) sa_nil)) (sbv 6))))).st (ss_one (ss_ret se_bl)) ss_nil)) ss_nil)
    (ss_cons (ss_if (sw_and (st_sc (sc_lt (sbv 2) (sbv 3))) (sw_and1 (st_sc (sc_gt (sbv 3) se_int.sb)))).st (ss_cons (ss_set (i := 8) nd_law_parts_right (se_tup (sa_cons (se_sub (sbv 3) (sbv 2)) (sa_cons (sv 3) sa_nil))))
    (ss_cons (ss_set (i := 9) nd_law_parts_right (se_if (st_sc (sc_gt (se_at (sbv 4) se_int.sb).sb se_int.sb)) (se_add (se_tup (sa_cons se_int (sa_cons (se_sub (se_at (sbv 4) se_int.sb).sb se_int.sb) sa_nil))).sb (se_cut (sbv 4) (so_some se_int) so_none).sb) (se_add (se_tup (sa_cons (se_add se_int.sb (se_at (sbv 4) se_int.sb).sb) sa_nil)).sb (se_cut (sbv 4) (so_some se_int) so_none).sb)))
    (ss_one (ss_if (st_sc (sc_ne hr (se_callH H_parts_of hr (by decide) (sa_cons (sv 8) sa_nil)).sb (sbv 9))) (ss_one (ss_ret se_bl)) ss_nil)))) ss_nil)
    (ss_one (ss_ret (se_or (se_sc (sc_gt (se_maxA rfl m_max (sab_cons (sbv 4) sab_nil)).sb se_int.sb)) (se_one (se_sc (sc_eq hr (se_at (se_callH H_from_parts hr (by decide) (sa_cons (se_rev (sbv 4)) sa_nil)).sb se_int.sb).sb (sbv 3)))))))))))))))))

/-! ### _law_gcd -/
abbrev s_law_gcd : Stmt := topS 26
abbrev N_law_gcd : List Str := ["a", "b", "k"]
theorem nd_law_gcd : N_law_gcd.Nodup := by decide
def f_law_gcd : FS :=
  (sSeq (sFor (iR1 (eC (.int 60))) (gSet 2) (sSeq (sIf (tBool (e2 qEq (eOwn 1) (eC (.int 0)))) sBreak sSkip)
    (sPar 0 1 (eVar 1) (e2 qMod (eCall qInt (aCons (eOwn 0) aNil)) (eOwn 1)))))
    (sRet (eVar 0)))
def p_law_gcd := bodyP 3 f_law_gcd
theorem ok_law_gcd {P : Program} {w : World} {K : PySem.W.Frag} {mg : Str → Option Value} {base : Heap} (F : FunAt K mg "_law_gcd" s_law_gcd) (m_int : mg "int" = none) (m_range : mg "range" = none) : Has P w K mg base "_law_gcd" ["a", "b"] 1 (spP K 2 p_law_gcd) := by
  obtain ⟨f, fd, gm, F⟩ := F
  refine ⟨f, fd, gm, F.kp, F.binds (ps := ["a", "b"]) (fun _ _ _ _ _ _ us hl => match us, hl with | [_, _], _ => rfl), ?_⟩
  exact fn_p (N := N_law_gcd) (b := f_law_gcd) F ⟨rfl, rfl, rfl, nd_law_gcd, rfl, by decide +kernel, by decide +kernel⟩ (by decide) fun cdv A outer s H E hr =>
   (ss_cons (ss_for PassesOwn.never rfl (si_r1 m_range se_int) (sg_name 2 nd_law_gcd) (ss_cons (ss_if (st_sc (sc_eq hr (sbv 1) se_int.sb)) (ss_one ss_break) ss_nil)
    (ss_one (ss_par (i := 0) (j := 1) rfl nd_law_gcd (sv 1) (se_mod (se_int1 m_int (sab_cons (sbv 0) sab_nil)).sb (sbv 1))))))
    (ss_one (ss_ret (sv 0))))

/-! ### _law_slope -/
abbrev s_law_slope : Stmt := topS 27
abbrev N_law_slope : List Str := ["tape", "most", "d", "n", "by"]
theorem nd_law_slope : N_law_slope.Nodup := by decide
def f_law_slope : FS :=
  (sSeq (sSet 2 (e2 qAdd (eC (.int 1)) (eCallT 0 1 p_law_take (aCons (eVar 1) aNil))))
    (sSeq (sSet 3 (eCallT 0 1 p_law_take (aCons (e2 qAdd (eOwn 2) (eC (.int 1))) aNil)))
    (sSeq (sSet 4 (eCall (argc 2 p_law_gcd) (aCons (eVar 3) (aCons (eVar 2) aNil))))
    (sRet (eTup (aCons (e2 qDiv (eOwn 3) (eOwn 4)) (aCons (e2 qDiv (eOwn 2) (eOwn 4)) aNil)))))))
def p_law_slope := bodyT 5 f_law_slope
theorem ok_law_slope {P : Program} {w : World} {K : PySem.W.Frag} {mg : Str → Option Value} {base : Heap} (F : FunAt K mg "_law_slope" s_law_slope) (H_law_gcd : Has P w K mg base "_law_gcd" ["a", "b"] 1 (spP K 2 p_law_gcd)) (H_law_take : Has P w K mg base "_law_take" ["tape", "many"] 1 (spT K 1 p_law_take)) : Has P w K mg base "_law_slope" ["tape", "most"] 2 (spT K 1 p_law_slope) := by
  obtain ⟨f, fd, gm, F⟩ := F
  refine ⟨f, fd, gm, F.kp, F.binds (ps := ["tape", "most"]) (fun _ _ _ _ _ _ us hl => match us, hl with | [_, _], _ => rfl), ?_⟩
  exact fn_t (N := N_law_slope) (b := f_law_slope) F ⟨rfl, rfl, rfl, nd_law_slope, rfl, by decide +kernel, by decide +kernel⟩ rfl (by decide) fun cdv A outer s H E hr =>
   (ss_cons (ss_set (i := 2) nd_law_slope (se_add se_int.sb (se_callTH 0 H_law_take hr (by decide) (sa_cons (sv 1) sa_nil)).sb))
    (ss_cons (ss_set (i := 3) nd_law_slope (se_callTH 0 H_law_take hr (by decide) (sa_cons (se_add (sbv 2) se_int.sb) sa_nil)))
    (ss_cons (ss_set (i := 4) nd_law_slope (se_callH H_law_gcd hr (by decide) (sa_cons (sv 3) (sa_cons (sv 2) sa_nil))))
    (ss_one (ss_ret (se_tup (sa_cons (se_div (sbv 3) (sbv 4)) (sa_cons (se_div (sbv 2) (sbv 4)) sa_nil))))))))

/-! ### heavy_pair -/
abbrev s_heavy_pair : Stmt := topS 7
abbrev N_heavy_pair : List Str := ["word", "size", "told", "k"]
theorem nd_heavy_pair : N_heavy_pair.Nodup := by decide
def f_heavy_pair : FS :=
  (sSeq (sDrop (eCall (argc 1 p_check_word) (aCons (eVar 0) aNil)))
    (sSeq (sFor (iR2 (eC (.int 1)) (eCall qLen (aCons (eOwn 0) aNil))) (gSet 1) (sSeq (sNew 2 (eLc (iR1 (e2 qAdd (e2 qSub (eCall qLen (aCons (eOwn 0) aNil)) (eOwn 1)) (eC (.int 1)))) (gSet 3) tTrue (eMeth qCount (eCut (eOwn 0) (oSome (eVar 3)) (oSome (e2 qAdd (eOwn 3) (eOwn 1)))) (aCons (eC (.str "1")) aNil)) [3]))
    (sIf (tBool (e2 qGt (e2 qSub (eCall qMaxA (aCons (eOwn 2) aNil)) (eCall qMinA (aCons (eOwn 2) aNil))) (eC (.int 1)))) sNever sSkip)))
    (sRet (eC .none))))
def p_heavy_pair := bodyP 4 f_heavy_pair
theorem ok_heavy_pair {P : Program} {w : World} {K : PySem.W.Frag} {mg : Str → Option Value} {base : Heap} (F : FunAt K mg "heavy_pair" s_heavy_pair) (H_check_word : Has P w K mg base "check_word" ["word"] 1 (spP K 1 p_check_word)) (m_len : mg "len" = none) (m_max : mg "max" = none) (m_min : mg "min" = none) (m_range : mg "range" = none) : Has P w K mg base "heavy_pair" ["word"] 2 (spP K 1 p_heavy_pair) := by
  obtain ⟨f, fd, gm, F⟩ := F
  refine ⟨f, fd, gm, F.kp, F.binds (ps := ["word"]) (fun _ _ _ _ _ _ us hl => match us, hl with | [_], _ => rfl), ?_⟩
  exact fn_p (N := N_heavy_pair) (b := f_heavy_pair) F ⟨rfl, rfl, rfl, nd_heavy_pair, rfl, by decide +kernel, by decide +kernel⟩ (by decide) fun cdv A outer s H E hr =>
   (ss_cons (ss_expr (se_callH H_check_word hr (by decide) (sa_cons (sv 0) sa_nil)))
    (ss_cons (ss_for PassesOwn.never rfl (si_r2 m_range se_int (se_len m_len (sab_cons (sbv 0) sab_nil))) (sg_name 1 nd_heavy_pair) (ss_cons (ss_newLc (i := 2) (own := [("k", 3)]) rfl nd_heavy_pair (si_r1 m_range (se_add (se_sub (se_len m_len (sab_cons (sbv 0) sab_nil)).sb (sbv 1)).sb se_int.sb)) (blkOk_by (by rfl)) (fun _ _ _ _ _ => (sg_name 3 nd_heavy_pair)) (fun _ _ _ _ _ => sts_nil) (fun _ _ _ _ _ => (se_count (se_cut (sbv 0) (so_some (sv 3)) (so_some (se_add (sbv 3) (sbv 1)))).sb (sab_cons se_str.sb sab_nil))))
    (ss_one (ss_if (st_sc (sc_gt (se_sub (se_maxA rfl m_max (sab_cons (sbv 2) sab_nil)).sb (se_minA rfl m_min (sab_cons (sbv 2) sab_nil)).sb).sb se_int.sb)) (ss_one ss_never) ss_nil))))
    (ss_one (ss_ret se_non))))

/-! ### is_balanced -/
abbrev s_is_balanced : Stmt := topS 6
abbrev N_is_balanced : List Str := ["word"]
theorem nd_is_balanced : N_is_balanced.Nodup := by decide
def f_is_balanced : FS :=
  (sRet (e2 qIs (eCall (argc 1 p_heavy_pair) (aCons (eVar 0) aNil)) (eC .none)))
def p_is_balanced := bodyP 1 f_is_balanced
theorem ok_is_balanced {P : Program} {w : World} {K : PySem.W.Frag} {mg : Str → Option Value} {base : Heap} (F : FunAt K mg "is_balanced" s_is_balanced) (H_heavy_pair : Has P w K mg base "heavy_pair" ["word"] 2 (spP K 1 p_heavy_pair)) : Has P w K mg base "is_balanced" ["word"] 3 (spP K 1 p_is_balanced) := by
  obtain ⟨f, fd, gm, F⟩ := F
  refine ⟨f, fd, gm, F.kp, F.binds (ps := ["word"]) (fun _ _ _ _ _ _ us hl => match us, hl with | [_], _ => rfl), ?_⟩
  exact fn_p (N := N_is_balanced) (b := f_is_balanced) F ⟨rfl, rfl, rfl, nd_is_balanced, rfl, by decide +kernel, by decide +kernel⟩ (by decide) fun cdv A outer s H E hr =>
   (ss_one (ss_ret (se_sc (sc_is (se_callH H_heavy_pair hr (by decide) (sa_cons (sv 0) sa_nil)).sb se_non.sb))))

/-! ### is_mirror -/
abbrev s_is_mirror : Stmt := topS 18
abbrev N_is_mirror : List Str := ["word"]
theorem nd_is_mirror : N_is_mirror.Nodup := by decide
def f_is_mirror : FS :=
  (sRet (e2 qEq (eOwn 0) (eF qRev (eOwn 0))))
def p_is_mirror := bodyP 1 f_is_mirror
theorem ok_is_mirror {P : Program} {w : World} {K : PySem.W.Frag} {mg : Str → Option Value} {base : Heap} (F : FunAt K mg "is_mirror" s_is_mirror) : Has P w K mg base "is_mirror" ["word"] 1 (spP K 1 p_is_mirror) := by
  obtain ⟨f, fd, gm, F⟩ := F
  refine ⟨f, fd, gm, F.kp, F.binds (ps := ["word"]) (fun _ _ _ _ _ _ us hl => match us, hl with | [_], _ => rfl), ?_⟩
  exact fn_p (N := N_is_mirror) (b := f_is_mirror) F ⟨rfl, rfl, rfl, nd_is_mirror, rfl, by decide +kernel, by decide +kernel⟩ (by decide) fun cdv A outer s H E hr =>
   (ss_one (ss_ret (se_sc (sc_eq hr (sbv 0) (se_rev (sbv 0)).sb))))

/-! ### standard -/
abbrev s_standard : Stmt := topS 17
abbrev N_standard : List Str := ["row", "a", "before", "now", "k"]
theorem nd_standard : N_standard.Nodup := by decide
def f_standard : FS :=
  (sSeq (sIf (tOrF (tNotF (tBool (eCh (eC (.int 1)) (lCons qLe (eCall qLen (aCons (eOwn 0) aNil)) (lLast qLe (eC (.int 8))))))) (tNotF (tTru (eCall qAll (aCons (eLc (iSeq (eVar 0)) (gSet 1) tTrue (eCh (eC (.int 1)) (lCons qLe (eOwn 1) (lLast qLe (eC (.int 9))))) [1]) aNil))))) sNever sSkip)
    (sSeq (sAsgG (eTup (aCons (eC (.str "1")) (aCons (eC (.str "0")) aNil))) (gTupD 2 (gsCons (gSet 2) (gsCons (gSet 3) gsNil))))
    (sSeq (sFor (iEnumF (eVar 0)) (gTupD 2 (gsCons (gSet 4) (gsCons (gSet 1) gsNil))) (sSeq (sPar 2 3 (eVar 3) (e2 qAdd (e2 qMul (eOwn 3) (eIf (tBool (e2 qEq (eOwn 4) (eC (.int 0)))) (e2 qSub (eOwn 1) (eC (.int 1))) (eVar 1))) (eOwn 2)))
    (sIf (tBool (e2 qGt (eCall qLen (aCons (eOwn 3) aNil)) (eC (.int 3000)))) sNever sSkip)))
    (sRet (eVar 3)))))
def p_standard := bodyP 5 f_standard
theorem ok_standard {P : Program} {w : World} {K : PySem.W.Frag} {mg : Str → Option Value} {base : Heap} (F : FunAt K mg "standard" s_standard) (m_all : mg "all" = none) (m_enumerate : mg "enumerate" = none) (m_len : mg "len" = none) : Has P w K mg base "standard" ["row"] 1 (spP K 1 p_standard) := by
  obtain ⟨f, fd, gm, F⟩ := F
  refine ⟨f, fd, gm, F.kp, F.binds (ps := ["row"]) (fun _ _ _ _ _ _ us hl => match us, hl with | [_], _ => rfl), ?_⟩
  exact fn_p (N := N_standard) (b := f_standard) F ⟨rfl, rfl, rfl, nd_standard, rfl, by decide +kernel, by decide +kernel⟩ (by decide) fun cdv A outer s H E hr =>
   (ss_cons (ss_if (sw_or (st_not (st_ch se_int.sb (slc_le (se_len m_len (sab_cons (sbv 0) sab_nil)).sb (sll_le se_int.sb)))) (sw_or1 (st_not (st_tru (se_all rfl m_all (sab_cons (sn_lc (own := [("a", 1)]) rfl nd_standard (si_seq (sv 0)) (blkOk_by (by rfl)) (fun _ _ _ _ _ => (sg_name 1 nd_standard)) (fun _ _ _ _ _ => sts_nil) (fun _ _ _ _ _ => (se_ch se_int.sb (slc_le (sbv 1) (sll_le se_int.sb))))).se.sb sab_nil)).sb)))).st (ss_one ss_never) ss_nil)
    (ss_cons (ss_asg (se_tup (sa_cons se_str (sa_cons se_str sa_nil))) (sg_tup rfl (sgs_cons (sg_name 2 nd_standard) (sgs_cons (sg_name 3 nd_standard) sgs_nil))))
    (ss_cons (ss_for PassesOwn.never rfl (si_enum m_enumerate (sv 0)) (sg_tup rfl (sgs_cons (sg_name 4 nd_standard) (sgs_cons (sg_name 1 nd_standard) sgs_nil))) (ss_cons (ss_par (i := 2) (j := 3) rfl nd_standard (sv 3) (se_add (se_mul (sbv 3) (se_if (st_sc (sc_eq hr (sbv 4) se_int.sb)) (se_sub (sbv 1) se_int.sb) (sv 1)).sb).sb (sbv 2)))
    (ss_one (ss_if (st_sc (sc_gt (se_len m_len (sab_cons (sbv 3) sab_nil)).sb se_int.sb)) (ss_one ss_never) ss_nil))))
    (ss_one (ss_ret (sv 3))))))

/-! ### _law_standard_right -/
abbrev s_law_standard_right : Stmt := topS 33
abbrev N_law_standard_right : List Str := ["tape", "row", "k", "word", "before", "now", "many", "sign"]
theorem nd_law_standard_right : N_law_standard_right.Nodup := by decide
def f_law_standard_right_1 : FS :=
  (sSet 1 (eCall qTuple (aCons (eLc (iR1 (e2 qAdd (eC (.int 1)) (eCallT 0 1 p_law_take (aCons (eC (.int 5)) aNil)))) (gSet 2) tTrue (e2 qAdd (eC (.int 1)) (eCallT 0 1 p_law_take (aCons (eC (.int 3)) aNil))) [2]) aNil)))
def f_law_standard_right_2 : FS :=
  (sSet 3 (eCall (argc 1 p_standard) (aCons (eVar 1) aNil)))
def f_law_standard_right_3 : FS :=
  (sAsgG (eTup (aCons (eC (.str "1")) (aCons (eC (.str "0")) aNil))) (gTupD 2 (gsCons (gSet 4) (gsCons (gSet 5) gsNil))))
def f_law_standard_right_4 : FS :=
  (sFor (iR1 (eCall qLen (aCons (eOwn 1) aNil))) (gSet 2) (sPar 4 5 (eVar 5) (e2 qAdd (e2 qMul (eOwn 5) (e2 qSub (e2 qIx (eOwn 1) (eOwn 2)) (eIf (tBool (e2 qEq (eOwn 2) (eC (.int 0)))) (eC (.int 1)) (eC (.int 0))))) (eOwn 4))))
def f_law_standard_right_5 : FS :=
  (sIf (tBool (e2 qNe (eOwn 3) (eOwn 5))) (sRet (eC (.bool false))) sSkip)
def f_law_standard_right_6 : FS :=
  (sIf (tOrF (tBool (e2 qGt (eCall qLen (aCons (eOwn 3) aNil)) (eC (.int 40)))) (tBool (e2 qLt (eCall qLen (aCons (eOwn 3) aNil)) (eC (.int 3))))) (sRet (eC (.bool true))) sSkip)
def f_law_standard_right_7 : FS :=
  (sIf (tOrF (tBool (e2 qIsnt (eCall (argc 1 p_is_balanced) (aCons (eVar 3) aNil)) (eC (.bool true)))) (tOrF (tBool (e2 qIsnt (eCall (argc 1 p_is_mirror) (aCons (eCut (eOwn 3) oNone (oSome (Dv.e1 qNeg (eC (.int 2))))) aNil)) (eC (.bool true)))) (tBool (e2 qNotin (eCut (eOwn 3) (oSome (e2 qSub (eCall qLen (aCons (eOwn 3) aNil)) (eC (.int 2)))) oNone) (eTup (aCons (eC (.str "01")) (aCons (eC (.str "10")) aNil))))))) (sRet (eC (.bool false))) sSkip)
def f_law_standard_right_8 : FS :=
  (sSet 6 (eCall qLen (aCons (eLc (iSeq (eVar 3)) (gSet 7) (tBool (e2 qEq (eOwn 7) (eC (.str "1")))) (eVar 7) [7]) aNil)))
def f_law_standard_right_9 : FS :=
  (sRet (e2 qEq (eCall (argc 1 p_slope_of) (aCons (eVar 3) aNil)) (eTup (aCons (eVar 6) (aCons (eCall qLen (aCons (eOwn 3) aNil)) aNil)))))
def f_law_standard_right : FS :=
  (sSeq f_law_standard_right_1
    (sSeq f_law_standard_right_2
    (sSeq f_law_standard_right_3
    (sSeq f_law_standard_right_4
    (sSeq f_law_standard_right_5
    (sSeq f_law_standard_right_6
    (sSeq f_law_standard_right_7
    (sSeq f_law_standard_right_8
    f_law_standard_right_9))))))))
def p_law_standard_right := bodyT 8 f_law_standard_right
theorem ok_law_standard_right {P : Program} {w : World} {K : PySem.W.Frag} {mg : Str → Option Value} {base : Heap} (F : FunAt K mg "_law_standard_right" s_law_standard_right) (H_law_take : Has P w K mg base "_law_take" ["tape", "many"] 1 (spT K 1 p_law_take)) (H_is_balanced : Has P w K mg base "is_balanced" ["word"] 3 (spP K 1 p_is_balanced)) (H_is_mirror : Has P w K mg base "is_mirror" ["word"] 1 (spP K 1 p_is_mirror)) (H_slope_of : Has P w K mg base "slope_of" ["word"] 5 (spP K 1 p_slope_of)) (H_standard : Has P w K mg base "standard" ["row"] 1 (spP K 1 p_standard)) (m_len : mg "len" = none) (m_range : mg "range" = none) (m_tuple : mg "tuple" = none) : Has P w K mg base "_law_standard_right" ["tape"] 6 (spT K 0 p_law_standard_right) := by
  obtain ⟨f, fd, gm, F⟩ := F
  refine ⟨f, fd, gm, F.kp, F.binds (ps := ["tape"]) (fun _ _ _ _ _ _ us hl => match us, hl with | [_], _ => rfl), ?_⟩
  exact fn_t (N := N_law_standard_right) (b := f_law_standard_right) F ⟨rfl, rfl, rfl, nd_law_standard_right, rfl, by decide +kernel, by decide +kernel⟩ rfl (by decide) fun cdv A outer s H E hr =>
   (ss_cons (ss_set (i := 1) nd_law_standard_right (se_tuple m_tuple (sab_cons (sn_lc (own := [("k", 2)]) rfl nd_law_standard_right (si_r1 m_range (se_add se_int.sb (se_callTH 0 H_law_take hr (by decide) (sa_cons se_int sa_nil)).sb)) (blkOk_by (by rfl)) (fun _ _ _ _ _ => (sg_name 2 nd_law_standard_right)) (fun _ _ _ _ _ => sts_nil) (fun _ _ _ _ _ => (se_add se_int.sb (se_callTH 0 H_law_take hr (by decide) (sa_cons se_int sa_nil)).sb))).se.sb sab_nil)))
    (ss_cons (ss_set (i := 3) nd_law_standard_right (se_callH H_standard hr (by decide) (sa_cons (sv 1) sa_nil)))
    (ss_cons (ss_asg (se_tup (sa_cons se_str (sa_cons se_str sa_nil))) (sg_tup rfl (sgs_cons (sg_name 4 nd_law_standard_right) (sgs_cons (sg_name 5 nd_law_standard_right) sgs_nil))))
    (ss_cons (ss_for PassesOwn.never rfl (si_r1 m_range (se_len m_len (sab_cons (sbv 1) sab_nil))) (sg_name 2 nd_law_standard_right) (ss_one (ss_par (i := 4) (j := 5) rfl nd_law_standard_right (sv 5) (se_add (se_mul (sbv 5) (se_sub (se_at (sbv 1) (sbv 2)).sb (se_if (st_sc (sc_eq hr (sbv 2) se_int.sb)) se_int se_int).sb).sb).sb (sbv 4)))))
    (ss_cons (ss_if (st_sc (sc_ne hr (sbv 3) (sbv 5))) (ss_one (ss_ret se_bl)) ss_nil)
    (ss_cons (ss_if (sw_or (st_sc (sc_gt (se_len m_len (sab_cons (sbv 3) sab_nil)).sb se_int.sb)) (sw_or1 (st_sc (sc_lt (se_len m_len (sab_cons (sbv 3) sab_nil)).sb se_int.sb)))).st (ss_one (ss_ret se_bl)) ss_nil)
    (ss_cons (ss_if (sw_or (st_sc (sc_isnt (se_callH H_is_balanced hr (by decide) (sa_cons (sv 3) sa_nil)).sb se_bl.sb)) (sw_or (st_sc (sc_isnt (se_callH H_is_mirror hr (by decide) (sa_cons (se_cut (sbv 3) so_none (so_some (se_neg se_int.sb))) sa_nil)).sb se_bl.sb)) (sw_or1 (st_sc (sc_notin' (se_cut (sbv 3) (so_some (se_sub (se_len m_len (sab_cons (sbv 3) sab_nil)).sb se_int.sb)) so_none).sb (se_tup (sa_cons se_str (sa_cons se_str sa_nil))).sb))))).st (ss_one (ss_ret se_bl)) ss_nil)
    (ss_cons (ss_set (i := 6) nd_law_standard_right (se_len m_len (sab_cons (sn_lc (own := [("sign", 7)]) rfl nd_law_standard_right (si_seq (sv 3)) (blkOk_by (by rfl)) (fun _ _ _ _ _ => (sg_name 7 nd_law_standard_right)) (fun _ _ _ _ _ => (sts_one (st_sc (sc_eq hr (sbv 7) se_str.sb)))) (fun _ _ _ _ _ => (sv 7))).se.sb sab_nil)))
    (ss_one (ss_ret (se_sc (sc_eq hr (se_callH H_slope_of hr (by decide) (sa_cons (sv 3) sa_nil)).sb (se_tup (sa_cons (sv 6) (sa_cons (se_len m_len (sab_cons (sbv 3) sab_nil)) sa_nil))).sb))))))))))))

/-! ### _law_tape -/
abbrev s_law_tape : Stmt := topS 24
abbrev N_law_tape : List Str := ["script", "cells", "seed", "cell"]
theorem nd_law_tape : N_law_tape.Nodup := by decide
theorem ok_law_tape {P : Program} {w : World} {K : PySem.W.Frag} {mg : Str → Option Value} {base : Heap} (F : FunAt K mg "_law_tape" s_law_tape) (m_abs : mg "abs" = none) (m_int : mg "int" = none) : Has P w K mg base "_law_tape" ["script"] 1 (spMk K) := by
  obtain ⟨f, fd, gm, F⟩ := F
  refine ⟨f, fd, gm, F.kp, F.binds (ps := ["script"]) (fun _ _ _ _ _ _ us hl => match us, hl with | [_], _ => rfl), ?_⟩
  exact fn_tape (N := N_law_tape) F ⟨rfl, rfl, rfl, nd_law_tape, rfl, by decide +kernel, by decide +kernel⟩ rfl rfl fun cdv A outer s H E hr =>
    pss_cons (ps_setLc (i := 1) (own := [("cell", 3)]) rfl nd_law_tape rfl rfl (sw_true rfl rfl rfl (by decide +kernel)) (pi_seq (pe_var rfl (.inl rfl))) (blkOk_by (by rfl)) (fun _ _ _ _ _ => (sg_name 3 nd_law_tape).pg) (fun _ _ _ _ _ => sts_nil.pt)
      (fun _ _ _ _ _ => (se_abs m_abs (sab_cons (se_int1 m_int (sab_cons (sbv 3) sab_nil)).sb sab_nil)).pe))
      (pss_cons (ss_set (i := 2) nd_law_tape se_int).ps (pss_cons (ss_fz 1 (ss_for PassesOwn.never rfl (si_seq (sv 1)) (sg_name 3 nd_law_tape) (ss_one (ss_set (i := 2) nd_law_tape (se_mod (se_int1 m_int (sab_cons (se_add (se_mul (sbv 2) se_int.sb).sb (sbv 3)).sb sab_nil)).sb se_int.sb))))).ps
        (pss_one (ps_ret (pe_disp (pps_cons pe_str (pe_var rfl (.inl rfl)) (pps_cons pe_str pe_int (pps_cons pe_str pe_int (pps_cons pe_str (pe_var rfl (.inl rfl)) (pps_cons pe_str pe_int pps_nil))))) rfl rfl (by decide) (by decide))))))

/-! ### _law_other -/
abbrev s_law_other : Stmt := topS 28
abbrev N_law_other : List Str := ["word", "sign"]
theorem nd_law_other : N_law_other.Nodup := by decide
def f_law_other : FS :=
  (sRet (eMeth qJoin (eC (.str "")) (aCons (eLc (iSeq (eVar 0)) (gSet 1) tTrue (e2 qIx (eC (.str "10")) (eCall qInt (aCons (eOwn 1) aNil))) [1]) aNil)))
def p_law_other := bodyP 2 f_law_other
theorem ok_law_other {P : Program} {w : World} {K : PySem.W.Frag} {mg : Str → Option Value} {base : Heap} (F : FunAt K mg "_law_other" s_law_other) (m_int : mg "int" = none) : Has P w K mg base "_law_other" ["word"] 1 (spP K 1 p_law_other) := by
  obtain ⟨f, fd, gm, F⟩ := F
  refine ⟨f, fd, gm, F.kp, F.binds (ps := ["word"]) (fun _ _ _ _ _ _ us hl => match us, hl with | [_], _ => rfl), ?_⟩
  exact fn_p (N := N_law_other) (b := f_law_other) F ⟨rfl, rfl, rfl, nd_law_other, rfl, by decide +kernel, by decide +kernel⟩ (by decide) fun cdv A outer s H E hr =>
   (ss_one (ss_ret (se_join se_str.sb (sab_cons (sn_lc (own := [("sign", 1)]) rfl nd_law_other (si_seq (sv 0)) (blkOk_by (by rfl)) (fun _ _ _ _ _ => (sg_name 1 nd_law_other)) (fun _ _ _ _ _ => sts_nil) (fun _ _ _ _ _ => (se_at se_str.sb (se_int1 m_int (sab_cons (sbv 1) sab_nil)).sb))).se.sb sab_nil))))

/-! ### coprimes -/
abbrev s_coprimes : Stmt := topS 9
abbrev N_coprimes : List Str := ["number", "k"]
theorem nd_coprimes : N_coprimes.Nodup := by decide
def f_coprimes : FS :=
  (sRet (eCall qSum (aCons (eLc (iR2 (eC (.int 1)) (e2 qAdd (eOwn 0) (eC (.int 1)))) (gSet 1) (tBool (e2 qEq (eCall (argc 2 p_common) (aCons (eVar 1) (aCons (eVar 0) aNil))) (eC (.int 1)))) (eC (.int 1)) [1]) aNil)))
def p_coprimes := bodyP 2 f_coprimes
theorem ok_coprimes {P : Program} {w : World} {K : PySem.W.Frag} {mg : Str → Option Value} {base : Heap} (F : FunAt K mg "coprimes" s_coprimes) (H_common : Has P w K mg base "common" ["a", "b"] 1 (spP K 2 p_common)) (m_range : mg "range" = none) (m_sum : mg "sum" = none) : Has P w K mg base "coprimes" ["number"] 2 (spP K 1 p_coprimes) := by
  obtain ⟨f, fd, gm, F⟩ := F
  refine ⟨f, fd, gm, F.kp, F.binds (ps := ["number"]) (fun _ _ _ _ _ _ us hl => match us, hl with | [_], _ => rfl), ?_⟩
  exact fn_p (N := N_coprimes) (b := f_coprimes) F ⟨rfl, rfl, rfl, nd_coprimes, rfl, by decide +kernel, by decide +kernel⟩ (by decide) fun cdv A outer s H E hr =>
   (ss_one (ss_ret (se_sum rfl m_sum (sab_cons (sn_lc (own := [("k", 1)]) rfl nd_coprimes (si_r2 m_range se_int (se_add (sbv 0) se_int.sb)) (blkOk_by (by rfl)) (fun _ _ _ _ _ => (sg_name 1 nd_coprimes)) (fun _ _ _ _ _ => (sts_one (st_sc (sc_eq hr (se_callH H_common hr (by decide) (sa_cons (sv 1) (sa_cons (sv 0) sa_nil))).sb se_int.sb)))) (fun _ _ _ _ _ => se_int)).se.sb sab_nil))))

/-! ### middle_of -/
abbrev s_middle_of : Stmt := topS 19
abbrev N_middle_of : List Str := ["slope"]
theorem nd_middle_of : N_middle_of.Nodup := by decide
def f_middle_of : FS :=
  (sSeq (sDrop (eCall (argc 1 p_check_slope) (aCons (eVar 0) aNil)))
    (sSeq (sIf (tOrF (tBool (e2 qEq (e2 qIx (eOwn 0) (eC (.int 0))) (eC (.int 0)))) (tBool (e2 qLt (e2 qIx (eOwn 0) (eC (.int 1))) (eC (.int 2))))) sNever sSkip)
    (sRet (eCut (eCall (argc 1 p_round_of_slope) (aCons (eVar 0) aNil)) (oSome (eC (.int 1))) (oSome (Dv.e1 qNeg (eC (.int 1))))))))
def p_middle_of := bodyP 1 f_middle_of
theorem ok_middle_of {P : Program} {w : World} {K : PySem.W.Frag} {mg : Str → Option Value} {base : Heap} (F : FunAt K mg "middle_of" s_middle_of) (H_check_slope : Has P w K mg base "check_slope" ["slope"] 2 (spP K 1 p_check_slope)) (H_round_of_slope : Has P w K mg base "round_of_slope" ["slope"] 4 (spP K 1 p_round_of_slope)) : Has P w K mg base "middle_of" ["slope"] 5 (spP K 1 p_middle_of) := by
  obtain ⟨f, fd, gm, F⟩ := F
  refine ⟨f, fd, gm, F.kp, F.binds (ps := ["slope"]) (fun _ _ _ _ _ _ us hl => match us, hl with | [_], _ => rfl), ?_⟩
  exact fn_p (N := N_middle_of) (b := f_middle_of) F ⟨rfl, rfl, rfl, nd_middle_of, rfl, by decide +kernel, by decide +kernel⟩ (by decide) fun cdv A outer s H E hr =>
   (ss_cons (ss_expr (se_callH H_check_slope hr (by decide) (sa_cons (sv 0) sa_nil)))
    (ss_cons (ss_if (sw_or (st_sc (sc_eq hr (se_at (sbv 0) se_int.sb).sb se_int.sb)) (sw_or1 (st_sc (sc_lt (se_at (sbv 0) se_int.sb).sb se_int.sb)))).st (ss_one ss_never) ss_nil)
    (ss_one (ss_ret (se_cut (se_callH H_round_of_slope hr (by decide) (sa_cons (sv 0) sa_nil)).sb (so_some se_int) (so_some (se_neg se_int.sb)))))))

/-! ### parts_count -/
abbrev s_parts_count : Stmt := topS 22
abbrev N_parts_count : List Str := ["word", "size", "k"]
theorem nd_parts_count : N_parts_count.Nodup := by decide
def f_parts_count : FS :=
  (sSeq (sIf (tNotF (tBool (eCh (eC (.int 0)) (lCons qLe (eOwn 1) (lLast qLe (eCall qLen (aCons (eOwn 0) aNil))))))) sNever sSkip)
    (sRet (eCall qLen (aCons (eDc (iR1 (e2 qAdd (e2 qSub (eCall qLen (aCons (eOwn 0) aNil)) (eOwn 1)) (eC (.int 1)))) (gSet 2) tTrue (eCut (eOwn 0) (oSome (eVar 2)) (oSome (e2 qAdd (eOwn 2) (eOwn 1)))) (eC (.bool true)) [2]) aNil))))
def p_parts_count := bodyP 3 f_parts_count
theorem ok_parts_count {P : Program} {w : World} {K : PySem.W.Frag} {mg : Str → Option Value} {base : Heap} (F : FunAt K mg "parts_count" s_parts_count) (m_len : mg "len" = none) (m_range : mg "range" = none) : Has P w K mg base "parts_count" ["word", "size"] 1 (spP K 2 p_parts_count) := by
  obtain ⟨f, fd, gm, F⟩ := F
  refine ⟨f, fd, gm, F.kp, F.binds (ps := ["word", "size"]) (fun _ _ _ _ _ _ us hl => match us, hl with | [_, _], _ => rfl), ?_⟩
  exact fn_p (N := N_parts_count) (b := f_parts_count) F ⟨rfl, rfl, rfl, nd_parts_count, rfl, by decide +kernel, by decide +kernel⟩ (by decide) fun cdv A outer s H E hr =>
   (ss_cons (ss_if (st_not (st_ch se_int.sb (slc_le (sbv 1) (sll_le (se_len m_len (sab_cons (sbv 0) sab_nil)).sb)))) (ss_one ss_never) ss_nil)
    (ss_one (ss_ret (se_len m_len (sab_cons (sn_dc (own := [("k", 2)]) rfl nd_parts_count (si_r1 m_range (se_add (se_sub (se_len m_len (sab_cons (sbv 0) sab_nil)).sb (sbv 1)).sb se_int.sb)) (blkOk_by (by rfl)) (fun _ _ _ _ _ => (sg_name 2 nd_parts_count)) (fun _ _ _ _ _ => sts_nil) (fun _ _ _ _ _ => (se_cut (sbv 0) (so_some (sv 2)) (so_some (se_add (sbv 2) (sbv 1))))) (fun _ _ _ _ _ => se_bl)).se.sb sab_nil)))))

/-! ### rough_word -/
abbrev s_rough_word : Stmt := topS 8
abbrev N_rough_word : List Str := ["word", "size", "parts", "k", "part"]
theorem nd_rough_word : N_rough_word.Nodup := by decide
def f_rough_word : FS :=
  (sSeq (sDrop (eCall (argc 1 p_check_word) (aCons (eVar 0) aNil)))
    (sSeq (sFor (iR1 (eCall qMaxA (aCons (eC (.int 0)) (aCons (e2 qSub (eCall qLen (aCons (eOwn 0) aNil)) (eC (.int 1))) aNil)))) (gSet 1) (sSeq (sNew 2 (eCall qSortedF (aCons (eDc (iR1 (e2 qAdd (e2 qSub (eCall qLen (aCons (eOwn 0) aNil)) (eOwn 1)) (eC (.int 1)))) (gSet 3) tTrue (eCut (eOwn 0) (oSome (eVar 3)) (oSome (e2 qAdd (eOwn 3) (eOwn 1)))) (eC (.bool true)) [3]) aNil)))
    (sFz 2 (sFor (iSeq (eVar 2)) (gSet 4) (sIf (tAndF (tBool (e2 qIn (e2 qAdd (e2 qAdd (eC (.str "0")) (eOwn 4)) (eC (.str "0"))) (eOwn 0))) (tBool (e2 qIn (e2 qAdd (e2 qAdd (eC (.str "1")) (eOwn 4)) (eC (.str "1"))) (eOwn 0)))) (sRet (eVar 4)) sSkip)))))
    (sRet (eC .none))))
def p_rough_word := bodyP 5 f_rough_word
theorem ok_rough_word {P : Program} {w : World} {K : PySem.W.Frag} {mg : Str → Option Value} {base : Heap} (F : FunAt K mg "rough_word" s_rough_word) (H_check_word : Has P w K mg base "check_word" ["word"] 1 (spP K 1 p_check_word)) (m_len : mg "len" = none) (m_max : mg "max" = none) (m_range : mg "range" = none) (m_sorted : mg "sorted" = none) : Has P w K mg base "rough_word" ["word"] 2 (spP K 1 p_rough_word) := by
  obtain ⟨f, fd, gm, F⟩ := F
  refine ⟨f, fd, gm, F.kp, F.binds (ps := ["word"]) (fun _ _ _ _ _ _ us hl => match us, hl with | [_], _ => rfl), ?_⟩
  exact fn_p (N := N_rough_word) (b := f_rough_word) F ⟨rfl, rfl, rfl, nd_rough_word, rfl, by decide +kernel, by decide +kernel⟩ (by decide) fun cdv A outer s H E hr =>
   (ss_cons (ss_expr (se_callH H_check_word hr (by decide) (sa_cons (sv 0) sa_nil)))
    (ss_cons (ss_for PassesOwn.never rfl (si_r1 m_range (se_maxA rfl m_max (sab_cons se_int.sb (sab_cons (se_sub (se_len m_len (sab_cons (sbv 0) sab_nil)).sb se_int.sb).sb sab_nil)))) (sg_name 1 nd_rough_word) (ss_cons (ss_new (i := 2) nd_rough_word (sn_sorted rfl m_sorted (sab_cons (sn_dc (own := [("k", 3)]) rfl nd_rough_word (si_r1 m_range (se_add (se_sub (se_len m_len (sab_cons (sbv 0) sab_nil)).sb (sbv 1)).sb se_int.sb)) (blkOk_by (by rfl)) (fun _ _ _ _ _ => (sg_name 3 nd_rough_word)) (fun _ _ _ _ _ => sts_nil) (fun _ _ _ _ _ => (se_cut (sbv 0) (so_some (sv 3)) (so_some (se_add (sbv 3) (sbv 1))))) (fun _ _ _ _ _ => se_bl)).se.sb sab_nil)))
    (ss_one (ss_fz 2 (ss_for PassesOwn.never rfl (si_seq (sv 2)) (sg_name 4 nd_rough_word) (ss_one (ss_if (sw_and (st_sc (sc_in (se_add (se_add se_str.sb (sbv 4)).sb se_str.sb).sb (sbv 0))) (sw_and1 (st_sc (sc_in (se_add (se_add se_str.sb (sbv 4)).sb se_str.sb).sb (sbv 0))))).st (ss_one (ss_ret (sv 4))) ss_nil)))))))
    (ss_one (ss_ret se_non))))

/-! ### _law_words_right -/
abbrev s_law_words_right : Stmt := topS 30
abbrev N_law_words_right : List Str := ["tape", "slope", "n", "d", "word", "sign", "across", "start", "size", "told", "wide", "at", "total", "short", "middle", "by", "k"]
theorem nd_law_words_right : N_law_words_right.Nodup := by decide
def f_law_words_right_1 : FS :=
  (sAsgG (eVar 1) (gTupD 2 (gsCons (gSet 2) (gsCons (gSet 3) gsNil))))
def f_law_words_right_2 : FS :=
  (sSet 4 (eCall (argc 1 p_round_of_slope) (aCons (eVar 1) aNil)))
def f_law_words_right_3 : FS :=
  (sIf (tOrF (tBool (e2 qNe (eCall qLen (aCons (eOwn 4) aNil)) (eOwn 3))) (tBool (e2 qNe (eCall qLen (aCons (eLc (iSeq (eVar 4)) (gSet 5) (tBool (e2 qEq (eOwn 5) (eC (.str "1")))) (eVar 5) [5]) aNil)) (eOwn 2)))) (sRet (eC (.bool false))) sSkip)
def f_law_words_right_4 : FS :=
  (sSet 6 (eCall (argc 1 p_round_of_slope) (aCons (eTup (aCons (e2 qSub (eOwn 3) (eOwn 2)) (aCons (eVar 3) aNil))) aNil)))
def f_law_words_right_5 : FS :=
  (sIf (tBool (e2 qNe (eF qRev (eCall (argc 1 p_law_other) (aCons (eVar 6) aNil))) (eOwn 4))) (sRet (eC (.bool false))) sSkip)
def f_law_words_right_6 : FS :=
  (sPar 7 8 (eCallT 0 1 p_law_take (aCons (eC (.int 200)) aNil)) (eCallT 0 1 p_law_take (aCons (eC (.int 60)) aNil)))
def f_law_words_right_7 : FS :=
  (sSet 9 (eCall (argc 3 p_line_word) (aCons (eVar 1) (aCons (eVar 7) (aCons (eVar 8) aNil)))))
def f_law_words_right_8 : FS :=
  (sSet 10 (e2 qMul (eOwn 4) (e2 qAdd (e2 qDiv (eOwn 8) (eOwn 3)) (eC (.int 2)))))
def f_law_words_right_9 : FS :=
  (sSet 11 (e2 qMod (eCall qInt (aCons (eOwn 7) aNil)) (eOwn 3)))
def f_law_words_right_10 : FS :=
  (sIf (tOrF (tBool (e2 qNe (eOwn 9) (eCut (eOwn 10) (oSome (eVar 11)) (oSome (e2 qAdd (eOwn 11) (eOwn 8)))))) (tBool (e2 qNe (eCall (argc 3 p_line_word) (aCons (eVar 1) (aCons (e2 qAdd (eOwn 7) (eOwn 3)) (aCons (eVar 8) aNil)))) (eOwn 9)))) (sRet (eC (.bool false))) sSkip)
def f_law_words_right_11 : FS :=
  (sSet 12 (e2 qSub (e2 qDiv (e2 qMul (e2 qAdd (eOwn 7) (eOwn 8)) (eOwn 2)) (eOwn 3)) (e2 qDiv (e2 qMul (eOwn 7) (eOwn 2)) (eOwn 3))))
def f_law_words_right_12 : FS :=
  (sIf (tBool (e2 qNe (eCall qLen (aCons (eLc (iSeq (eVar 9)) (gSet 5) (tBool (e2 qEq (eOwn 5) (eC (.str "1")))) (eVar 5) [5]) aNil)) (eOwn 12))) (sRet (eC (.bool false))) sSkip)
def f_law_words_right_13 : FS :=
  (sSet 13 (eCut (eOwn 9) oNone (oSome (eC (.int 40)))))
def f_law_words_right_14 : FS :=
  (sIf (tOrF (tBool (e2 qIsnt (eCall (argc 1 p_is_balanced) (aCons (eVar 13) aNil)) (eC (.bool true)))) (tOrF (tBool (e2 qIsnt (eCall (argc 1 p_heavy_pair) (aCons (eVar 13) aNil)) (eC .none))) (tOrF (tBool (e2 qIsnt (eCall (argc 1 p_rough_word) (aCons (eVar 13) aNil)) (eC .none))) (tBool (e2 qIsnt (eCall (argc 1 p_is_balanced) (aCons (eF qRev (eCall (argc 1 p_law_other) (aCons (eVar 13) aNil))) aNil)) (eC (.bool true))))))) (sRet (eC (.bool false))) sSkip)
def f_law_words_right_15 : FS :=
  (sFor (iR2 (eC (.int 1)) (eCall qMinA (aCons (eOwn 3) (aCons (eC (.int 9)) aNil)))) (gSet 8) (sIf (tBool (e2 qNe (eCall (argc 2 p_parts_count) (aCons (e2 qAdd (eOwn 4) (eOwn 4)) (aCons (eVar 8) aNil))) (eCall qMinA (aCons (e2 qAdd (eOwn 8) (eC (.int 1))) (aCons (eOwn 3) aNil))))) (sRet (eC (.bool false))) sSkip))
def f_law_words_right_16 : FS :=
  (sIf (tBool (eCh (eC (.int 0)) (lCons qLt (eOwn 2) (lLast qLt (eOwn 3))))) (sSeq (sSet 14 (eCall (argc 1 p_middle_of) (aCons (eVar 1) aNil)))
    (sIf (tOrF (tBool (e2 qIsnt (eCall (argc 1 p_is_mirror) (aCons (eVar 14) aNil)) (eC (.bool true)))) (tOrF (tBool (e2 qNe (eOwn 4) (e2 qAdd (e2 qAdd (eC (.str "0")) (eOwn 14)) (eC (.str "1"))))) (tBool (e2 qNe (eCall (argc 1 p_middle_of) (aCons (eTup (aCons (e2 qSub (eOwn 3) (eOwn 2)) (aCons (eVar 3) aNil))) aNil)) (eF qRev (eCall (argc 1 p_law_other) (aCons (eVar 14) aNil))))))) (sRet (eC (.bool false))) sSkip)) sSkip)
def f_law_words_right_17 : FS :=
  (sIf (tBool (e2 qLe (eOwn 3) (eC (.int 40)))) (sSeq (sSet 15 (eCallT 0 1 p_law_take (aCons (eVar 3) aNil)))
    (sIf (tOrF (tBool (e2 qNe (eCall (argc 1 p_slope_of) (aCons (e2 qAdd (eCut (eOwn 4) (oSome (eVar 15)) oNone) (eCut (eOwn 4) oNone (oSome (eVar 15)))) aNil)) (eOwn 1))) (tBool (e2 qNe (eCall (argc 1 p_slope_of) (aCons (eF qRev (eOwn 4)) aNil)) (eOwn 1)))) (sRet (eC (.bool false))) sSkip)) sSkip)
def f_law_words_right_18 : FS :=
  (sRet (e2 qEq (eCall (argc 1 p_coprimes) (aCons (eVar 3) aNil)) (eCall qLen (aCons (eLc (iR2 (eC (.int 1)) (e2 qAdd (eOwn 3) (eC (.int 1)))) (gSet 16) (tBool (e2 qEq (eCall (argc 2 p_law_gcd) (aCons (eVar 16) (aCons (eVar 3) aNil))) (eC (.int 1)))) (eVar 16) [16]) aNil))))
def f_law_words_right : FS :=
  (sSeq f_law_words_right_1
    (sSeq f_law_words_right_2
    (sSeq f_law_words_right_3
    (sSeq f_law_words_right_4
    (sSeq f_law_words_right_5
    (sSeq f_law_words_right_6
    (sSeq f_law_words_right_7
    (sSeq f_law_words_right_8
    (sSeq f_law_words_right_9
    (sSeq f_law_words_right_10
    (sSeq f_law_words_right_11
    (sSeq f_law_words_right_12
    (sSeq f_law_words_right_13
    (sSeq f_law_words_right_14
    (sSeq f_law_words_right_15
    (sSeq f_law_words_right_16
    (sSeq f_law_words_right_17
    f_law_words_right_18)))))))))))))))))
def p_law_words_right := bodyT 17 f_law_words_right
theorem ok_law_words_right {P : Program} {w : World} {K : PySem.W.Frag} {mg : Str → Option Value} {base : Heap} (F : FunAt K mg "_law_words_right" s_law_words_right) (H_law_gcd : Has P w K mg base "_law_gcd" ["a", "b"] 1 (spP K 2 p_law_gcd)) (H_law_other : Has P w K mg base "_law_other" ["word"] 1 (spP K 1 p_law_other)) (H_law_take : Has P w K mg base "_law_take" ["tape", "many"] 1 (spT K 1 p_law_take)) (H_coprimes : Has P w K mg base "coprimes" ["number"] 2 (spP K 1 p_coprimes)) (H_heavy_pair : Has P w K mg base "heavy_pair" ["word"] 2 (spP K 1 p_heavy_pair)) (H_is_balanced : Has P w K mg base "is_balanced" ["word"] 3 (spP K 1 p_is_balanced)) (H_is_mirror : Has P w K mg base "is_mirror" ["word"] 1 (spP K 1 p_is_mirror)) (H_line_word : Has P w K mg base "line_word" ["slope", "start", "length"] 3 (spP K 3 p_line_word)) (H_middle_of : Has P w K mg base "middle_of" ["slope"] 5 (spP K 1 p_middle_of)) (H_parts_count : Has P w K mg base "parts_count" ["word", "size"] 1 (spP K 2 p_parts_count)) (H_rough_word : Has P w K mg base "rough_word" ["word"] 2 (spP K 1 p_rough_word)) (H_round_of_slope : Has P w K mg base "round_of_slope" ["slope"] 4 (spP K 1 p_round_of_slope)) (H_slope_of : Has P w K mg base "slope_of" ["word"] 5 (spP K 1 p_slope_of)) (m_int : mg "int" = none) (m_len : mg "len" = none) (m_min : mg "min" = none) (m_range : mg "range" = none) : Has P w K mg base "_law_words_right" ["tape", "slope"] 6 (spT K 1 p_law_words_right) := by
  obtain ⟨f, fd, gm, F⟩ := F
  refine ⟨f, fd, gm, F.kp, F.binds (ps := ["tape", "slope"]) (fun _ _ _ _ _ _ us hl => match us, hl with | [_, _], _ => rfl), ?_⟩
  exact fn_t (N := N_law_words_right) (b := f_law_words_right) F ⟨rfl, rfl, rfl, nd_law_words_right, rfl, by decide +kernel, by decide +kernel⟩ rfl (by decide) fun cdv A outer s H E hr =>
   (ss_cons (ss_asg (sv 1) (sg_tup rfl (sgs_cons (sg_name 2 nd_law_words_right) (sgs_cons (sg_name 3 nd_law_words_right) sgs_nil))))
    (ss_cons (ss_set (i := 4) nd_law_words_right (se_callH H_round_of_slope hr (by decide) (sa_cons (sv 1) sa_nil)))
    (ss_cons (ss_if (sw_or (st_sc (sc_ne hr (se_len m_len (sab_cons (sbv 4) sab_nil)).sb (sbv 3))) (sw_or1 (st_sc (sc_ne hr (se_len m_len (sab_cons (sn_lc (own := [("sign", 5)]) rfl nd_law_words_right (si_seq (sv 4)) (blkOk_by (by rfl)) (fun _ _ _ _ _ => (sg_name 5 nd_law_words_right)) (fun _ _ _ _ _ => (sts_one (st_sc (sc_eq hr (sbv 5) se_str.sb)))) (fun _ _ _ _ _ => (sv 5))).se.sb sab_nil)).sb (sbv 2))))).st (ss_one (ss_ret se_bl)) ss_nil)
    (ss_cons (ss_set (i := 6) nd_law_words_right (se_callH H_round_of_slope hr (by decide) (sa_cons (se_tup (sa_cons (se_sub (sbv 3) (sbv 2)) (sa_cons (sv 3) sa_nil))) sa_nil)))
    (ss_cons (ss_if (st_sc (sc_ne hr (se_rev (se_callH H_law_other hr (by decide) (sa_cons (sv 6) sa_nil)).sb).sb (sbv 4))) (ss_one (ss_ret se_bl)) ss_nil)
    (ss_cons (ss_par (i := 7) (j := 8) rfl nd_law_words_right (se_callTH 0 H_law_take hr (by decide) (sa_cons se_int sa_nil)) (se_callTH 0 H_law_take hr (by decide) (sa_cons se_int sa_nil)))
    (ss_cons (ss_set (i := 9) nd_law_words_right (se_callH H_line_word hr (by decide) (sa_cons (sv 1) (sa_cons (sv 7) (sa_cons (sv 8) sa_nil)))))
    (ss_cons (ss_set (i := 10) nd_law_words_right (se_mul (sbv 4) (se_add (se_div (sbv 8) (sbv 3)).sb se_int.sb).sb))
    (ss_cons (ss_set (i := 11) nd_law_words_right (se_mod (se_int1 m_int (sab_cons (sbv 7) sab_nil)).sb (sbv 3)))
    (ss_cons (ss_if (sw_or (st_sc (sc_ne hr (sbv 9) (se_cut (sbv 10) (so_some (sv 11)) (so_some (se_add (sbv 11) (sbv 8)))).sb)) (sw_or1 (st_sc (sc_ne hr (se_callH H_line_word hr (by decide) (sa_cons (sv 1) (sa_cons (se_add (sbv 7) (sbv 3)) (sa_cons (sv 8) sa_nil)))).sb (sbv 9))))).st (ss_one (ss_ret se_bl)) ss_nil)
    (ss_cons (ss_set (i := 12) nd_law_words_right (se_sub (se_div (se_mul (se_add (sbv 7) (sbv 8)).sb (sbv 2)).sb (sbv 3)).sb (se_div (se_mul (sbv 7) (sbv 2)).sb (sbv 3)).sb))
    (ss_cons (ss_if (st_sc (sc_ne hr (se_len m_len (sab_cons (sn_lc (own := [("sign", 5)]) rfl nd_law_words_right (si_seq (sv 9)) (blkOk_by (by rfl)) (fun _ _ _ _ _ => (sg_name 5 nd_law_words_right)) (fun _ _ _ _ _ => (sts_one (st_sc (sc_eq hr (sbv 5) se_str.sb)))) (fun _ _ _ _ _ => (sv 5))).se.sb sab_nil)).sb (sbv 12))) (ss_one (ss_ret se_bl)) ss_nil)
    (ss_cons (ss_set (i := 13) nd_law_words_right (se_cut (sbv 9) so_none (so_some se_int)))
    (ss_cons (ss_if (sw_or (st_sc (sc_isnt (se_callH H_is_balanced hr (by decide) (sa_cons (sv 13) sa_nil)).sb se_bl.sb)) (sw_or (st_sc (sc_isnt (se_callH H_heavy_pair hr (by decide) (sa_cons (sv 13) sa_nil)).sb se_non.sb)) (sw_or (st_sc (sc_isnt (se_callH H_rough_word hr (by decide) (sa_cons (sv 13) sa_nil)).sb se_non.sb)) (sw_or1 (st_sc (sc_isnt (se_callH H_is_balanced hr (by decide) (sa_cons (se_rev (se_callH H_law_other hr (by decide) (sa_cons (sv 13) sa_nil)).sb) sa_nil)).sb se_bl.sb)))))).st (ss_one (ss_ret se_bl)) ss_nil)
    (ss_cons (ss_for PassesOwn.never rfl (si_r2 m_range se_int (se_minA rfl m_min (sab_cons (sbv 3) (sab_cons se_int.sb sab_nil)))) (sg_name 8 nd_law_words_right) (ss_one (ss_if (st_sc (sc_ne hr (se_callH H_parts_count hr (by decide) (sa_cons (se_add (sbv 4) (sbv 4)) (sa_cons (sv 8) sa_nil))).sb (se_minA rfl m_min (sab_cons (se_add (sbv 8) se_int.sb).sb (sab_cons (sbv 3) sab_nil))).sb)) (ss_one (ss_ret se_bl)) ss_nil)))
    (ss_cons (ss_if (st_ch se_int.sb (slc_lt (sbv 2) (sll_lt (sbv 3)))) (ss_cons (ss_set (i := 14) nd_law_words_right (se_callH H_middle_of hr (by decide) (sa_cons (sv 1) sa_nil)))
    (ss_one (ss_if (sw_or (st_sc (sc_isnt (se_callH H_is_mirror hr (by decide) (sa_cons (sv 14) sa_nil)).sb se_bl.sb)) (sw_or (st_sc (sc_ne hr (sbv 4) (se_add (se_add se_str.sb (sbv 14)).sb se_str.sb).sb)) (sw_or1 (st_sc (sc_ne hr (se_callH H_middle_of hr (by decide) (sa_cons (se_tup (sa_cons (se_sub (sbv 3) (sbv 2)) (sa_cons (sv 3) sa_nil))) sa_nil)).sb (se_rev (se_callH H_law_other hr (by decide) (sa_cons (sv 14) sa_nil)).sb).sb))))).st (ss_one (ss_ret se_bl)) ss_nil))) ss_nil)
    (ss_cons (ss_if (st_sc (sc_le (sbv 3) se_int.sb)) (ss_cons (ss_set (i := 15) nd_law_words_right (se_callTH 0 H_law_take hr (by decide) (sa_cons (sv 3) sa_nil)))
    (ss_one (ss_if (sw_or (st_sc (sc_ne hr (se_callH H_slope_of hr (by decide) (sa_cons (se_add (se_cut (sbv 4) (so_some (sv 15)) so_none).sb (se_cut (sbv 4) so_none (so_some (sv 15))).sb) sa_nil)).sb (sbv 1))) (sw_or1 (st_sc (sc_ne hr (se_callH H_slope_of hr (by decide) (sa_cons (se_rev (sbv 4)) sa_nil)).sb (sbv 1))))).st (ss_one (ss_ret se_bl)) ss_nil))) ss_nil)
    (ss_one (ss_ret (se_sc (sc_eq hr (se_callH H_coprimes hr (by decide) (sa_cons (sv 3) sa_nil)).sb (se_len m_len (sab_cons (sn_lc (own := [("k", 16)]) rfl nd_law_words_right (si_r2 m_range se_int (se_add (sbv 3) se_int.sb)) (blkOk_by (by rfl)) (fun _ _ _ _ _ => (sg_name 16 nd_law_words_right)) (fun _ _ _ _ _ => (sts_one (st_sc (sc_eq hr (se_callH H_law_gcd hr (by decide) (sa_cons (sv 16) (sa_cons (sv 3) sa_nil))).sb se_int.sb)))) (fun _ _ _ _ _ => (sv 16))).se.sb sab_nil)).sb)))))))))))))))))))))

/-! ### law -/
abbrev s_law : Stmt := topS 34
abbrev N_law : List Str := ["script", "tape", "slope"]
theorem nd_law : N_law.Nodup := by decide
def f_law_1 : FS :=
  (sSet 2 (eCallT 1 1 p_law_slope (aCons (eC (.int 60)) aNil)))
def f_law_2 : FS :=
  (sIf (tOrF (tNotF (tTru (eCallT 1 1 p_law_words_right (aCons (eVar 2) aNil)))) (tNotF (tTru (eCallT 1 1 p_law_parts_right (aCons (eVar 2) aNil))))) (sRet (eC (.bool false))) sSkip)
def f_law_3 : FS :=
  (sRet (eAnd (eCallT 1 0 p_law_between_right aNil) (eCallT 1 0 p_law_standard_right aNil)))
def f_law : FS :=
  (sSeq f_law_1
    (sSeq f_law_2
    f_law_3))
theorem ok_law {P : Program} {w : World} {K : PySem.W.Frag} {mg : Str → Option Value} {base : Heap} {f : Addr} {fd : FuncData} (F : Fun K "law" "law" s_law f fd) (H_law_between_right : Has P w K mg base "_law_between_right" ["tape"] 6 (spT K 0 p_law_between_right)) (H_law_parts_right : Has P w K mg base "_law_parts_right" ["tape", "slope"] 5 (spT K 1 p_law_parts_right)) (H_law_slope : Has P w K mg base "_law_slope" ["tape", "most"] 2 (spT K 1 p_law_slope)) (H_law_standard_right : Has P w K mg base "_law_standard_right" ["tape"] 6 (spT K 0 p_law_standard_right)) (H_law_tape : Has P w K mg base "_law_tape" ["script"] 1 (spMk K)) (H_law_words_right : Has P w K mg base "_law_words_right" ["tape", "slope"] 6 (spT K 1 p_law_words_right)) (hm : ∀ ns : List Int, ns.length ≤ 63 → ∃ T', f_law ((List.replicate 3 .un).set 1 .tp) (mkTape ns) = some (.rt (.bool true), T')) : FnOk P w K mg base CX0 7 f fd ["script"] (spLaw K) :=
  fn_law (N := N_law) F ⟨rfl, rfl, rfl, nd_law, rfl, by decide +kernel, by decide +kernel⟩ (by decide) rfl hm fun cdv A outer s H E hr =>
    pss_cons (ps_set (i := 1) nd_law rfl (.inl rfl) (pe_callMk (N := 0) H_law_tape hr (by decide) (pa_cons (pe_var rfl (.inl rfl)) pa_nil)))
    (SSs.ps (ss_cons (ss_set (i := 2) nd_law (se_callTH 1 H_law_slope hr (by decide) (sa_cons se_int sa_nil)))
    (ss_cons (ss_if (sw_or (st_not (st_tru (se_callTH 1 H_law_words_right hr (by decide) (sa_cons (sv 2) sa_nil)).sb)) (sw_or1 (st_not (st_tru (se_callTH 1 H_law_parts_right hr (by decide) (sa_cons (sv 2) sa_nil)).sb)))).st (ss_one (ss_ret se_bl)) ss_nil)
    (ss_one (ss_ret (se_and (se_callTH 1 H_law_between_right hr (by decide) sa_nil) (se_one (se_callTH 1 H_law_standard_right hr (by decide) sa_nil))))))))
theorem all_mk {l : PySem.W.OpenLaw} {w : World} {K : PySem.W.Frag} {h : Heap} {mg : Str → Option Value} {fa : Addr} (X : K.In h) (G : h.Ns mainGlobals mg) (hfa : mg "law" = some (.ref fa)) {a_0 : Addr} {oc_0 kV_0 dc_0 pm_0 cd_0 ct_0 : Value} {od_0 an_0 : Option Addr} {sl_0 : Array (Option Value)} (x1_0 : PySem.W.nsIn K mainGlobals "_law_take" = some (some (.ref a_0))) (x2_0 : K.lookup a_0 = some ⟨oc_0, od_0, .func (PySem.W.fnOf "_law_take" "_law_take" (defArgs s_law_take) (defBody s_law_take) (defScope s_law_take) .none kV_0 dc_0 pm_0 an_0 cd_0 ct_0), sl_0⟩) (x3_0 : PySem.W.codeIn K cd_0 "_law_take" = true) (x4_0 : PySem.W.keepIn K (.ref a_0) = true) {a_1 : Addr} {oc_1 kV_1 dc_1 pm_1 cd_1 ct_1 : Value} {od_1 an_1 : Option Addr} {sl_1 : Array (Option Value)} (x1_1 : PySem.W.nsIn K mainGlobals "_law_neighbours" = some (some (.ref a_1))) (x2_1 : K.lookup a_1 = some ⟨oc_1, od_1, .func (PySem.W.fnOf "_law_neighbours" "_law_neighbours" (defArgs s_law_neighbours) (defBody s_law_neighbours) (defScope s_law_neighbours) .none kV_1 dc_1 pm_1 an_1 cd_1 ct_1), sl_1⟩) (x3_1 : PySem.W.codeIn K cd_1 "_law_neighbours" = true) (x4_1 : PySem.W.keepIn K (.ref a_1) = true) {a_2 : Addr} {oc_2 kV_2 dc_2 pm_2 cd_2 ct_2 : Value} {od_2 an_2 : Option Addr} {sl_2 : Array (Option Value)} (x1_2 : PySem.W.nsIn K mainGlobals "common" = some (some (.ref a_2))) (x2_2 : K.lookup a_2 = some ⟨oc_2, od_2, .func (PySem.W.fnOf "common" "common" (defArgs s_common) (defBody s_common) (defScope s_common) .none kV_2 dc_2 pm_2 an_2 cd_2 ct_2), sl_2⟩) (x3_2 : PySem.W.codeIn K cd_2 "common" = true) (x4_2 : PySem.W.keepIn K (.ref a_2) = true) {a_3 : Addr} {oc_3 kV_3 dc_3 pm_3 cd_3 ct_3 : Value} {od_3 an_3 : Option Addr} {sl_3 : Array (Option Value)} (x1_3 : PySem.W.nsIn K mainGlobals "check_slope" = some (some (.ref a_3))) (x2_3 : K.lookup a_3 = some ⟨oc_3, od_3, .func (PySem.W.fnOf "check_slope" "check_slope" (defArgs s_check_slope) (defBody s_check_slope) (defScope s_check_slope) .none kV_3 dc_3 pm_3 an_3 cd_3 ct_3), sl_3⟩) (x3_3 : PySem.W.codeIn K cd_3 "check_slope" = true) (x4_3 : PySem.W.keepIn K (.ref a_3) = true) {a_4 : Addr} {oc_4 kV_4 dc_4 pm_4 cd_4 ct_4 : Value} {od_4 an_4 : Option Addr} {sl_4 : Array (Option Value)} (x1_4 : PySem.W.nsIn K mainGlobals "line_word" = some (some (.ref a_4))) (x2_4 : K.lookup a_4 = some ⟨oc_4, od_4, .func (PySem.W.fnOf "line_word" "line_word" (defArgs s_line_word) (defBody s_line_word) (defScope s_line_word) .none kV_4 dc_4 pm_4 an_4 cd_4 ct_4), sl_4⟩) (x3_4 : PySem.W.codeIn K cd_4 "line_word" = true) (x4_4 : PySem.W.keepIn K (.ref a_4) = true) {a_5 : Addr} {oc_5 kV_5 dc_5 pm_5 cd_5 ct_5 : Value} {od_5 an_5 : Option Addr} {sl_5 : Array (Option Value)} (x1_5 : PySem.W.nsIn K mainGlobals "round_of_slope" = some (some (.ref a_5))) (x2_5 : K.lookup a_5 = some ⟨oc_5, od_5, .func (PySem.W.fnOf "round_of_slope" "round_of_slope" (defArgs s_round_of_slope) (defBody s_round_of_slope) (defScope s_round_of_slope) .none kV_5 dc_5 pm_5 an_5 cd_5 ct_5), sl_5⟩) (x3_5 : PySem.W.codeIn K cd_5 "round_of_slope" = true) (x4_5 : PySem.W.keepIn K (.ref a_5) = true) {a_6 : Addr} {oc_6 kV_6 dc_6 pm_6 cd_6 ct_6 : Value} {od_6 an_6 : Option Addr} {sl_6 : Array (Option Value)} (x1_6 : PySem.W.nsIn K mainGlobals "check_word" = some (some (.ref a_6))) (x2_6 : K.lookup a_6 = some ⟨oc_6, od_6, .func (PySem.W.fnOf "check_word" "check_word" (defArgs s_check_word) (defBody s_check_word) (defScope s_check_word) .none kV_6 dc_6 pm_6 an_6 cd_6 ct_6), sl_6⟩) (x3_6 : PySem.W.codeIn K cd_6 "check_word" = true) (x4_6 : PySem.W.keepIn K (.ref a_6) = true) {a_7 : Addr} {oc_7 kV_7 dc_7 pm_7 cd_7 ct_7 : Value} {od_7 an_7 : Option Addr} {sl_7 : Array (Option Value)} (x1_7 : PySem.W.nsIn K mainGlobals "slope_of" = some (some (.ref a_7))) (x2_7 : K.lookup a_7 = some ⟨oc_7, od_7, .func (PySem.W.fnOf "slope_of" "slope_of" (defArgs s_slope_of) (defBody s_slope_of) (defScope s_slope_of) .none kV_7 dc_7 pm_7 an_7 cd_7 ct_7), sl_7⟩) (x3_7 : PySem.W.codeIn K cd_7 "slope_of" = true) (x4_7 : PySem.W.keepIn K (.ref a_7) = true) {a_8 : Addr} {oc_8 kV_8 dc_8 pm_8 cd_8 ct_8 : Value} {od_8 an_8 : Option Addr} {sl_8 : Array (Option Value)} (x1_8 : PySem.W.nsIn K mainGlobals "_law_between_right" = some (some (.ref a_8))) (x2_8 : K.lookup a_8 = some ⟨oc_8, od_8, .func (PySem.W.fnOf "_law_between_right" "_law_between_right" (defArgs s_law_between_right) (defBody s_law_between_right) (defScope s_law_between_right) .none kV_8 dc_8 pm_8 an_8 cd_8 ct_8), sl_8⟩) (x3_8 : PySem.W.codeIn K cd_8 "_law_between_right" = true) (x4_8 : PySem.W.keepIn K (.ref a_8) = true) {a_9 : Addr} {oc_9 kV_9 dc_9 pm_9 cd_9 ct_9 : Value} {od_9 an_9 : Option Addr} {sl_9 : Array (Option Value)} (x1_9 : PySem.W.nsIn K mainGlobals "from_parts" = some (some (.ref a_9))) (x2_9 : K.lookup a_9 = some ⟨oc_9, od_9, .func (PySem.W.fnOf "from_parts" "from_parts" (defArgs s_from_parts) (defBody s_from_parts) (defScope s_from_parts) .none kV_9 dc_9 pm_9 an_9 cd_9 ct_9), sl_9⟩) (x3_9 : PySem.W.codeIn K cd_9 "from_parts" = true) (x4_9 : PySem.W.keepIn K (.ref a_9) = true) {a_10 : Addr} {oc_10 kV_10 dc_10 pm_10 cd_10 ct_10 : Value} {od_10 an_10 : Option Addr} {sl_10 : Array (Option Value)} (x1_10 : PySem.W.nsIn K mainGlobals "lowered" = some (some (.ref a_10))) (x2_10 : K.lookup a_10 = some ⟨oc_10, od_10, .func (PySem.W.fnOf "lowered" "lowered" (defArgs s_lowered) (defBody s_lowered) (defScope s_lowered) .none kV_10 dc_10 pm_10 an_10 cd_10 ct_10), sl_10⟩) (x3_10 : PySem.W.codeIn K cd_10 "lowered" = true) (x4_10 : PySem.W.keepIn K (.ref a_10) = true) {a_11 : Addr} {oc_11 kV_11 dc_11 pm_11 cd_11 ct_11 : Value} {od_11 an_11 : Option Addr} {sl_11 : Array (Option Value)} (x1_11 : PySem.W.nsIn K mainGlobals "parts_of" = some (some (.ref a_11))) (x2_11 : K.lookup a_11 = some ⟨oc_11, od_11, .func (PySem.W.fnOf "parts_of" "parts_of" (defArgs s_parts_of) (defBody s_parts_of) (defScope s_parts_of) .none kV_11 dc_11 pm_11 an_11 cd_11 ct_11), sl_11⟩) (x3_11 : PySem.W.codeIn K cd_11 "parts_of" = true) (x4_11 : PySem.W.keepIn K (.ref a_11) = true) {a_12 : Addr} {oc_12 kV_12 dc_12 pm_12 cd_12 ct_12 : Value} {od_12 an_12 : Option Addr} {sl_12 : Array (Option Value)} (x1_12 : PySem.W.nsIn K mainGlobals "raised" = some (some (.ref a_12))) (x2_12 : K.lookup a_12 = some ⟨oc_12, od_12, .func (PySem.W.fnOf "raised" "raised" (defArgs s_raised) (defBody s_raised) (defScope s_raised) .none kV_12 dc_12 pm_12 an_12 cd_12 ct_12), sl_12⟩) (x3_12 : PySem.W.codeIn K cd_12 "raised" = true) (x4_12 : PySem.W.keepIn K (.ref a_12) = true) {a_13 : Addr} {oc_13 kV_13 dc_13 pm_13 cd_13 ct_13 : Value} {od_13 an_13 : Option Addr} {sl_13 : Array (Option Value)} (x1_13 : PySem.W.nsIn K mainGlobals "_law_parts_right" = some (some (.ref a_13))) (x2_13 : K.lookup a_13 = some ⟨oc_13, od_13, .func (PySem.W.fnOf "_law_parts_right" "_law_parts_right" (defArgs s_law_parts_right) (defBody s_law_parts_right) (defScope s_law_parts_right) .none kV_13 dc_13 pm_13 an_13 cd_13 ct_13), sl_13⟩) (x3_13 : PySem.W.codeIn K cd_13 "_law_parts_right" = true) (x4_13 : PySem.W.keepIn K (.ref a_13) = true) {a_14 : Addr} {oc_14 kV_14 dc_14 pm_14 cd_14 ct_14 : Value} {od_14 an_14 : Option Addr} {sl_14 : Array (Option Value)} (x1_14 : PySem.W.nsIn K mainGlobals "_law_gcd" = some (some (.ref a_14))) (x2_14 : K.lookup a_14 = some ⟨oc_14, od_14, .func (PySem.W.fnOf "_law_gcd" "_law_gcd" (defArgs s_law_gcd) (defBody s_law_gcd) (defScope s_law_gcd) .none kV_14 dc_14 pm_14 an_14 cd_14 ct_14), sl_14⟩) (x3_14 : PySem.W.codeIn K cd_14 "_law_gcd" = true) (x4_14 : PySem.W.keepIn K (.ref a_14) = true) {a_15 : Addr} {oc_15 kV_15 dc_15 pm_15 cd_15 ct_15 : Value} {od_15 an_15 : Option Addr} {sl_15 : Array (Option Value)} (x1_15 : PySem.W.nsIn K mainGlobals "_law_slope" = some (some (.ref a_15))) (x2_15 : K.lookup a_15 = some ⟨oc_15, od_15, .func (PySem.W.fnOf "_law_slope" "_law_slope" (defArgs s_law_slope) (defBody s_law_slope) (defScope s_law_slope) .none kV_15 dc_15 pm_15 an_15 cd_15 ct_15), sl_15⟩) (x3_15 : PySem.W.codeIn K cd_15 "_law_slope" = true) (x4_15 : PySem.W.keepIn K (.ref a_15) = true) {a_16 : Addr} {oc_16 kV_16 dc_16 pm_16 cd_16 ct_16 : Value} {od_16 an_16 : Option Addr} {sl_16 : Array (Option Value)} (x1_16 : PySem.W.nsIn K mainGlobals "heavy_pair" = some (some (.ref a_16))) (x2_16 : K.lookup a_16 = some ⟨oc_16, od_16, .func (PySem.W.fnOf "heavy_pair" "heavy_pair" (defArgs s_heavy_pair) (defBody s_heavy_pair) (defScope s_heavy_pair) .none kV_16 dc_16 pm_16 an_16 cd_16 ct_16), sl_16⟩) (x3_16 : PySem.W.codeIn K cd_16 "heavy_pair" = true) (x4_16 : PySem.W.keepIn K (.ref a_16) = true) {a_17 : Addr} {oc_17 kV_17 dc_17 pm_17 cd_17 ct_17 : Value} {od_17 an_17 : Option Addr} {sl_17 : Array (Option Value)} (x1_17 : PySem.W.nsIn K mainGlobals "is_balanced" = some (some (.ref a_17))) (x2_17 : K.lookup a_17 = some ⟨oc_17, od_17, .func (PySem.W.fnOf "is_balanced" "is_balanced" (defArgs s_is_balanced) (defBody s_is_balanced) (defScope s_is_balanced) .none kV_17 dc_17 pm_17 an_17 cd_17 ct_17), sl_17⟩) (x3_17 : PySem.W.codeIn K cd_17 "is_balanced" = true) (x4_17 : PySem.W.keepIn K (.ref a_17) = true) {a_18 : Addr} {oc_18 kV_18 dc_18 pm_18 cd_18 ct_18 : Value} {od_18 an_18 : Option Addr} {sl_18 : Array (Option Value)} (x1_18 : PySem.W.nsIn K mainGlobals "is_mirror" = some (some (.ref a_18))) (x2_18 : K.lookup a_18 = some ⟨oc_18, od_18, .func (PySem.W.fnOf "is_mirror" "is_mirror" (defArgs s_is_mirror) (defBody s_is_mirror) (defScope s_is_mirror) .none kV_18 dc_18 pm_18 an_18 cd_18 ct_18), sl_18⟩) (x3_18 : PySem.W.codeIn K cd_18 "is_mirror" = true) (x4_18 : PySem.W.keepIn K (.ref a_18) = true) {a_19 : Addr} {oc_19 kV_19 dc_19 pm_19 cd_19 ct_19 : Value} {od_19 an_19 : Option Addr} {sl_19 : Array (Option Value)} (x1_19 : PySem.W.nsIn K mainGlobals "standard" = some (some (.ref a_19))) (x2_19 : K.lookup a_19 = some ⟨oc_19, od_19, .func (PySem.W.fnOf "standard" "standard" (defArgs s_standard) (defBody s_standard) (defScope s_standard) .none kV_19 dc_19 pm_19 an_19 cd_19 ct_19), sl_19⟩) (x3_19 : PySem.W.codeIn K cd_19 "standard" = true) (x4_19 : PySem.W.keepIn K (.ref a_19) = true) {a_20 : Addr} {oc_20 kV_20 dc_20 pm_20 cd_20 ct_20 : Value} {od_20 an_20 : Option Addr} {sl_20 : Array (Option Value)} (x1_20 : PySem.W.nsIn K mainGlobals "_law_standard_right" = some (some (.ref a_20))) (x2_20 : K.lookup a_20 = some ⟨oc_20, od_20, .func (PySem.W.fnOf "_law_standard_right" "_law_standard_right" (defArgs s_law_standard_right) (defBody s_law_standard_right) (defScope s_law_standard_right) .none kV_20 dc_20 pm_20 an_20 cd_20 ct_20), sl_20⟩) (x3_20 : PySem.W.codeIn K cd_20 "_law_standard_right" = true) (x4_20 : PySem.W.keepIn K (.ref a_20) = true) {a_21 : Addr} {oc_21 kV_21 dc_21 pm_21 cd_21 ct_21 : Value} {od_21 an_21 : Option Addr} {sl_21 : Array (Option Value)} (x1_21 : PySem.W.nsIn K mainGlobals "_law_tape" = some (some (.ref a_21))) (x2_21 : K.lookup a_21 = some ⟨oc_21, od_21, .func (PySem.W.fnOf "_law_tape" "_law_tape" (defArgs s_law_tape) (defBody s_law_tape) (defScope s_law_tape) .none kV_21 dc_21 pm_21 an_21 cd_21 ct_21), sl_21⟩) (x3_21 : PySem.W.codeIn K cd_21 "_law_tape" = true) (x4_21 : PySem.W.keepIn K (.ref a_21) = true) {a_22 : Addr} {oc_22 kV_22 dc_22 pm_22 cd_22 ct_22 : Value} {od_22 an_22 : Option Addr} {sl_22 : Array (Option Value)} (x1_22 : PySem.W.nsIn K mainGlobals "_law_other" = some (some (.ref a_22))) (x2_22 : K.lookup a_22 = some ⟨oc_22, od_22, .func (PySem.W.fnOf "_law_other" "_law_other" (defArgs s_law_other) (defBody s_law_other) (defScope s_law_other) .none kV_22 dc_22 pm_22 an_22 cd_22 ct_22), sl_22⟩) (x3_22 : PySem.W.codeIn K cd_22 "_law_other" = true) (x4_22 : PySem.W.keepIn K (.ref a_22) = true) {a_23 : Addr} {oc_23 kV_23 dc_23 pm_23 cd_23 ct_23 : Value} {od_23 an_23 : Option Addr} {sl_23 : Array (Option Value)} (x1_23 : PySem.W.nsIn K mainGlobals "coprimes" = some (some (.ref a_23))) (x2_23 : K.lookup a_23 = some ⟨oc_23, od_23, .func (PySem.W.fnOf "coprimes" "coprimes" (defArgs s_coprimes) (defBody s_coprimes) (defScope s_coprimes) .none kV_23 dc_23 pm_23 an_23 cd_23 ct_23), sl_23⟩) (x3_23 : PySem.W.codeIn K cd_23 "coprimes" = true) (x4_23 : PySem.W.keepIn K (.ref a_23) = true) {a_24 : Addr} {oc_24 kV_24 dc_24 pm_24 cd_24 ct_24 : Value} {od_24 an_24 : Option Addr} {sl_24 : Array (Option Value)} (x1_24 : PySem.W.nsIn K mainGlobals "middle_of" = some (some (.ref a_24))) (x2_24 : K.lookup a_24 = some ⟨oc_24, od_24, .func (PySem.W.fnOf "middle_of" "middle_of" (defArgs s_middle_of) (defBody s_middle_of) (defScope s_middle_of) .none kV_24 dc_24 pm_24 an_24 cd_24 ct_24), sl_24⟩) (x3_24 : PySem.W.codeIn K cd_24 "middle_of" = true) (x4_24 : PySem.W.keepIn K (.ref a_24) = true) {a_25 : Addr} {oc_25 kV_25 dc_25 pm_25 cd_25 ct_25 : Value} {od_25 an_25 : Option Addr} {sl_25 : Array (Option Value)} (x1_25 : PySem.W.nsIn K mainGlobals "parts_count" = some (some (.ref a_25))) (x2_25 : K.lookup a_25 = some ⟨oc_25, od_25, .func (PySem.W.fnOf "parts_count" "parts_count" (defArgs s_parts_count) (defBody s_parts_count) (defScope s_parts_count) .none kV_25 dc_25 pm_25 an_25 cd_25 ct_25), sl_25⟩) (x3_25 : PySem.W.codeIn K cd_25 "parts_count" = true) (x4_25 : PySem.W.keepIn K (.ref a_25) = true) {a_26 : Addr} {oc_26 kV_26 dc_26 pm_26 cd_26 ct_26 : Value} {od_26 an_26 : Option Addr} {sl_26 : Array (Option Value)} (x1_26 : PySem.W.nsIn K mainGlobals "rough_word" = some (some (.ref a_26))) (x2_26 : K.lookup a_26 = some ⟨oc_26, od_26, .func (PySem.W.fnOf "rough_word" "rough_word" (defArgs s_rough_word) (defBody s_rough_word) (defScope s_rough_word) .none kV_26 dc_26 pm_26 an_26 cd_26 ct_26), sl_26⟩) (x3_26 : PySem.W.codeIn K cd_26 "rough_word" = true) (x4_26 : PySem.W.keepIn K (.ref a_26) = true) {a_27 : Addr} {oc_27 kV_27 dc_27 pm_27 cd_27 ct_27 : Value} {od_27 an_27 : Option Addr} {sl_27 : Array (Option Value)} (x1_27 : PySem.W.nsIn K mainGlobals "_law_words_right" = some (some (.ref a_27))) (x2_27 : K.lookup a_27 = some ⟨oc_27, od_27, .func (PySem.W.fnOf "_law_words_right" "_law_words_right" (defArgs s_law_words_right) (defBody s_law_words_right) (defScope s_law_words_right) .none kV_27 dc_27 pm_27 an_27 cd_27 ct_27), sl_27⟩) (x3_27 : PySem.W.codeIn K cd_27 "_law_words_right" = true) (x4_27 : PySem.W.keepIn K (.ref a_27) = true) {a_28 : Addr} {oc_28 kV_28 dc_28 pm_28 cd_28 ct_28 : Value} {od_28 an_28 : Option Addr} {sl_28 : Array (Option Value)} (x1_28 : PySem.W.nsIn K mainGlobals "law" = some (some (.ref a_28))) (x2_28 : K.lookup a_28 = some ⟨oc_28, od_28, .func (PySem.W.fnOf "law" "law" (defArgs s_law) (defBody s_law) (defScope s_law) .none kV_28 dc_28 pm_28 an_28 cd_28 ct_28), sl_28⟩) (x3_28 : PySem.W.codeIn K cd_28 "law" = true) (x4_28 : PySem.W.keepIn K (.ref a_28) = true) (z_abs : PySem.W.nsIn K mainGlobals "abs" = some none) (z_all : PySem.W.nsIn K mainGlobals "all" = some none) (z_enumerate : PySem.W.nsIn K mainGlobals "enumerate" = some none) (z_int : PySem.W.nsIn K mainGlobals "int" = some none) (z_len : PySem.W.nsIn K mainGlobals "len" = some none) (z_max : PySem.W.nsIn K mainGlobals "max" = some none) (z_min : PySem.W.nsIn K mainGlobals "min" = some none) (z_range : PySem.W.nsIn K mainGlobals "range" = some none) (z_reversed : PySem.W.nsIn K mainGlobals "reversed" = some none) (z_sorted : PySem.W.nsIn K mainGlobals "sorted" = some none) (z_str : PySem.W.nsIn K mainGlobals "str" = some none) (z_sum : PySem.W.nsIn K mainGlobals "sum" = some none) (z_tuple : PySem.W.nsIn K mainGlobals "tuple" = some none) {t_MOST_LENGTH : Tok} (u_MOST_LENGTH : PySem.W.nsIn K mainGlobals "MOST_LENGTH" = some (some (.int 40 t_MOST_LENGTH))) (hm : ∀ ns : List Int, ns.length ≤ 63 → ∃ T', f_law ((List.replicate 3 .un).set 1 .tp) (mkTape ns) = some (.rt (.bool true), T')) :
    ∃ fd : FuncData, (∀ (s : Shared) (v : Value), BindsTo s fd ⟨[v], []⟩ [("script", v)]) ∧ ∀ base : Heap, K.In base → base.Ns mainGlobals mg → FnOk l.prog w K mg base CX0 7 fa fd ["script"] (spLaw K) := by
  have m_abs : mg "abs" = none := PySem.W.mg_none_of X G z_abs
  have m_all : mg "all" = none := PySem.W.mg_none_of X G z_all
  have m_enumerate : mg "enumerate" = none := PySem.W.mg_none_of X G z_enumerate
  have m_int : mg "int" = none := PySem.W.mg_none_of X G z_int
  have m_len : mg "len" = none := PySem.W.mg_none_of X G z_len
  have m_max : mg "max" = none := PySem.W.mg_none_of X G z_max
  have m_min : mg "min" = none := PySem.W.mg_none_of X G z_min
  have m_range : mg "range" = none := PySem.W.mg_none_of X G z_range
  have m_reversed : mg "reversed" = none := PySem.W.mg_none_of X G z_reversed
  have m_sorted : mg "sorted" = none := PySem.W.mg_none_of X G z_sorted
  have m_str : mg "str" = none := PySem.W.mg_none_of X G z_str
  have m_sum : mg "sum" = none := PySem.W.mg_none_of X G z_sum
  have m_tuple : mg "tuple" = none := PySem.W.mg_none_of X G z_tuple
  have g_MOST_LENGTH : ∃ t, mg "MOST_LENGTH" = some (.int 40 t) := ⟨_, PySem.W.mg_of X G u_MOST_LENGTH⟩
  have e := hfa.symm.trans (PySem.W.mg_of X G x1_28)
  cases e
  refine ⟨PySem.W.fnOf "law" "law" (defArgs s_law) (defBody s_law) (defScope s_law) .none kV_28 dc_28 pm_28 an_28 cd_28 ct_28, fun s v => .of_eq rfl, fun base _ _ => ?_⟩
  have H_law_take := ok_law_take (P := l.prog) (w := w) (base := base) (funAt_mk X G x1_0 x2_0 x3_0 x4_0) m_int m_len
  have H_law_neighbours := ok_law_neighbours (P := l.prog) (w := w) (base := base) (funAt_mk X G x1_1 x2_1 x3_1 x4_1) H_law_take m_range
  have H_common := ok_common (P := l.prog) (w := w) (base := base) (funAt_mk X G x1_2 x2_2 x3_2 x4_2) 
  have H_check_slope := ok_check_slope (P := l.prog) (w := w) (base := base) (funAt_mk X G x1_3 x2_3 x3_3 x4_3) H_common
  have H_line_word := ok_line_word (P := l.prog) (w := w) (base := base) (funAt_mk X G x1_4 x2_4 x3_4 x4_4) H_check_slope m_range m_str
  have H_round_of_slope := ok_round_of_slope (P := l.prog) (w := w) (base := base) (funAt_mk X G x1_5 x2_5 x3_5 x4_5) H_line_word
  have H_check_word := ok_check_word (P := l.prog) (w := w) (base := base) (funAt_mk X G x1_6 x2_6 x3_6 x4_6) m_all m_len g_MOST_LENGTH
  have H_slope_of := ok_slope_of (P := l.prog) (w := w) (base := base) (funAt_mk X G x1_7 x2_7 x3_7 x4_7) H_check_word H_common H_round_of_slope m_len g_MOST_LENGTH
  have H_law_between_right := ok_law_between_right (P := l.prog) (w := w) (base := base) (funAt_mk X G x1_8 x2_8 x3_8 x4_8) H_law_neighbours H_round_of_slope H_slope_of m_len
  have H_from_parts := ok_from_parts (P := l.prog) (w := w) (base := base) (funAt_mk X G x1_9 x2_9 x3_9 x4_9) m_all m_len m_reversed
  have H_lowered := ok_lowered (P := l.prog) (w := w) (base := base) (funAt_mk X G x1_10 x2_10 x3_10 x4_10) H_check_word
  have H_parts_of := ok_parts_of (P := l.prog) (w := w) (base := base) (funAt_mk X G x1_11 x2_11 x3_11 x4_11) H_check_slope m_tuple
  have H_raised := ok_raised (P := l.prog) (w := w) (base := base) (funAt_mk X G x1_12 x2_12 x3_12 x4_12) H_check_word
  have H_law_parts_right := ok_law_parts_right (P := l.prog) (w := w) (base := base) (funAt_mk X G x1_13 x2_13 x3_13 x4_13) H_from_parts H_lowered H_parts_of H_raised H_round_of_slope m_len m_max
  have H_law_gcd := ok_law_gcd (P := l.prog) (w := w) (base := base) (funAt_mk X G x1_14 x2_14 x3_14 x4_14) m_int m_range
  have H_law_slope := ok_law_slope (P := l.prog) (w := w) (base := base) (funAt_mk X G x1_15 x2_15 x3_15 x4_15) H_law_gcd H_law_take
  have H_heavy_pair := ok_heavy_pair (P := l.prog) (w := w) (base := base) (funAt_mk X G x1_16 x2_16 x3_16 x4_16) H_check_word m_len m_max m_min m_range
  have H_is_balanced := ok_is_balanced (P := l.prog) (w := w) (base := base) (funAt_mk X G x1_17 x2_17 x3_17 x4_17) H_heavy_pair
  have H_is_mirror := ok_is_mirror (P := l.prog) (w := w) (base := base) (funAt_mk X G x1_18 x2_18 x3_18 x4_18) 
  have H_standard := ok_standard (P := l.prog) (w := w) (base := base) (funAt_mk X G x1_19 x2_19 x3_19 x4_19) m_all m_enumerate m_len
  have H_law_standard_right := ok_law_standard_right (P := l.prog) (w := w) (base := base) (funAt_mk X G x1_20 x2_20 x3_20 x4_20) H_law_take H_is_balanced H_is_mirror H_slope_of H_standard m_len m_range m_tuple
  have H_law_tape := ok_law_tape (P := l.prog) (w := w) (base := base) (funAt_mk X G x1_21 x2_21 x3_21 x4_21) m_abs m_int
  have H_law_other := ok_law_other (P := l.prog) (w := w) (base := base) (funAt_mk X G x1_22 x2_22 x3_22 x4_22) m_int
  have H_coprimes := ok_coprimes (P := l.prog) (w := w) (base := base) (funAt_mk X G x1_23 x2_23 x3_23 x4_23) H_common m_range m_sum
  have H_middle_of := ok_middle_of (P := l.prog) (w := w) (base := base) (funAt_mk X G x1_24 x2_24 x3_24 x4_24) H_check_slope H_round_of_slope
  have H_parts_count := ok_parts_count (P := l.prog) (w := w) (base := base) (funAt_mk X G x1_25 x2_25 x3_25 x4_25) m_len m_range
  have H_rough_word := ok_rough_word (P := l.prog) (w := w) (base := base) (funAt_mk X G x1_26 x2_26 x3_26 x4_26) H_check_word m_len m_max m_range m_sorted
  have H_law_words_right := ok_law_words_right (P := l.prog) (w := w) (base := base) (funAt_mk X G x1_27 x2_27 x3_27 x4_27) H_law_gcd H_law_other H_law_take H_coprimes H_heavy_pair H_is_balanced H_is_mirror H_line_word H_middle_of H_parts_count H_rough_word H_round_of_slope H_slope_of m_int m_len m_min m_range
  exact ok_law (fun_mk x2_28 x3_28 x4_28) H_law_between_right H_law_parts_right H_law_slope H_law_standard_right H_law_tape H_law_words_right hm
end Dv

/-! M1: gcd, slopes, words of lines. -/
namespace Dv
open PySem

/-! ### gcd -/
def bGcd : FS := sPar 0 1 (eVar 1) (e2 qMod (eOwn 0) (eOwn 1))
theorem truD_int (i : Int) : truD (.int i) = some (i != 0) := rfl
theorem tru_ne {i : Int} (h : i ≠ 0) : truD (.int i) = some true := by rw [truD_int, bne_iff_ne.mpr h]
theorem q_str {i : Int} (h0 : 0 ≤ i) (h1 : i < 10) : qStr [.int i] = some (.str (S [48 + i.toNat])) := by
  show (if (decide (0 ≤ i) && decide (i < 10)) = true then some (PyData.str (S [48 + i.toNat])) else none) = _
  rw [decide_eq_true h0, decide_eq_true h1]
  rfl
theorem bGcd_run {a b : Nat} (hb : 0 < b) (T : Tp) : bGcd [.fr (.int a), .fr (.int b)] T = some (.nx [.fr (.int b), .fr (.int ((a % b : Nat) : Int))], T) :=
  par_of (x := .int b) (y := .int ((a % b : Nat) : Int)) rfl (e2_of rfl rfl (q_mod (by omega)))
theorem gcd_loop (T : Tp) : ∀ (f a b : Nat), b ≤ a → a * b < 2 ^ f → whL (tTru (eOwn 1)) bGcd (f + 1) [.fr (.int a), .fr (.int b)] T = some (.nx [.fr (.int (Nat.gcd a b)), .fr (.int 0)], T)
  | f, a, 0, _, _ => by rw [Nat.gcd_zero_right]; exact wh_f rfl
  | 0, a, b + 1, h1, h2 => by
    have : 0 < a * (b + 1) := Nat.mul_pos (by omega) (by omega)
    omega
  | f + 1, a, b + 1, h1, h2 => by
    have hm : a % (b + 1) < b + 1 := Nat.mod_lt _ (by omega)
    have hq : 1 ≤ a / (b + 1) := (Nat.le_div_iff_mul_le (by omega)).mpr (by omega)
    have hd := Nat.div_add_mod a (b + 1)
    have h3 : (b + 1) * (a % (b + 1)) < 2 ^ f := by
      have h4 : (b + 1) * 1 ≤ (b + 1) * (a / (b + 1)) := Nat.mul_le_mul_left _ hq
      have h5 : 2 * (a % (b + 1)) ≤ a := by omega
      have h6 : (b + 1) * (2 * (a % (b + 1))) ≤ (b + 1) * a := Nat.mul_le_mul_left _ h5
      rw [Nat.pow_succ] at h2
      rw [Nat.mul_comm a] at h2
      have h7 : (b + 1) * (2 * (a % (b + 1))) = 2 * ((b + 1) * (a % (b + 1))) := by rw [Nat.mul_left_comm]
      omega
    have ih := gcd_loop T f (b + 1) (a % (b + 1)) (by omega) h3
    refine wh_t (ρ2 := [.fr (.int ((b + 1 : Nat) : Int)), .fr (.int ((a % (b + 1) : Nat) : Int))]) (T1 := T) ?_ (bGcd_run (by omega) T) ?_
    · exact tru_of (d := .int ((b + 1 : Nat) : Int)) rfl (tru_ne (by omega))
    · rw [Nat.gcd_comm a, Nat.gcd_rec (b + 1) a, Nat.gcd_comm]
      exact ih
theorem gcd_any (T : Tp) (f a b : Nat) (h : a * b < 2 ^ f) (h2 : b * b < 2 ^ f) : whL (tTru (eOwn 1)) bGcd (f + 2) [.fr (.int a), .fr (.int b)] T = some (.nx [.fr (.int (Nat.gcd a b)), .fr (.int 0)], T) := by
  by_cases hb : b = 0
  · subst hb
    rw [Nat.gcd_zero_right]
    exact wh_f rfl
  · have hm : a % b < b := Nat.mod_lt _ (by omega)
    have h3 : b * (a % b) < 2 ^ f := Nat.lt_of_le_of_lt (Nat.mul_le_mul_left _ (Nat.le_of_lt hm)) h2
    refine wh_t (ρ2 := [.fr (.int (b : Int)), .fr (.int ((a % b : Nat) : Int))]) (T1 := T) ?_ (bGcd_run (by omega) T) ?_
    · exact tru_of (d := .int (b : Int)) rfl (tru_ne (by omega))
    · rw [Nat.gcd_comm a, Nat.gcd_rec b a, Nat.gcd_comm]
      exact gcd_loop T f b (a % b) (Nat.le_of_lt hm) h3
theorem p_common_ok (a b : Nat) (ha : a ≤ 100000) (hb : b ≤ 100000) : p_common [.int a, .int b] = some (.int (Nat.gcd a b)) := by
  have h1 : a * b ≤ 100000 * 100000 := Nat.mul_le_mul ha hb
  have h2 : b * b ≤ 100000 * 100000 := Nat.mul_le_mul hb hb
  have h3 : (100000 * 100000 : Nat) < 2 ^ 98 := by decide
  exact bodyP_rt (T1 := T0) (seq_nx (gcd_any T0 98 a b (by omega) (by omega)) (ret_of rfl))

/-! ### slopes -/
def slD (n d : Nat) : D := .tuple [.int n, .int d]
structure Sl (n d : Nat) : Prop where
  le : n ≤ d
  pos : 1 ≤ d
  top : d ≤ 1000
  co : Nat.gcd n d = 1
theorem q_le {i j : Int} : qLe (.int i) (.int j) = some (.bool (decide (i ≤ j))) := rfl
theorem q_le_t {i j : Int} (h : i ≤ j) : qLe (.int i) (.int j) = some (.bool true) := by rw [q_le, decide_eq_true h]
theorem q_lt_t {i j : Int} (h : i < j) : qLt (.int i) (.int j) = some (.bool true) := by show some (PyData.bool (decide (i < j))) = _; rw [decide_eq_true h]
theorem q_lt_f {i j : Int} (h : ¬ i < j) : qLt (.int i) (.int j) = some (.bool false) := by show some (PyData.bool (decide (i < j))) = _; rw [decide_eq_false h]
theorem q_gt_t {i j : Int} (h : j < i) : qGt (.int i) (.int j) = some (.bool true) := by show some (PyData.bool (decide (j < i))) = _; rw [decide_eq_true h]
theorem q_gt_f {i j : Int} (h : ¬ j < i) : qGt (.int i) (.int j) = some (.bool false) := by show some (PyData.bool (decide (j < i))) = _; rw [decide_eq_false h]
theorem q_eq_t {i j : Int} (h : i = j) : qEq (.int i) (.int j) = some (.bool true) := by show some (PyData.bool (i == j)) = _; rw [beq_iff_eq.mpr h]
theorem q_eq_f {i j : Int} (h : i ≠ j) : qEq (.int i) (.int j) = some (.bool false) := by show some (PyData.bool (i == j)) = _; rw [beq_eq_false_iff_ne.mpr h]
theorem q_ne_f {i j : Int} (h : i = j) : qNe (.int i) (.int j) = some (.bool false) := by show some (PyData.bool (!(i == j))) = _; rw [beq_iff_eq.mpr h]; rfl
theorem q_ne_t {i j : Int} (h : i ≠ j) : qNe (.int i) (.int j) = some (.bool true) := by show some (PyData.bool (!(i == j))) = _; rw [beq_eq_false_iff_ne.mpr h]; rfl
theorem p_check_ok {n d : Nat} (h : Sl n d) : p_check_slope [slD n d] = some .none := by
  have h1 := h.le; have h2 := h.pos; have h3 := h.top
  refine bodyP_nx (T1 := T0) (ρ1 := [.fr (slD n d), .fr (.int n), .fr (.int d)]) (seq_nx (ρ1 := [.fr (slD n d), .fr (.int n), .fr (.int d)]) (T1 := T0) (asg_of (d := slD n d) rfl (gtup_of rfl rfl)) (if_f (T1 := T0) ?_ rfl))
  refine (or_f (T1 := T0) (not_of (b := true) (bool_of (ch_of (x := .int 0) (T1 := T0) rfl (lc_t (y := .int n) (T1 := T0) rfl (q_le_t (by omega)) (lc_t (y := .int d) (T1 := T0) rfl (q_le_t (by omega)) (lc_last (y := .int 1000) rfl (q_le_t (by omega))))))))).trans ?_
  refine (or_f (T1 := T0) (bool_of (e2_of (x := .int d) (y := .int 1) rfl rfl (q_lt_f (by omega))))).trans ?_
  exact bool_of (e2_of (y := .int 1) (callP_of (ds := [.int n, .int d]) rfl rfl (p_common_ok n d (by omega) (by omega))) rfl (q_ne_f (by rw [h.co]; rfl)))

/-! ### words -/
abbrev Wd := List Nat
def dig (n d k : Nat) : Nat := 48 + ((k + 1) * n / d - k * n / d)
def lineW (n d s l : Nat) : Wd := (List.range l).map fun i => dig n d (s + i)
def rndW (n d : Nat) : Wd := lineW n d 0 d
theorem lineW_len (n d s l : Nat) : (lineW n d s l).length = l := by unfold lineW; rw [List.length_map, List.length_range]
theorem dig_le {n d : Nat} (h : Sl n d) (k : Nat) : (k + 1) * n / d ≤ k * n / d + 1 := by
  have h1 := h.le; have h2 := h.pos
  have h4 : (k + 1) * n ≤ k * n + d := by rw [Nat.succ_mul]; omega
  calc (k + 1) * n / d ≤ (k * n + d) / d := Nat.div_le_div_right h4
    _ = k * n / d + 1 := Nat.add_div_right _ (by omega)
theorem dig_mono (n d k : Nat) : k * n / d ≤ (k + 1) * n / d := Nat.div_le_div_right (Nat.mul_le_mul_right _ (by omega))
theorem dig_bin {n d : Nat} (h : Sl n d) (k : Nat) : dig n d k = 48 ∨ dig n d k = 49 := by
  have h1 := dig_le h k
  have h2 := dig_mono n d k
  unfold dig
  omega
def Bin (w : Wd) : Prop := ∀ c ∈ w, c = 48 ∨ c = 49
theorem line_bin {n d : Nat} (h : Sl n d) (s l : Nat) : Bin (lineW n d s l) := fun c hc => by
  obtain ⟨i, _, e⟩ := List.mem_map.mp hc
  rw [← e]
  exact dig_bin h _
theorem strsD_map {α : Type} (f : α → Str) : ∀ l : List α, strsD (l.map fun x => .str (f x)) = some (l.map f)
  | [] => rfl
  | x :: l => by rw [List.map_cons, strsD, strsD_map f l]; rfl
theorem intsD_map {α : Type} (f : α → Int) : ∀ l : List α, intsD (l.map fun x => .int (f x)) = some (l.map f)
  | [] => rfl
  | x :: l => by rw [List.map_cons, intsD, intsD_map f l]; rfl
theorem boolsD_map {α : Type} (f : α → Bool) : ∀ l : List α, boolsD (l.map fun x => .bool (f x)) = some (l.map f)
  | [] => rfl
  | x :: l => by rw [List.map_cons, boolsD, boolsD_map f l]; rfl
/-- ''.join of words -/
theorem q_join {α : Type} (f : α → Wd) (l : List α) (h : (l.flatMap f).length ≤ 16777216) : qJoin (.str (S [])) [.list (l.map fun x => .str (S (f x)))] = some (.str (S (l.flatMap f))) := by
  have e : ((l.map fun x => S (f x)).map cps).flatten = l.flatMap f := by
    rw [List.map_map, List.flatMap_def]; rfl
  unfold qJoin
  simp only [cps_S, List.isEmpty_nil, if_true, strsD_map (fun x => S (f x)) l, e, ble24 h]
theorem flat_one {α : Type} (f : α → Nat) (l : List α) : (l.flatMap fun x => [f x]) = l.map f := by
  induction l with
  | nil => rfl
  | cons x l ih => rw [List.flatMap_cons, List.map_cons, ih]; rfl
theorem q_join1 {α : Type} (f : α → Nat) (l : List α) (h : l.length ≤ 16777216) : qJoin (.str (S [])) [.list (l.map fun x => .str (S [f x]))] = some (.str (S (l.map f))) := by
  have := q_join (fun x => [f x]) l (by rw [flat_one, List.length_map]; exact h)
  rw [flat_one] at this
  exact this
theorem p_line_ok {n d s l : Nat} (h : Sl n d) (hs : s ≤ 10000) (hl : l ≤ 2000) : p_line_word [slD n d, .int s, .int l] = some (.str (S (lineW n d s l))) := by
  have h1 := h.le; have h2 := h.pos; have h3 := h.top
  have ρ := [Cell.fr (slD n d), .fr (.int s), .fr (.int l), .fr (.int n), .fr (.int d), .un]
  refine bodyP_rt (T1 := T0) (seq_nx (drop_of (callP_of (ds := [slD n d]) (T1 := T0) rfl rfl (p_check_ok h))) (seq_nx (T1 := T0) (ρ1 := [.fr (slD n d), .fr (.int s), .fr (.int l), .un, .un, .un]) (if_f (T1 := T0) ?_ rfl)
    (seq_nx (ρ1 := [.fr (slD n d), .fr (.int s), .fr (.int l), .fr (.int n), .fr (.int d), .un]) (T1 := T0) (asg_of (d := slD n d) rfl (gtup_of rfl rfl)) (ret_of (meth_of (x := .str (S [])) (T1 := T0) rfl (a_one (lc_of (ds := rngD s ((s : Int) + l - s).toNat) (T1 := T0) (T2 := T0) (ys := (List.range l).map fun i => .str (S [dig n d (s + i)])) (r2_of rfl rfl (ok62_nat (by omega)) ?_) ?_ ?_)) (q_join1 (fun i => dig n d (s + i)) (List.range l) (by rw [List.length_range]; omega)))))))
  · refine (or_f (T1 := T0) (not_of (b := true) (bool_of (ch_of (x := .int 0) (T1 := T0) rfl (lc_t (y := .int s) (T1 := T0) rfl (q_le_t (by omega)) (lc_last (y := .int 10000) rfl (q_le_t (by omega)))))))).trans ?_
    exact not_of (b := true) (bool_of (ch_of (x := .int 0) (T1 := T0) rfl (lc_t (y := .int l) (T1 := T0) rfl (q_le_t (by omega)) (lc_last (y := .int 2000) rfl (q_le_t (by omega))))))
  · have : ((s : Int) + l) = ((s + l : Nat) : Int) := by omega
    rw [this]; exact ok62_nat (by omega)
  · rw [show ((s : Int) + l - s).toNat = l by omega, rngD_map]
    refine lcL_map fun i hi => ⟨[.fr (slD n d), .fr (.int s), .fr (.int l), .fr (.int n), .fr (.int d), .fr (.int ((s : Int) + (i : Nat)))], rfl, rfl, ?_⟩
    have hi := List.mem_range.mp hi
    have e1 : ((s : Int) + (i : Nat) + 1) * (n : Int) / (d : Int) = (((s + i + 1) * n / d : Nat) : Int) := by
      rw [Int.natCast_ediv, Int.natCast_mul]; congr 2
    have e2' : ((s : Int) + (i : Nat)) * (n : Int) / (d : Int) = (((s + i) * n / d : Nat) : Int) := by
      rw [Int.natCast_ediv, Int.natCast_mul]; congr 2
    have hn : ((n : Int)).natAbs < 18446744073709551616 := by rw [Int.natAbs_natCast]; omega
    refine call_of (ds := [.int ((((s + i + 1) * n / d : Nat) : Int) - (((s + i) * n / d : Nat) : Int))]) (T1 := T0) (a_one (e2_of (x := .int (((s + i + 1) * n / d : Nat) : Int)) (y := .int (((s + i) * n / d : Nat) : Int)) (T1 := T0) (e2_of (x := .int (((s : Int) + (i : Nat) + 1) * (n : Int))) (T1 := T0) (e2_of (x := .int ((s : Int) + (i : Nat) + 1)) (T1 := T0) (e2_of (T1 := T0) rfl rfl rfl) rfl (q_mul hn)) rfl ((q_div (by omega) (by omega)).trans (by rw [e1]))) (e2_of (x := .int (((s : Int) + (i : Nat)) * (n : Int))) (T1 := T0) (e2_of (T1 := T0) rfl rfl (q_mul hn)) rfl ((q_div (by omega) (by omega)).trans (by rw [e2']))) rfl)) ?_
    have a1 := dig_le h (s + i)
    have a2 := dig_mono n d (s + i)
    refine (q_str (by omega) (by omega)).trans ?_
    congr 4
    unfold dig
    omega
  · rw [rngD_len]; omega
theorem p_round_ok {n d : Nat} (h : Sl n d) : p_round_of_slope [slD n d] = some (.str (S (rndW n d))) := by
  have h3 := h.top
  exact bodyP_rt (T1 := T0) (ret_of (callP_of (ds := [slD n d, .int ((0 : Nat) : Int), .int (d : Int)]) (T1 := T0) rfl rfl (p_line_ok h (by omega) (by omega))))
end Dv

/-! M2: words: refusals, counts, balance, turned words. -/
namespace Dv
open PySem

/-! ### pieces of words -/
theorem cut_nn (w : Wd) {i j : Nat} (h : i ≤ j) (hj : j ≤ w.length) : cutD w (some (i : Int)) (some (j : Int)) = (w.drop i).take (j - i) := by
  unfold cutD
  rw [HT.sIx_nat, HT.sIx_nat, Nat.min_eq_left hj, Nat.min_eq_left (show i ≤ w.length by omega)]
theorem cut_to (w : Wd) (j : Nat) : cutD w none (some (j : Int)) = w.take j := by
  unfold cutD
  rw [HT.sIx_none, HT.sIx_nat, List.drop_zero, Nat.sub_zero]
  rcases Nat.le_total j w.length with h | h
  · rw [Nat.min_eq_left h]
  · rw [Nat.min_eq_right h, List.take_length, List.take_of_length_le h]
theorem cut_from (w : Wd) (i : Nat) : cutD w (some (i : Int)) none = w.drop i := by
  unfold cutD
  rw [HT.sIx_none, HT.sIx_nat]
  rcases Nat.le_total i w.length with h | h
  · rw [Nat.min_eq_left h, List.take_of_length_le (by rw [List.length_drop]; exact Nat.le_refl _)]
  · rw [Nat.min_eq_right h, Nat.sub_self, List.take_zero, List.drop_eq_nil_of_le h]
theorem sIx_neg {n d : Nat} {v : Int} (h : v < 0) : HT.sIx n d (some v) = (v + (n : Int)).toNat := by
  show (if v < 0 then (v + (n : Int)).toNat else min v.toNat n) = _
  rw [if_pos h]
theorem cut_mid (w : Wd) (h : 1 ≤ w.length) : cutD w (some 1) (some (-1)) = (w.drop 1).take (w.length - 2) := by
  unfold cutD
  have e1 : HT.sIx w.length 0 (some 1) = 1 := by
    have := HT.sIx_nat w.length 0 1
    rw [Nat.min_eq_left h] at this
    exact this
  have e2 : HT.sIx w.length w.length (some (-1)) = w.length - 1 := by
    rw [sIx_neg (by decide)]
    omega
  rw [e1, e2, show w.length - 1 - 1 = w.length - 2 by omega]
theorem cut_less (w : Wd) : cutD w none (some (-2)) = w.take (w.length - 2) := by
  unfold cutD
  have e2 : HT.sIx w.length w.length (some (-2)) = w.length - 2 := by
    rw [sIx_neg (by decide)]
    omega
  rw [e2, HT.sIx_none, List.drop_zero, Nat.sub_zero]
theorem q_cut {w : Wd} {lo hi : Option Int} (h : w.length ≤ 16777216) : qCut (.str (S w)) lo hi = some (.str (S (cutD w lo hi))) := by
  show (if w.length.ble line24 = true then some (PyData.str (S (cutD w lo hi))) else none) = _
  rw [if_pos (ble24 h)]
theorem q_rev {w : Wd} (h : w.length ≤ 16777216) : qRev (.str (S w)) = some (.str (S w.reverse)) := by
  show (if w.length.ble line24 = true then some (PyData.str (S w.reverse)) else none) = _
  rw [if_pos (ble24 h)]
theorem q_eqS (u v : Wd) : qEq (.str (S u)) (.str (S v)) = some (.bool (u == v)) := rfl
theorem q_neS (u v : Wd) : qNe (.str (S u)) (.str (S v)) = some (.bool (!(u == v))) := rfl
theorem q_neS_f (u : Wd) : qNe (.str (S u)) (.str (S u)) = some (.bool false) := by rw [q_neS, beq_self_eq_true]; rfl
def cnt (w : Wd) : Nat := w.countP (· == 49)
theorem q_count (w : Wd) : qCount (.str (S w)) [.str (S [49])] = some (.int (cnt w : Nat)) := rfl
def win (w : Wd) (k size : Nat) : Wd := (w.drop k).take size
theorem win_len {w : Wd} {k size : Nat} (h : k + size ≤ w.length) : (win w k size).length = size := by
  unfold win
  rw [List.length_take, List.length_drop]
  omega
theorem win_bin {w : Wd} (h : Bin w) (k size : Nat) : Bin (win w k size) := fun c hc => h c (List.mem_of_mem_drop (List.mem_of_mem_take hc))

/-! ### check_word -/
theorem p_checkw_ok {w : Wd} (hb : Bin w) (hl : w.length ≤ 40) : p_check_word [.str (S w)] = some .none := by
  refine bodyP_nx (ρ1 := [.fr (.str (S w)), .un]) (T1 := T0) (if_f (T1 := T0) ?_ rfl)
  refine (or_f (T1 := T0) (bool_of (e2_of (x := .int (w.length : Nat)) (T1 := T0) (call_of (a_one rfl) (q_len (by omega))) rfl (q_gt_f (by omega))))).trans ?_
  refine not_of (b := true) (tru_of (d := .bool true) (call_of (ds := [.list (w.map fun c => .bool true)]) (T1 := T0) (a_one (lc_of (ds := w.map fun c => .str (S [c])) (T1 := T0) (seq_i rfl rfl) (lcL_map fun c hc => ⟨[.fr (.str (S w)), .fr (.str (S [c]))], rfl, rfl, ?_⟩) (by rw [List.length_map]; omega))) ?_) rfl)
  · rcases hb c hc with rfl | rfl <;> rfl
  · unfold qAll q1
    simp only [boolsD_map (fun _ : Nat => true) w]
    congr 2
    rw [List.all_eq_true]
    intro x hx
    obtain ⟨_, _, e⟩ := List.mem_map.mp hx
    exact e.symm

/-! ### the dict of windows -/
def addW (acc : List Wd) (w : Wd) : List Wd := if acc.any (fun u => u == w) then acc else acc ++ [w]
def entW (w : Wd) : D × D := (.str (S w), .bool true)
theorem put_win (acc : List Wd) (w : Wd) : putD (acc.map entW) (.str (S w)) (.bool true) = (addW acc w).map entW := by
  have e1 : (acc.map entW).any (fun e => kEq e.1 (.str (S w))) = acc.any (fun u => u == w) := by
    rw [List.any_map]; rfl
  unfold putD addW
  rw [e1]
  split
  · rw [List.map_map]
    apply List.map_congr_left
    intro u _
    show (if (u == w) = true then (PyData.str (S u), PyData.bool true) else entW u) = entW u
    split <;> rfl
  · rw [List.map_append]; rfl
theorem dcL_win {α : Type} {g : FG} {ft : FT} {fk fv : FE} {ρ : Rho} {T : Tp} {src : α → D} {key : α → Wd} : ∀ {xs : List α} (acc : List Wd), (∀ x ∈ xs, ∃ ρ1, g (src x) ρ = some ρ1 ∧ ft ρ1 T = some (true, T) ∧ fk ρ1 T = some (.str (S (key x)), T) ∧ fv ρ1 T = some (.bool true, T)) →
    dcL g ft fk fv ρ (xs.map src) (acc.map entW) T = some ((((xs.map key).foldl addW acc).map entW), T)
  | [], _, _ => rfl
  | x :: xs, acc, hx => by
    obtain ⟨ρ1, h1, h2, h3, h4⟩ := hx x List.mem_cons_self
    have ih := dcL_win (xs := xs) (addW acc (key x)) fun y hy => hx y (List.mem_cons_of_mem _ hy)
    rw [List.map_cons, dcL]
    simp only [h1, h2, h3, h4, keyOf, put_win]
    exact ih
theorem addW_mem {acc : List Wd} {w u : Wd} (h : u ∈ addW acc w) : u ∈ acc ∨ u = w := by
  unfold addW at h
  split at h
  · exact .inl h
  · rcases List.mem_append.mp h with h | h
    · exact .inl h
    · exact .inr (List.mem_singleton.mp h)
theorem addW_len (acc : List Wd) (w : Wd) : (addW acc w).length ≤ acc.length + 1 := by
  unfold addW
  split
  · omega
  · rw [List.length_append]; exact Nat.le_refl _
theorem addW_ge (acc : List Wd) (w : Wd) : acc.length ≤ (addW acc w).length := by
  unfold addW
  split
  · omega
  · rw [List.length_append]; omega
theorem fold_mem : ∀ (xs acc : List Wd) {u : Wd}, u ∈ xs.foldl addW acc → u ∈ acc ∨ u ∈ xs
  | [], _, _, h => .inl h
  | x :: xs, acc, u, h => by
    rw [List.foldl_cons] at h
    rcases fold_mem xs _ h with h | h
    · rcases addW_mem h with h | h
      · exact .inl h
      · exact .inr (by rw [h]; exact List.mem_cons_self)
    · exact .inr (List.mem_cons_of_mem _ h)
theorem fold_len : ∀ (xs acc : List Wd), (xs.foldl addW acc).length ≤ acc.length + xs.length ∧ acc.length ≤ (xs.foldl addW acc).length
  | [], _ => ⟨Nat.le_refl _, Nat.le_refl _⟩
  | x :: xs, acc => by
    have h := fold_len xs (addW acc x)
    have h1 := addW_len acc x
    have h2 := addW_ge acc x
    rw [List.foldl_cons, List.length_cons]
    omega

/-! ### largest, smallest -/
theorem q_maxL {α : Type} (f : α → Int) {l : List α} (h : l ≠ []) : ∃ M, qMaxA [.list (l.map fun x => .int (f x))] = some (.int M) ∧ (∃ x ∈ l, f x = M) ∧ ∀ x ∈ l, f x ≤ M := by
  cases l with
  | nil => exact absurd rfl h
  | cons a r =>
    have sp := mxL_spec (r.map f) (f a)
    refine ⟨mxL (f a) (r.map f), ?_, ?_, fun x hx => ?_⟩
    · show (match intsD ((a :: r).map fun x => .int (f x)) with | some (m :: r) => some (PyData.int (mxL m r)) | _ => none).or _ = _
      rw [intsD_map f (a :: r)]
      rfl
    · rcases sp.1 with e | e
      · exact ⟨a, List.mem_cons_self, e.symm⟩
      · obtain ⟨x, hx, e⟩ := List.mem_map.mp e
        exact ⟨x, List.mem_cons_of_mem _ hx, e⟩
    · rcases List.mem_cons.mp hx with rfl | hx
      · exact sp.2.1
      · exact sp.2.2 _ (List.mem_map.mpr ⟨x, hx, rfl⟩)
theorem q_minL {α : Type} (f : α → Int) {l : List α} (h : l ≠ []) : ∃ M, qMinA [.list (l.map fun x => .int (f x))] = some (.int M) ∧ (∃ x ∈ l, f x = M) ∧ ∀ x ∈ l, M ≤ f x := by
  cases l with
  | nil => exact absurd rfl h
  | cons a r =>
    have sp := mnL_spec (r.map f) (f a)
    refine ⟨mnL (f a) (r.map f), ?_, ?_, fun x hx => ?_⟩
    · show (match intsD ((a :: r).map fun x => .int (f x)) with | some (m :: r) => some (PyData.int (mnL m r)) | _ => none).or _ = _
      rw [intsD_map f (a :: r)]
      rfl
    · rcases sp.1 with e | e
      · exact ⟨a, List.mem_cons_self, e.symm⟩
      · obtain ⟨x, hx, e⟩ := List.mem_map.mp e
        exact ⟨x, List.mem_cons_of_mem _ hx, e⟩
    · rcases List.mem_cons.mp hx with rfl | hx
      · exact sp.2.1
      · exact sp.2.2 _ (List.mem_map.mpr ⟨x, hx, rfl⟩)
theorem for_all {α : Type} {g : FG} {f : FS} {T : Tp} {P : Rho → Prop} {src : α → D} : ∀ {xs : List α} {ρ : Rho}, P ρ → (∀ x ∈ xs, ∀ ρ, P ρ → ∃ ρ1 ρ2, g (src x) ρ = some ρ1 ∧ f ρ1 T = some (.nx ρ2, T) ∧ P ρ2) → ∃ ρ2, P ρ2 ∧ forL g f (xs.map src) ρ T = some (.nx ρ2, T)
  | [], ρ, h, _ => ⟨ρ, h, rfl⟩
  | x :: xs, ρ, h, hs => by
    obtain ⟨ρ1, ρ2, h1, h2, h3⟩ := hs x List.mem_cons_self ρ h
    obtain ⟨ρ3, h4, h5⟩ := for_all (xs := xs) h3 fun y hy => hs y (List.mem_cons_of_mem _ hy)
    exact ⟨ρ3, h4, for_cons h1 h2 h5⟩

/-! ### balance -/
def Bal (w : Wd) : Prop := ∀ size k l, k + size ≤ w.length → l + size ≤ w.length → cnt (win w k size) ≤ cnt (win w l size) + 1
theorem rng1 (n : Nat) : rngD 1 n = (List.range n).map fun i => .int ((i + 1 : Nat) : Int) := by
  rw [rngD_map]
  apply List.map_congr_left
  intro i _
  congr 1; omega
theorem p_heavy_ok {w : Wd} (hb : Bin w) (hl : w.length ≤ 40) (hB : Bal w) : p_heavy_pair [.str (S w)] = some .none := by
  have lenE : ∀ {ρ : Rho}, ρ[0]? = some (.fr (.str (S w))) → eCall qLen (aCons (eOwn 0) aNil) ρ T0 = some (.int (w.length : Nat), T0) := fun h => call_of (a_one (by unfold eOwn; rw [h])) (q_len (by omega))
  have loop := for_all (g := gSet 1) (T := T0) (P := fun ρ => ∃ a b c, ρ = [.fr (.str (S w)), a, b, c]) (src := fun i : Nat => .int ((i + 1 : Nat) : Int)) (xs := List.range (w.length - 1)) (ρ := [.fr (.str (S w)), .un, .un, .un])
    (f := sSeq (sNew 2 (eLc (iR1 (e2 qAdd (e2 qSub (eCall qLen (aCons (eOwn 0) aNil)) (eOwn 1)) (eC (.int 1)))) (gSet 3) tTrue (eMeth qCount (eCut (eOwn 0) (oSome (eVar 3)) (oSome (e2 qAdd (eOwn 3) (eOwn 1)))) (aCons (eC (.str "1")) aNil)) [3]))
      (sIf (tBool (e2 qGt (e2 qSub (eCall qMaxA (aCons (eOwn 2) aNil)) (eCall qMinA (aCons (eOwn 2) aNil))) (eC (.int 1)))) sNever sSkip)) ⟨_, _, _, rfl⟩ (fun i hi ρ ⟨a, b, c, e⟩ => ?_)
  · obtain ⟨ρ2, ⟨a, b, c, e⟩, hf⟩ := loop
    refine bodyP_rt (T1 := T0) (seq_nx (drop_of (callP_of (ds := [.str (S w)]) (T1 := T0) rfl rfl (p_checkw_ok hb hl))) (seq_nx (ρ1 := ρ2) (T1 := T0) (for_of (r2_of rfl (lenE rfl) (by decide) (ok62_nat (by omega))) ?_) (ret_of rfl)))
    · rw [show ((w.length : Int) - 1).toNat = w.length - 1 by omega, rng1]
      exact hf
  · have hi := List.mem_range.mp hi
    subst e
    have hsz : (i + 1) ≤ w.length := by omega
    let told : List D := (List.range (w.length - (i + 1) + 1)).map fun k => .int ((cnt (win w k (i + 1)) : Nat) : Int)
    refine ⟨[.fr (.str (S w)), .fr (.int ((i + 1 : Nat) : Int)), b, c], [.fr (.str (S w)), .fr (.int ((i + 1 : Nat) : Int)), .ow (.list told), c], rfl, ?_, ⟨_, _, _, rfl⟩⟩
    refine seq_nx (ρ1 := [.fr (.str (S w)), .fr (.int ((i + 1 : Nat) : Int)), .ow (.list told), c]) (T1 := T0) (new_of (d := .list told) (lc_of (T1 := T0) (r1_of (k := ((w.length - (i + 1) + 1 : Nat) : Int)) (T1 := T0) (e2_of (T1 := T0) (x := .int (((w.length : Nat) : Int) - ((i + 1 : Nat) : Int))) (e2_of (T1 := T0) (lenE rfl) rfl rfl) rfl ?_) (ok62_nat (by omega))) ?_ (by rw [rngD_len]; omega))) (if_f (T1 := T0) ?_ rfl)
    · show some (PyData.int _) = _
      congr 2
      omega
    · rw [Int.toNat_natCast, rngD0]
      refine lcL_map fun k hk => ⟨[.fr (.str (S w)), .fr (.int ((i + 1 : Nat) : Int)), b, .fr (.int (k : Int))], rfl, rfl, ?_⟩
      have hk := List.mem_range.mp hk
      refine meth_of (x := .str (S (win w k (i + 1)))) (T1 := T0) (cut_of (lo := some (k : Int)) (hi := some ((k + (i + 1) : Nat) : Int)) (T1 := T0) (T2 := T0) rfl (o_of rfl) (o_of (e2_of (T1 := T0) rfl rfl ?_)) ((q_cut (by omega)).trans ?_)) (a_one rfl) (q_count _)
      · show some (PyData.int _) = _
        congr 2
      · rw [cut_nn w (by omega) (by omega), show k + (i + 1) - k = i + 1 by omega]; rfl
    · have hne : List.range (w.length - (i + 1) + 1) ≠ [] := by rw [List.range_succ_eq_map]; exact List.cons_ne_nil _ _
      obtain ⟨M, m1, ⟨x, hx, e1⟩, _⟩ := q_maxL (fun k => ((cnt (win w k (i + 1)) : Nat) : Int)) hne
      obtain ⟨m, m2, ⟨y, hy, e2⟩, _⟩ := q_minL (fun k => ((cnt (win w k (i + 1)) : Nat) : Int)) hne
      have hx := List.mem_range.mp hx
      have hy := List.mem_range.mp hy
      have hbal := hB (i + 1) x y (by omega) (by omega)
      refine bool_of (e2_of (x := .int (M - m)) (T1 := T0) (e2_of (x := .int M) (y := .int m) (T1 := T0) (call_of (a_one rfl) m1) (call_of (a_one rfl) m2) rfl) rfl (q_gt_f (by omega)))
theorem p_bal_ok {w : Wd} (hb : Bin w) (hl : w.length ≤ 40) (hB : Bal w) : p_is_balanced [.str (S w)] = some (.bool true) :=
  bodyP_rt (T1 := T0) (ret_of (e2_of (x := .none) (y := .none) (T1 := T0) (callP_of (ds := [.str (S w)]) (T1 := T0) rfl rfl (p_heavy_ok hb hl hB)) rfl rfl))
end Dv

/-! M3: rough words, slopes of words, words exchanged, raised, lowered, their parts. -/
namespace Dv
open PySem
theorem cnt_app (u v : Wd) : cnt (u ++ v) = cnt u + cnt v := by unfold cnt; rw [List.countP_append]
theorem cnt_cons (c : Nat) (v : Wd) : cnt (c :: v) = cnt v + if c == 49 then 1 else 0 := by unfold cnt; rw [List.countP_cons]
theorem sub_win {y x : Wd} (h : subIn y x = true) : ∃ i, i + y.length ≤ x.length ∧ win x i y.length = y := by
  obtain ⟨i, hi, e⟩ := (subIn_iff y x).mp h
  refine ⟨i, ?_, e⟩
  have := congrArg List.length e
  rw [List.length_take, List.length_drop] at this
  omega
theorem rough_no {w u : Wd} (hB : Bal w) (h0 : subIn ([48] ++ u ++ [48]) w = true) : subIn ([49] ++ u ++ [49]) w = false := by
  cases h1 : subIn ([49] ++ u ++ [49]) w with
  | false => rfl
  | true =>
    obtain ⟨i, hi, ei⟩ := sub_win h0
    obtain ⟨j, hj, ej⟩ := sub_win h1
    have l0 : ([48] ++ u ++ [48]).length = u.length + 2 := by simp
    have l1 : ([49] ++ u ++ [49]).length = u.length + 2 := by simp
    rw [l0] at hi ei
    rw [l1] at hj ej
    have h := hB (u.length + 2) j i hj hi
    rw [ei, ej, cnt_app, cnt_app, cnt_app, cnt_app] at h
    have a1 : cnt [48] = 0 := rfl
    have a2 : cnt [49] = 1 := rfl
    omega
def windows (w : Wd) (size : Nat) : List Wd := (List.range (w.length - size + 1)).map fun k => win w k size
theorem dict_win {w : Wd} {size : Nat} {ρ : Rho} {j : Nat} (hl : w.length ≤ 16777000) (hs : size ≤ w.length) (h0 : ρ[0]? = some (.fr (.str (S w)))) (h1 : ρ[1]? = some (.fr (.int (size : Nat)))) (hj : 2 ≤ j) (hj2 : j < ρ.length) :
    eDc (iR1 (e2 qAdd (e2 qSub (eCall qLen (aCons (eOwn 0) aNil)) (eOwn 1)) (eC (.int 1)))) (gSet j) tTrue (eCut (eOwn 0) (oSome (eVar j)) (oSome (e2 qAdd (eOwn j) (eOwn 1)))) (eC (.bool true)) [j] ρ T0 = some (.dict (((windows w size).foldl addW []).map entW), T0) := by
  have o0 : eOwn 0 ρ T0 = some (.str (S w), T0) := by unfold eOwn; rw [h0]
  have o1 : eOwn 1 ρ T0 = some (.int (size : Nat), T0) := by unfold eOwn; rw [h1]
  refine dc_of (ds := rngD 0 (w.length - size + 1)) (T1 := T0) (r1_of (k := ((w.length - size + 1 : Nat) : Int)) (T1 := T0) (e2_of (x := .int (((w.length : Nat) : Int) - ((size : Nat) : Int))) (T1 := T0) (e2_of (T1 := T0) (call_of (a_one o0) (q_len (by omega))) o1 rfl) rfl ?_) (ok62_nat (by omega))) ?_ (ble24 (by rw [rngD_len]; omega))
  · show some (PyData.int _) = _
    congr 2
    omega
  · rw [rngD0]
    refine dcL_win (g := gSet j) [] fun k hk => ⟨((wipeR ρ [j]).set j (.fr (.int (k : Int)))), rfl, rfl, ?_, rfl⟩
    have hk := List.mem_range.mp hk
    have ew : ((wipeR ρ [j]).set j (.fr (.int (k : Int)))) = ρ.set j (.fr (.int (k : Int))) := by
      show ((ρ.set j .un).set j _) = _
      rw [List.set_set]
    rw [ew]
    have g0 : (ρ.set j (.fr (.int (k : Int))))[0]? = some (.fr (.str (S w))) := by rw [List.getElem?_set_ne (by omega)]; exact h0
    have g1 : (ρ.set j (.fr (.int (k : Int))))[1]? = some (.fr (.int (size : Nat))) := by rw [List.getElem?_set_ne (by omega)]; exact h1
    have gj : (ρ.set j (.fr (.int (k : Int))))[j]? = some (.fr (.int (k : Int))) := List.getElem?_set_self hj2
    have p0 : eOwn 0 (ρ.set j (.fr (.int (k : Int)))) T0 = some (.str (S w), T0) := by unfold eOwn; rw [g0]
    have p1 : eOwn 1 (ρ.set j (.fr (.int (k : Int)))) T0 = some (.int (size : Nat), T0) := by unfold eOwn; rw [g1]
    have pj : eOwn j (ρ.set j (.fr (.int (k : Int)))) T0 = some (.int (k : Int), T0) := by unfold eOwn; rw [gj]
    have vj : eVar j (ρ.set j (.fr (.int (k : Int)))) T0 = some (.int (k : Int), T0) := by unfold eVar; rw [gj]
    refine cut_of (lo := some (k : Int)) (hi := some ((k + size : Nat) : Int)) (T1 := T0) (T2 := T0) p0 (o_of vj) (o_of (e2_of (T1 := T0) pj p1 ?_)) ((q_cut (by omega)).trans ?_)
    · show some (PyData.int _) = _
      congr 2
    · rw [cut_nn w (by omega) (by omega), show k + size - k = size by omega]; rfl
theorem fold_ne {w : Wd} {size : Nat} : (windows w size).foldl addW [] ≠ [] := by
  unfold windows
  rw [List.range_succ_eq_map, List.map_cons, List.foldl_cons]
  intro e
  have h := (fold_len ((List.map Nat.succ (List.range (w.length - size))).map fun k => win w k size) (addW [] (win w 0 size))).2
  rw [e] at h
  have : (addW [] (win w 0 size)).length = 1 := rfl
  rw [this] at h
  exact absurd h (by decide)
theorem q_sortW {us : List Wd} (hne : us ≠ []) (hl : us.length < 64) : qSortedF [.dict (us.map entW)] = some (.list ((sortS (us.map S)).map .str)) := by
  have e1 : (us.map entW).isEmpty = false := by cases us with | nil => exact absurd rfl hne | cons _ _ => rfl
  have e2 : (us.map entW).length.blt 64 = true := Nat.blt_eq.mpr (by rw [List.length_map]; exact hl)
  have e3 : strsD ((us.map entW).map (·.1)) = some (us.map S) := by rw [List.map_map]; exact strsD_map S us
  unfold qSortedF q1 qSorted1
  simp only [e1, e2, e3, if_true, Bool.false_eq_true, if_false]
theorem p_rough_ok {w : Wd} (hb : Bin w) (hl : w.length ≤ 40) (hB : Bal w) : p_rough_word [.str (S w)] = some .none := by
  have inner : ∀ (size : Nat) (a b c : Cell), size ≤ w.length → ∃ c' d', sSeq (sNew 2 (eCall qSortedF (aCons (eDc (iR1 (e2 qAdd (e2 qSub (eCall qLen (aCons (eOwn 0) aNil)) (eOwn 1)) (eC (.int 1)))) (gSet 3) tTrue (eCut (eOwn 0) (oSome (eVar 3)) (oSome (e2 qAdd (eOwn 3) (eOwn 1)))) (eC (.bool true)) [3]) aNil)))
      (sFz 2 (sFor (iSeq (eVar 2)) (gSet 4) (sIf (tAndF (tBool (e2 qIn (e2 qAdd (e2 qAdd (eC (.str "0")) (eOwn 4)) (eC (.str "0"))) (eOwn 0))) (tBool (e2 qIn (e2 qAdd (e2 qAdd (eC (.str "1")) (eOwn 4)) (eC (.str "1"))) (eOwn 0)))) (sRet (eVar 4)) sSkip)))
      [.fr (.str (S w)), .fr (.int (size : Nat)), a, b, c] T0 = some (.nx [.fr (.str (S w)), .fr (.int (size : Nat)), .fr c', b, d'], T0) := fun size a b c hs => by
    let us := (windows w size).foldl addW []
    have hus : ∀ u ∈ us, ∃ k, u = win w k size := fun u hu => by
      rcases fold_mem _ _ hu with h | h
      · cases h
      · obtain ⟨k, _, e⟩ := List.mem_map.mp h
        exact ⟨k, e.symm⟩
    have hul : us.length < 64 := by
      have := (fold_len (windows w size) []).1
      have e : (windows w size).length = w.length - size + 1 := by unfold windows; rw [List.length_map, List.length_range]
      rw [e] at this
      have : us.length ≤ 0 + (w.length - size + 1) := this
      omega
    let parts : D := .list ((sortS (us.map S)).map .str)
    have loop := for_all (g := gSet 4) (T := T0) (P := fun ρ => ∃ d', ρ = [.fr (.str (S w)), .fr (.int (size : Nat)), .fr parts, b, d']) (src := fun s : Str => PyData.str s) (xs := sortS (us.map S)) (ρ := [.fr (.str (S w)), .fr (.int (size : Nat)), .fr parts, b, c])
      (f := sIf (tAndF (tBool (e2 qIn (e2 qAdd (e2 qAdd (eC (.str "0")) (eOwn 4)) (eC (.str "0"))) (eOwn 0))) (tBool (e2 qIn (e2 qAdd (e2 qAdd (eC (.str "1")) (eOwn 4)) (eC (.str "1"))) (eOwn 0)))) (sRet (eVar 4)) sSkip) ⟨_, rfl⟩ (fun s hs2 ρ ⟨d', e⟩ => ?_)
    · obtain ⟨ρ2, ⟨d', e⟩, hf⟩ := loop
      subst e
      refine ⟨parts, d', seq_nx (ρ1 := [.fr (.str (S w)), .fr (.int (size : Nat)), .ow parts, b, c]) (T1 := T0) (new_of (d := parts) (call_of (a_one (dict_win (by omega) hs rfl rfl (by omega) (by show 3 < 5; omega))) (q_sortW fold_ne hul))) ?_⟩
      exact for_of (ds := (sortS (us.map S)).map .str) (T1 := T0) (seq_i (d := parts) rfl rfl) hf
    · subst e
      obtain ⟨u, hu, rfl⟩ := List.mem_map.mp ((sortB_perm (lt := ltS) (us.map S)).mem_iff.mp hs2)
      obtain ⟨k, hk⟩ := hus u hu
      have hlen : u.length ≤ 40 := by rw [hk]; unfold win; rw [List.length_take, List.length_drop]; omega
      refine ⟨[.fr (.str (S w)), .fr (.int (size : Nat)), .fr parts, b, .fr (.str (S u))], [.fr (.str (S w)), .fr (.int (size : Nat)), .fr parts, b, .fr (.str (S u))], rfl, if_f (T1 := T0) ?_ rfl, ⟨_, rfl⟩⟩
      have part : ∀ c : Nat, ∀ x : Str, x = S [c] → tBool (e2 qIn (e2 qAdd (e2 qAdd (eC (.str x)) (eOwn 4)) (eC (.str x))) (eOwn 0)) [.fr (.str (S w)), .fr (.int (size : Nat)), .fr parts, b, .fr (.str (S u))] T0 = some (subIn ([c] ++ u ++ [c]) w, T0) := fun c x ex => by
        subst ex
        exact bool_of (e2_of (x := .str (S ([c] ++ u ++ [c]))) (y := .str (S w)) (T1 := T0) (e2_of (x := .str (S ([c] ++ u))) (T1 := T0) (e2_of (T1 := T0) rfl rfl (q_cat (by simp; omega))) rfl (q_cat (by simp; omega))) rfl rfl)
      cases h0 : subIn ([48] ++ u ++ [48]) w with
      | false => exact and_f ((part 48 "0" rfl).trans (by rw [h0]))
      | true => exact (and_t ((part 48 "0" rfl).trans (by rw [h0]))).trans ((part 49 "1" rfl).trans (by rw [rough_no hB h0]))
  have outer := for_all (g := gSet 1) (T := T0) (P := fun ρ => ∃ a b c d, ρ = [.fr (.str (S w)), a, b, c, d]) (src := fun i : Nat => PyData.int ((i : Nat) : Int)) (xs := List.range (w.length - 1)) (ρ := [.fr (.str (S w)), .un, .un, .un, .un])
    (f := sSeq (sNew 2 (eCall qSortedF (aCons (eDc (iR1 (e2 qAdd (e2 qSub (eCall qLen (aCons (eOwn 0) aNil)) (eOwn 1)) (eC (.int 1)))) (gSet 3) tTrue (eCut (eOwn 0) (oSome (eVar 3)) (oSome (e2 qAdd (eOwn 3) (eOwn 1)))) (eC (.bool true)) [3]) aNil)))
      (sFz 2 (sFor (iSeq (eVar 2)) (gSet 4) (sIf (tAndF (tBool (e2 qIn (e2 qAdd (e2 qAdd (eC (.str "0")) (eOwn 4)) (eC (.str "0"))) (eOwn 0))) (tBool (e2 qIn (e2 qAdd (e2 qAdd (eC (.str "1")) (eOwn 4)) (eC (.str "1"))) (eOwn 0)))) (sRet (eVar 4)) sSkip)))) ⟨_, _, _, _, rfl⟩ (fun i hi ρ ⟨a, b, c, d, e⟩ => by
      subst e
      have hi := List.mem_range.mp hi
      obtain ⟨c', d', h⟩ := inner i b c d (by omega)
      exact ⟨[.fr (.str (S w)), .fr (.int (i : Nat)), b, c, d], _, rfl, h, ⟨_, _, _, _, rfl⟩⟩)
  obtain ⟨ρ2, _, hf⟩ := outer
  refine bodyP_rt (T1 := T0) (seq_nx (drop_of (callP_of (ds := [.str (S w)]) (T1 := T0) rfl rfl (p_checkw_ok hb hl))) (seq_nx (ρ1 := ρ2) (T1 := T0) (for_of (ds := (List.range (w.length - 1)).map fun i : Nat => PyData.int ((i : Nat) : Int)) (T1 := T0) ?_ hf) (ret_of rfl)))
  refine (r1_of (k := ((w.length - 1 : Nat) : Int)) (T1 := T0) (call_of (ds := [.int 0, .int (((w.length : Nat) : Int) - 1)]) (T1 := T0) (a_cons (T1 := T0) rfl (a_one (e2_of (x := .int (w.length : Nat)) (T1 := T0) (call_of (a_one rfl) (q_len (by omega))) rfl rfl))) ?_) (ok62_nat (by omega))).trans (by rw [Int.toNat_natCast, rngD0])
  show some (PyData.int (if ((w.length : Nat) : Int) - 1 > 0 then ((w.length : Nat) : Int) - 1 else 0)) = _
  congr 2
  split <;> omega

/-! ### the slope of a word -/
theorem p_slope_ok {w : Wd} (hb : Bin w) (h1 : 1 ≤ w.length) (hl : w.length ≤ 40) (hco : Nat.gcd (cnt w) w.length = 1) (hin : subIn w (rndW (cnt w) w.length ++ rndW (cnt w) w.length) = true) : p_slope_of [.str (S w)] = some (slD (cnt w) w.length) := by
  have hc : cnt w ≤ w.length := List.countP_le_length
  have sl : Sl (cnt w) w.length := ⟨hc, h1, by omega, hco⟩
  have lenE : ∀ {ρ : Rho}, ρ[0]? = some (.fr (.str (S w))) → eCall qLen (aCons (eOwn 0) aNil) ρ T0 = some (.int (w.length : Nat), T0) := fun h => call_of (a_one (by unfold eOwn; rw [h])) (q_len (by omega))
  have tupE : ∀ c, eTup (aCons (eVar 1) (aCons (eCall qLen (aCons (eOwn 0) aNil)) aNil)) [.fr (.str (S w)), .fr (.int (cnt w : Nat)), c] T0 = some (slD (cnt w) w.length, T0) := fun c => tup_of (a_cons (T1 := T0) rfl (a_one (lenE rfl))) rfl
  refine bodyP_rt (T1 := T0) (seq_nx (ρ1 := [.fr (.str (S w)), .un, .un]) (T1 := T0) (if_f (T1 := T0) (not_of (b := true) (bool_of (ch_of (x := .int 1) (T1 := T0) rfl (lc_t (y := .int (w.length : Nat)) (T1 := T0) (lenE rfl) (q_le_t (by omega)) (lc_last (y := .int 40) rfl (q_le_t (by omega))))))) rfl)
    (seq_nx (ρ1 := [.fr (.str (S w)), .un, .un]) (T1 := T0) (drop_of (callP_of (ds := [.str (S w)]) (T1 := T0) rfl rfl (p_checkw_ok hb hl)))
    (seq_nx (ρ1 := [.fr (.str (S w)), .fr (.int (cnt w : Nat)), .un]) (T1 := T0) (set_of (d := .int (cnt w : Nat)) (meth_of (x := .str (S w)) (T1 := T0) rfl (a_one rfl) (q_count w)))
    (seq_nx (ρ1 := [.fr (.str (S w)), .fr (.int (cnt w : Nat)), .un]) (T1 := T0) (if_f (T1 := T0) (bool_of (e2_of (x := .int ((Nat.gcd (cnt w) w.length : Nat) : Int)) (y := .int 1) (T1 := T0) (callP_of (ds := [.int (cnt w : Nat), .int (w.length : Nat)]) (T1 := T0) (a_cons (T1 := T0) rfl (a_one (lenE rfl))) rfl (p_common_ok _ _ (by omega) (by omega))) rfl (q_ne_f (by rw [hco]; rfl)))) rfl)
    (seq_nx (ρ1 := [.fr (.str (S w)), .fr (.int (cnt w : Nat)), .fr (.str (S (rndW (cnt w) w.length)))]) (T1 := T0) (set_of (d := .str (S (rndW (cnt w) w.length))) (callP_of (ds := [slD (cnt w) w.length]) (T1 := T0) (a_one (tupE .un)) rfl (p_round_ok sl)))
    (ret_of ((eif_t (T1 := T0) (bool_of (e2_of (x := .str (S w)) (y := .str (S (rndW (cnt w) w.length ++ rndW (cnt w) w.length))) (T1 := T0) rfl (e2_of (T1 := T0) rfl rfl (q_cat (by unfold rndW; rw [lineW_len]; omega))) ?_))).trans (tupE _))))))))
  show some (PyData.bool (subIn w (rndW (cnt w) w.length ++ rndW (cnt w) w.length))) = _
  rw [hin]

/-! ### exchanged, mirrored, middle -/
def otherW (w : Wd) : Wd := w.map fun c => 97 - c
theorem p_other_ok {w : Wd} (hb : Bin w) (hl : w.length ≤ 16777216) : p_law_other [.str (S w)] = some (.str (S (otherW w))) := by
  refine bodyP_rt (T1 := T0) (ret_of (meth_of (x := .str (S [])) (T1 := T0) rfl (a_one (lc_of (ds := w.map fun c => .str (S [c])) (T1 := T0) (ys := w.map fun c => .str (S [97 - c])) (T2 := T0) (seq_i rfl rfl) (lcL_map fun c hc => ⟨[.fr (.str (S w)), .fr (.str (S [c]))], rfl, rfl, ?_⟩) (by rw [List.length_map]; exact hl))) (q_join1 (fun c => 97 - c) w hl)))
  rcases hb c hc with rfl | rfl <;> rfl
theorem other_bin {w : Wd} (hb : Bin w) : Bin (otherW w) := fun c hc => by
  obtain ⟨x, hx, e⟩ := List.mem_map.mp hc
  have := hb x hx
  omega
theorem p_mirror_ok {w : Wd} (hl : w.length ≤ 16777216) : p_is_mirror [.str (S w)] = some (.bool (w == w.reverse)) :=
  bodyP_rt (T1 := T0) (ret_of (e2_of (x := .str (S w)) (y := .str (S w.reverse)) (T1 := T0) rfl (eF_of (x := .str (S w)) rfl (q_rev hl)) rfl))
def midW (n d : Nat) : Wd := ((rndW n d).drop 1).take (d - 2)
theorem p_middle_ok {n d : Nat} (h : Sl n d) (h1 : 1 ≤ n) (h2 : 2 ≤ d) : p_middle_of [slD n d] = some (.str (S (midW n d))) := by
  have h3 := h.top
  have hlen : (rndW n d).length = d := lineW_len n d 0 d
  have a0 : ∀ (T : Tp), e2 qIx (eOwn 0) (eC (.int 0)) [.fr (slD n d)] T = some (.int n, T) := fun _ => rfl
  have a1 : ∀ (T : Tp), e2 qIx (eOwn 0) (eC (.int 1)) [.fr (slD n d)] T = some (.int d, T) := fun _ => rfl
  refine bodyP_rt (T1 := T0) (seq_nx (ρ1 := [.fr (slD n d)]) (T1 := T0) (drop_of (callP_of (ds := [slD n d]) (T1 := T0) rfl rfl (p_check_ok h)))
    (seq_nx (ρ1 := [.fr (slD n d)]) (T1 := T0) (if_f (T1 := T0) ((or_f (T1 := T0) (bool_of (e2_of (T1 := T0) (a0 T0) rfl (q_eq_f (by omega))))).trans (bool_of (e2_of (T1 := T0) (a1 T0) rfl (q_lt_f (by omega))))) rfl)
    (ret_of (cut_of (x := .str (S (rndW n d))) (lo := some 1) (hi := some (-1)) (T1 := T0) (T2 := T0) (T3 := T0) (callP_of (ds := [slD n d]) (T1 := T0) rfl rfl (p_round_ok h)) (o_of rfl) (o_of rfl) ((q_cut (by rw [hlen]; omega)).trans ?_)))))
  rw [cut_mid _ (by rw [hlen]; omega), hlen]; rfl

/-! ### raised, lowered -/
def raisedW (w : Wd) : Wd := w.flatMap fun c => if c == 49 then [48, 49] else [48]
theorem raised_len : ∀ w : Wd, (raisedW w).length ≤ 2 * w.length
  | [] => Nat.le_refl _
  | c :: w => by
    have ih := raised_len w
    have e : (if c == 49 then [48, 49] else [48] : Wd).length ≤ 2 := by split <;> decide
    unfold raisedW at *
    rw [List.flatMap_cons, List.length_append, List.length_cons]
    omega
theorem p_raised_ok {w : Wd} (hb : Bin w) (hl : w.length ≤ 40) : p_raised [.str (S w)] = some (.str (S (raisedW w))) := by
  have hr := raised_len w
  refine bodyP_rt (T1 := T0) (seq_nx (ρ1 := [.fr (.str (S w)), .un]) (T1 := T0) (drop_of (callP_of (ds := [.str (S w)]) (T1 := T0) rfl rfl (p_checkw_ok hb hl)))
    (ret_of (meth_of (x := .str (S [])) (T1 := T0) rfl (a_one (lc_of (ds := w.map fun c => .str (S [c])) (T1 := T0) (ys := w.map fun c => .str (S (if c == 49 then [48, 49] else [48]))) (T2 := T0) (seq_i rfl rfl) (lcL_map fun c hc => ⟨[.fr (.str (S w)), .fr (.str (S [c]))], rfl, rfl, ?_⟩) (by rw [List.length_map]; omega))) (q_join (fun c => if c == 49 then [48, 49] else [48]) w (by show (raisedW w).length ≤ _; omega)))))
  rcases hb c hc with rfl | rfl <;> rfl
def rplW (w : Wd) : Wd := StrLaws.replL [48, 49] [50] w
def lowW (w : Wd) : Wd := (rplW w).map fun c => if c == 50 then 49 else 48
theorem sub_one {c : Nat} : ∀ {x : Wd}, subIn [c] x = x.any (· == c)
  | [] => rfl
  | d :: r => by
    rw [List.any_cons]
    show ([c].isPrefixOf (d :: r) || subIn [c] r) = _
    rw [sub_one]
    congr 1
    show (c == d && true) = (d == c)
    rw [Bool.and_true]
    cases e : d == c with
    | true => rw [beq_iff_eq.mp e]; simp
    | false => exact beq_eq_false_iff_ne.mpr fun z => beq_eq_false_iff_ne.mp e z.symm
theorem p_lowered_ok {w : Wd} (hb : Bin w) (hl : w.length ≤ 40) (h : (rplW w).any (· == 49) = false) (h2 : (rplW w).length ≤ 1000) : p_lowered [.str (S w)] = some (.str (S (lowW w))) := by
  refine bodyP_rt (T1 := T0) (seq_nx (ρ1 := [.fr (.str (S w)), .un, .un]) (T1 := T0) (drop_of (callP_of (ds := [.str (S w)]) (T1 := T0) rfl rfl (p_checkw_ok hb hl)))
    (seq_nx (ρ1 := [.fr (.str (S w)), .fr (.str (S (rplW w))), .un]) (T1 := T0) (set_of (d := .str (S (rplW w))) ?_)
    (seq_nx (ρ1 := [.fr (.str (S w)), .fr (.str (S (rplW w))), .un]) (T1 := T0) (if_f (T1 := T0) (bool_of (e2_of (x := .str (S [49])) (y := .str (S (rplW w))) (T1 := T0) rfl rfl ?_)) rfl)
    (seq_rt (ret_of (meth_of (x := .str (S [])) (T1 := T0) rfl (a_one (lc_of (ds := (rplW w).map fun c => .str (S [c])) (T1 := T0) (ys := (rplW w).map fun c => .str (S [if c == 50 then 49 else 48])) (T2 := T0) (seq_i rfl rfl) (lcL_map fun c hc => ⟨[.fr (.str (S w)), .fr (.str (S (rplW w))), .fr (.str (S [c]))], rfl, rfl, ?_⟩) (by rw [List.length_map]; omega))) (q_join1 (fun c => if c == 50 then 49 else 48) (rplW w) (by omega))))))))
  · show (if (w.length + (w.length + 1) * 1).ble 16777216 = true then some (PyData.str (S (StrLaws.replL (cps "01") (cps "2") w)), T0) else none) = _
    rw [if_pos (Nat.ble_eq_true_of_le (by omega))]
    rfl
  · show some (PyData.bool (subIn [49] (rplW w))) = _
    rw [sub_one, h]
  · have e : e2 qEq (eOwn 2) (eC (.str "2")) [.fr (.str (S w)), .fr (.str (S (rplW w))), .fr (.str (S [c]))] T0 = some (.bool ([c] == [50]), T0) := rfl
    cases hc2 : c == 50 with
    | true => rw [beq_iff_eq.mp hc2]; rfl
    | false => exact eif_f (T1 := T0) (bool_of (e.trans (by rw [show ([c] == [50]) = (c == 50) by show (c == 50 && true) = _; rw [Bool.and_true], hc2])))
def pcW (w : Wd) (size : Nat) : Nat := ((windows w size).foldl addW []).length
theorem p_pcount_ok {w : Wd} {size : Nat} (hl : w.length ≤ 1000) (hs : size ≤ w.length) : p_parts_count [.str (S w), .int (size : Nat)] = some (.int (pcW w size : Nat)) := by
  have lenE : ∀ {ρ : Rho}, ρ[0]? = some (.fr (.str (S w))) → eCall qLen (aCons (eOwn 0) aNil) ρ T0 = some (.int (w.length : Nat), T0) := fun h => call_of (a_one (by unfold eOwn; rw [h])) (q_len (by omega))
  refine bodyP_rt (T1 := T0) (seq_nx (ρ1 := [.fr (.str (S w)), .fr (.int (size : Nat)), .un]) (T1 := T0) (if_f (T1 := T0) (not_of (b := true) (bool_of (ch_of (x := .int 0) (T1 := T0) rfl (lc_t (y := .int (size : Nat)) (T1 := T0) rfl (q_le_t (by omega)) (lc_last (y := .int (w.length : Nat)) (lenE rfl) (q_le_t (by omega))))))) rfl)
    (ret_of (call_of (a_one (dict_win (w := w) (size := size) (by omega) hs rfl rfl (by omega) (by show 2 < 3; omega))) ?_)))
  show some (PyData.int ((((windows w size).foldl addW []).map entW).length : Nat)) = _
  rw [List.length_map]; rfl
end Dv

/-! M4: partial quotients; the law's own helpers. -/
namespace Dv
open PySem
theorem q_mul' {i j : Int} (h : i.natAbs < 18446744073709551616) : qMul (.int i) (.int j) = some (.int (i * j)) := by
  show qMulI i j = _
  unfold qMulI
  rw [if_pos (by rw [Bool.or_eq_true, Nat.blt_eq, Nat.blt_eq]; exact .inl h)]
/-! ### parts_of -/
def partsF : Nat → Nat → Nat → List Nat
  | 0, _, _ => []
  | _ + 1, 0, _ => []
  | f + 1, n + 1, d => d / (n + 1) :: partsF f (d % (n + 1)) (n + 1)
def partsW (n d : Nat) : List Nat := partsF 100 n d
def intL (l : List Nat) : List D := l.map fun i => .int ((i : Nat) : Int)
def bParts : FS := sSeq (sApp 3 (e2 qDiv (eOwn 2) (eOwn 1))) (sPar 1 2 (e2 qMod (eOwn 2) (eOwn 1)) (eVar 1))
theorem bParts_run {n d : Nat} (s : Cell) (acc : List D) (hn : n + 1 < 1073741824) (ha : acc.length < 16777216) (T : Tp) : bParts [s, .fr (.int ((n + 1 : Nat) : Int)), .fr (.int d), .ow (.list acc)] T =
    some (.nx [s, .fr (.int ((d % (n + 1) : Nat) : Int)), .fr (.int ((n + 1 : Nat) : Int)), .ow (.list (acc ++ [.int ((d / (n + 1) : Nat) : Int)]))], T) :=
  seq_nx (ρ1 := [s, .fr (.int ((n + 1 : Nat) : Int)), .fr (.int d), .ow (.list (acc ++ [.int ((d / (n + 1) : Nat) : Int)]))]) (T1 := T) (app_of (d := .int ((d / (n + 1) : Nat) : Int)) (T1 := T) (e2_of (T1 := T) rfl rfl (q_div (by omega) (by omega))) rfl (blt24 ha))
    (par_of (x := .int ((d % (n + 1) : Nat) : Int)) (y := .int ((n + 1 : Nat) : Int)) (T1 := T) (e2_of (T1 := T) rfl rfl (q_mod (by omega))) rfl)
theorem parts_loop (s : Cell) (T : Tp) : ∀ (f n d : Nat) (acc : List D), n ≤ d → n * d < 2 ^ f → n < 1000000 → acc.length + f + 1 < 16777216 → ∃ c, whL (tTru (eOwn 1)) bParts (f + 1) [s, .fr (.int n), .fr (.int d), .ow (.list acc)] T = some (.nx [s, .fr (.int 0), c, .ow (.list (acc ++ intL (partsF (f + 1) n d)))], T)
  | f, 0, d, acc, _, _, _, _ => ⟨_, by rw [show acc ++ intL (partsF (f + 1) 0 d) = acc from List.append_nil acc]; exact wh_f rfl⟩
  | 0, n + 1, d, acc, h1, h2, _, _ => by
    have : 0 < (n + 1) * d := Nat.mul_pos (by omega) (by omega)
    omega
  | f + 1, n + 1, d, acc, h1, h2, h3, h4 => by
    have hm : d % (n + 1) < n + 1 := Nat.mod_lt _ (by omega)
    have hq : 1 ≤ d / (n + 1) := (Nat.le_div_iff_mul_le (by omega)).mpr (by omega)
    have hd := Nat.div_add_mod d (n + 1)
    have h5 : (d % (n + 1)) * (n + 1) < 2 ^ f := by
      have h6 : (n + 1) * 1 ≤ (n + 1) * (d / (n + 1)) := Nat.mul_le_mul_left _ hq
      have h7 : 2 * (d % (n + 1)) ≤ d := by omega
      have h8 : (n + 1) * (2 * (d % (n + 1))) ≤ (n + 1) * d := Nat.mul_le_mul_left _ h7
      rw [Nat.pow_succ] at h2
      have h9 : (n + 1) * (2 * (d % (n + 1))) = 2 * ((d % (n + 1)) * (n + 1)) := by rw [Nat.mul_left_comm, Nat.mul_comm (n + 1)]
      omega
    obtain ⟨c, ih⟩ := parts_loop s T f (d % (n + 1)) (n + 1) (acc ++ [.int ((d / (n + 1) : Nat) : Int)]) (by omega) h5 (by omega) (by rw [List.length_append]; show acc.length + 1 + f + 1 < _; omega)
    refine ⟨c, wh_t (T1 := T) (ρ2 := [s, .fr (.int ((d % (n + 1) : Nat) : Int)), .fr (.int ((n + 1 : Nat) : Int)), .ow (.list (acc ++ [.int ((d / (n + 1) : Nat) : Int)]))]) (T2 := T) (tru_of (d := .int ((n + 1 : Nat) : Int)) rfl (tru_ne (by omega))) (bParts_run s acc (by omega) (by omega) T) (ih.trans ?_)⟩
    rw [List.append_assoc]; rfl
theorem p_parts_ok {n d : Nat} (h : Sl n d) (h1 : 1 ≤ n) : p_parts_of [slD n d] = some (.tuple (intL (partsW n d))) := by
  have h2 := h.le; have h3 := h.top
  have h4 : n * d ≤ 1000 * 1000 := Nat.mul_le_mul (by omega) h3
  have h5 : (1000 * 1000 : Nat) < 2 ^ 99 := by decide
  obtain ⟨c, hw⟩ := parts_loop (.fr (slD n d)) T0 99 n d [] h2 (by omega) (by omega) (by show 0 + 99 + 1 < _; omega)
  exact bodyP_rt (T1 := T0) (seq_nx (ρ1 := [.fr (slD n d), .un, .un, .un]) (T1 := T0) (drop_of (callP_of (ds := [slD n d]) (T1 := T0) rfl rfl (p_check_ok h)))
    (seq_nx (ρ1 := [.fr (slD n d), .fr (.int n), .fr (.int d), .un]) (T1 := T0) (asg_of (d := slD n d) rfl (gtup_of rfl rfl))
    (seq_nx (ρ1 := [.fr (slD n d), .fr (.int n), .fr (.int d), .un]) (T1 := T0) (if_f (T1 := T0) (bool_of (e2_of (x := .int n) (y := .int 0) rfl rfl (q_eq_f (by omega)))) rfl)
    (seq_nx (ρ1 := [.fr (slD n d), .fr (.int n), .fr (.int d), .ow (.list [])]) (T1 := T0) (new_of (d := .list []) rfl)
    (seq_nx (T1 := T0) hw (ret_of (d := .tuple (intL (partsW n d))) (call_of (T1 := T0) (a_one rfl) rfl)))))))

/-! ### from_parts -/
theorem for_fold {α β : Type} {g : FG} {f : FS} {T : Tp} {src : α → D} (st : β → Rho) (step : β → α → β) : ∀ (xs : List α) (b : β), (∀ x ∈ xs, ∀ b, ∃ ρ1, g (src x) (st b) = some ρ1 ∧ f ρ1 T = some (.nx (st (step b x)), T)) → forL g f (xs.map src) (st b) T = some (.nx (st (xs.foldl step b)), T)
  | [], _, _ => rfl
  | x :: xs, b, h => by
    obtain ⟨ρ1, h1, h2⟩ := h x List.mem_cons_self b
    exact for_cons h1 h2 (for_fold st step xs (step b x) fun y hy => h y (List.mem_cons_of_mem _ hy))
def fpStep (s : Cell × Nat × Nat) (a : Nat) : Cell × Nat × Nat := (.fr (.int ((a : Nat) : Int)), s.2.2, a * s.2.2 + s.2.1)
def fpSt (row : D) (s : Cell × Nat × Nat) : Rho := [.fr row, s.1, .fr (.int ((s.2.1 : Nat) : Int)), .fr (.int ((s.2.2 : Nat) : Int))]
def fpN (row : List Nat) : Nat × Nat := row.foldl (fun s a => (s.2, a * s.2 + s.1)) (0, 1)
theorem fp_fold : ∀ (l : List Nat) (c : Cell) (n d : Nat), (l.foldl fpStep (c, n, d)).2 = l.foldl (fun s a => (s.2, a * s.2 + s.1)) (n, d)
  | [], _, _, _ => rfl
  | a :: l, c, n, d => fp_fold l (.fr (.int ((a : Nat) : Int))) d (a * d + n)
theorem p_from_ok {row : List Nat} (h1 : 1 ≤ row.length) (h2 : row.length ≤ 12) (h3 : ∀ a ∈ row, 1 ≤ a ∧ a ≤ 50) (h4 : (fpN row.reverse).2 ≤ 1000) : p_from_parts [.tuple (intL row)] = some (.tuple [.int ((fpN row.reverse).1 : Nat), .int ((fpN row.reverse).2 : Nat)]) := by
  have hlen : (intL row).length = row.length := List.length_map ..
  have loop := for_fold (g := gSet 1) (f := sPar 2 3 (eVar 3) (e2 qAdd (e2 qMul (eOwn 1) (eOwn 3)) (eOwn 2))) (T := T0) (src := fun a : Nat => PyData.int ((a : Nat) : Int)) (fpSt (.tuple (intL row))) fpStep row.reverse (.un, 0, 1) (fun a ha s => by
    have ha := h3 a (List.mem_reverse.mp ha)
    refine ⟨[.fr (.tuple (intL row)), .fr (.int ((a : Nat) : Int)), .fr (.int ((s.2.1 : Nat) : Int)), .fr (.int ((s.2.2 : Nat) : Int))], rfl, par_of (x := .int ((s.2.2 : Nat) : Int)) (y := .int ((a * s.2.2 + s.2.1 : Nat) : Int)) (T1 := T0) rfl (e2_of (x := .int (((a : Nat) : Int) * ((s.2.2 : Nat) : Int))) (T1 := T0) (e2_of (T1 := T0) rfl rfl (q_mul' (by rw [Int.natAbs_natCast]; omega))) rfl ?_)⟩
    show some (PyData.int _) = _
    rw [Int.natCast_add, Int.natCast_mul])
  have ef : (row.reverse.foldl fpStep (.un, 0, 1)).2 = fpN row.reverse := fp_fold row.reverse .un 0 1
  generalize hs : row.reverse.foldl fpStep (.un, 0, 1) = s at loop ef
  obtain ⟨c, n, d⟩ := s
  have en : n = (fpN row.reverse).1 := congrArg Prod.fst ef
  have ed : d = (fpN row.reverse).2 := congrArg Prod.snd ef
  refine bodyP_rt (T1 := T0) (seq_nx (ρ1 := [.fr (.tuple (intL row)), .un, .un, .un]) (T1 := T0) (if_f (T1 := T0) ?_ rfl)
    (seq_nx (ρ1 := [.fr (.tuple (intL row)), .un, .fr (.int 0), .fr (.int 1)]) (T1 := T0) (asg_of (d := .tuple [.int 0, .int 1]) rfl (gtup_of rfl rfl))
    (seq_nx (ρ1 := fpSt (.tuple (intL row)) (c, n, d)) (T1 := T0) (for_of (ds := row.reverse.map fun a : Nat => PyData.int ((a : Nat) : Int)) (T1 := T0) ?_ loop)
    (seq_nx (ρ1 := fpSt (.tuple (intL row)) (c, n, d)) (T1 := T0) (if_f (T1 := T0) (bool_of (e2_of (x := .int ((d : Nat) : Int)) (y := .int 1000) rfl rfl (q_gt_f (by omega)))) rfl)
    (ret_of (tup_of (ds := [.int ((n : Nat) : Int), .int ((d : Nat) : Int)]) rfl rfl |>.trans (by rw [en, ed])))))))
  · refine (or_f (T1 := T0) (not_of (b := true) (bool_of (ch_of (x := .int 1) (T1 := T0) rfl (lc_t (y := .int ((row.length : Nat) : Int)) (T1 := T0) (call_of (ds := [.tuple (intL row)]) (T1 := T0) rfl (by show some (PyData.int ((intL row).length : Nat)) = _; rw [hlen])) (q_le_t (by omega)) (lc_last (y := .int 12) rfl (q_le_t (by omega)))))))).trans ?_
    refine not_of (b := true) (tru_of (d := .bool true) (call_of (ds := [.list (row.map fun a => .bool true)]) (T1 := T0) (a_one (lc_of (ds := intL row) (T1 := T0) (seq_i rfl rfl) (lcL_map (src := fun i : Nat => PyData.int ((i : Nat) : Int)) fun a ha => ⟨[.fr (.tuple (intL row)), .fr (.int ((a : Nat) : Int)), .un, .un], rfl, rfl, ?_⟩) (by rw [hlen]; omega))) ?_) rfl)
    · have ha := h3 a ha
      exact ch_of (x := .int 1) (T1 := T0) rfl (lc_t (y := .int ((a : Nat) : Int)) (T1 := T0) rfl (q_le_t (by omega)) (lc_last (y := .int 50) rfl (q_le_t (by omega))))
    · unfold qAll q1
      simp only [boolsD_map (fun _ : Nat => true) row]
      congr 2
      rw [List.all_eq_true]
      intro x hx
      obtain ⟨_, _, e⟩ := List.mem_map.mp hx
      exact e.symm
  · show some ((intL row).reverse, T0) = _
    unfold intL
    rw [List.map_reverse]

/-! ### _law_gcd, coprimes -/
def bLg : FS := sSeq (sIf (tBool (e2 qEq (eOwn 1) (eC (.int 0)))) sBreak sSkip) (sPar 0 1 (eVar 1) (e2 qMod (eCall qInt (aCons (eOwn 0) aNil)) (eOwn 1)))
theorem lg_stop (a : Nat) (c : Cell) (xs : List D) (T : Tp) : ∃ c', forL (gSet 2) bLg xs [.fr (.int a), .fr (.int 0), c] T = some (.nx [.fr (.int a), .fr (.int 0), c'], T) := by
  cases xs with
  | nil => exact ⟨c, rfl⟩
  | cons x xs => exact ⟨.fr x, for_bk (ρ1 := [.fr (.int a), .fr (.int 0), .fr x]) rfl (seq_bk (if_t (T1 := T) (bool_of (e2_of (x := .int 0) (y := .int 0) rfl rfl (q_eq_t rfl))) rfl))⟩
theorem lg_step {a b : Nat} (hb : 0 < b) (x : D) (T : Tp) : bLg [.fr (.int a), .fr (.int b), .fr x] T = some (.nx [.fr (.int b), .fr (.int ((a % b : Nat) : Int)), .fr x], T) :=
  seq_nx (ρ1 := [.fr (.int a), .fr (.int b), .fr x]) (T1 := T) (if_f (T1 := T) (bool_of (e2_of (x := .int b) (y := .int 0) rfl rfl (q_eq_f (by omega)))) rfl) (par_of (x := .int b) (y := .int ((a % b : Nat) : Int)) (T1 := T) rfl (e2_of (x := .int a) (T1 := T) rfl rfl (q_mod (by omega))))
theorem lg_loop (T : Tp) : ∀ (f a b : Nat) (c : Cell) (xs : List D), b ≤ a → a * b < 2 ^ f → f ≤ xs.length → ∃ c', forL (gSet 2) bLg xs [.fr (.int a), .fr (.int b), c] T = some (.nx [.fr (.int ((Nat.gcd a b : Nat) : Int)), .fr (.int 0), c'], T)
  | f, a, 0, c, xs, _, _, _ => by rw [Nat.gcd_zero_right]; exact lg_stop a c xs T
  | 0, a, b + 1, c, xs, h1, h2, _ => by
    have : 0 < a * (b + 1) := Nat.mul_pos (by omega) (by omega)
    omega
  | f + 1, a, b + 1, c, [], h1, h2, h3 => by cases h3
  | f + 1, a, b + 1, c, x :: xs, h1, h2, h3 => by
    have hm : a % (b + 1) < b + 1 := Nat.mod_lt _ (by omega)
    have hq : 1 ≤ a / (b + 1) := (Nat.le_div_iff_mul_le (by omega)).mpr (by omega)
    have hd := Nat.div_add_mod a (b + 1)
    have h4 : (b + 1) * (a % (b + 1)) < 2 ^ f := by
      have h4 : (b + 1) * 1 ≤ (b + 1) * (a / (b + 1)) := Nat.mul_le_mul_left _ hq
      have h5 : 2 * (a % (b + 1)) ≤ a := by omega
      have h6 : (b + 1) * (2 * (a % (b + 1))) ≤ (b + 1) * a := Nat.mul_le_mul_left _ h5
      rw [Nat.pow_succ] at h2
      rw [Nat.mul_comm a] at h2
      have h7 : (b + 1) * (2 * (a % (b + 1))) = 2 * ((b + 1) * (a % (b + 1))) := by rw [Nat.mul_left_comm]
      omega
    obtain ⟨c', ih⟩ := lg_loop T f (b + 1) (a % (b + 1)) (.fr x) xs (by omega) h4 (by rw [List.length_cons] at h3; omega)
    refine ⟨c', for_cons (ρ1 := [.fr (.int a), .fr (.int ((b + 1 : Nat) : Int)), .fr x]) rfl (lg_step (by omega) x T) ?_⟩
    rw [Nat.gcd_comm a, Nat.gcd_rec (b + 1) a, Nat.gcd_comm]
    exact ih
theorem p_lgcd_ok (a b : Nat) (ha : a ≤ 1000) (hb : b ≤ 1000) : p_law_gcd [.int a, .int b] = some (.int ((Nat.gcd a b : Nat) : Int)) := by
  have key : ∃ c', forL (gSet 2) bLg (rngD 0 60) [.fr (.int a), .fr (.int b), .un] T0 = some (.nx [.fr (.int ((Nat.gcd a b : Nat) : Int)), .fr (.int 0), c'], T0) := by
    by_cases h0 : b = 0
    · subst h0; rw [Nat.gcd_zero_right]; exact lg_stop a .un _ T0
    · have hm : a % b < b := Nat.mod_lt _ (by omega)
      have h1 : b * (a % b) ≤ 1000 * 1000 := Nat.mul_le_mul (by omega) (by omega)
      have h5 : (1000 * 1000 : Nat) < 2 ^ 59 := by decide
      obtain ⟨c', ih⟩ := lg_loop T0 59 b (a % b) (.fr (.int 0)) (rngD 1 59) (by omega) (by omega) (by rw [rngD_len]; omega)
      refine ⟨c', for_cons (ρ1 := [.fr (.int a), .fr (.int b), .fr (.int 0)]) rfl (lg_step (by omega) (.int 0) T0) ?_⟩
      rw [Nat.gcd_comm a, Nat.gcd_rec b a, Nat.gcd_comm]
      exact ih
  obtain ⟨c', hk⟩ := key
  exact bodyP_rt (T1 := T0) (seq_nx (ρ1 := [.fr (.int ((Nat.gcd a b : Nat) : Int)), .fr (.int 0), c']) (T1 := T0) (for_of (ds := rngD 0 60) (T1 := T0) (r1_of (k := 60) (T1 := T0) rfl (by decide)) hk) (ret_of rfl))
def coP (d : Nat) : Nat := ((List.range d).filter fun i => Nat.gcd (i + 1) d == 1).length
theorem p_coprimes_ok {d : Nat} (hd : d ≤ 1000) : p_coprimes [.int d] = some (.int ((coP d : Nat) : Int)) := by
  refine bodyP_rt (T1 := T0) (ret_of (call_of (ds := [.list (((List.range d).filter fun i => Nat.gcd (i + 1) d == 1).map fun _ => .int 1)]) (T1 := T0) (a_one (lc_of (ds := (List.range d).map fun i => .int ((i + 1 : Nat) : Int)) (T1 := T0) (T2 := T0) ?_ (lcL_filter fun i hi => ⟨[.fr (.int d), .fr (.int ((i + 1 : Nat) : Int))], rfl, ?_, rfl⟩) (by rw [List.length_map, List.length_range]; omega))) ?_))
  · refine (r2_of (k := 1) (l := ((d + 1 : Nat) : Int)) (T1 := T0) (T2 := T0) rfl (e2_of (T1 := T0) rfl rfl ?_) (by decide) (ok62_nat (by omega))).trans ?_
    · show some (PyData.int _) = _
      congr 2
    · rw [show (((d + 1 : Nat) : Int) - 1).toNat = d by omega, rng1]
  · have hi := List.mem_range.mp hi
    refine bool_of (e2_of (x := .int ((Nat.gcd (i + 1) d : Nat) : Int)) (y := .int 1) (T1 := T0) (callP_of (ds := [.int ((i + 1 : Nat) : Int), .int (d : Nat)]) (T1 := T0) rfl rfl (p_common_ok _ _ (by omega) (by omega))) rfl ?_)
    show some (PyData.bool (((Nat.gcd (i + 1) d : Nat) : Int) == 1)) = _
    congr 2
    cases h : Nat.gcd (i + 1) d == 1 with
    | true => rw [beq_iff_eq.mp h]; rfl
    | false =>
      have := beq_eq_false_iff_ne.mp h
      exact beq_eq_false_iff_ne.mpr (by omega)
  · unfold qSum q1
    simp only [intsD_map (fun _ : Nat => (1 : Int))]
    congr 2
    unfold coP
    generalize (List.range d).filter (fun i => Nat.gcd (i + 1) d == 1) = l
    induction l with
    | nil => rfl
    | cons x l ih => rw [List.map_cons, List.sum_cons, ih, List.length_cons]; omega
end Dv

/-! M5: draws. -/
namespace Dv
open PySem
theorem at_nat {α : Type} {xs : List α} {k : Nat} (h : k < xs.length) : atD xs ((k : Nat) : Int) = some xs[k] := by
  have e : L2.ixN xs.length ((k : Nat) : Int) = some k := by
    unfold L2.ixN
    rw [if_pos (by omega), if_pos (by omega), Int.toNat_natCast]
  unfold atD
  rw [e]
  exact List.getElem?_eq_getElem h
theorem tset_of {i : Nat} {up : Int → Tp → Tp} {fa : FE} {ρ : Rho} {T T1 : Tp} {x : Int} (h : fa ρ T = some (.int x, T1)) (ht : ρ[i]? = some .tp) : sTset i up fa ρ T = some (.nx ρ, up x T1) := by unfold sTset; rw [h]; simp only [ht]
/-- what every draw gives: a number below m, and a tape that can be drawn from again -/
theorem take_ok (T : Tp) (h0 : 0 ≤ T.idx) (m : Nat) (hm : 1 ≤ m) (hm2 : m ≤ 1000000) : ∃ (r : Nat) (T' : Tp), r < m ∧ 0 ≤ T'.idx ∧ p_law_take [.int (m : Nat)] T = some (.int (r : Nat), T') := by
  -- the rest, from any tape
  have rest : ∀ (T : Tp), 0 ≤ T.idx → ∃ (r : Nat) (T' : Tp), r < m ∧ 0 ≤ T'.idx ∧ (sSeq (sIf (tBool (e2 qGt (eTget 0 (fun T => .int T.left)) (eC (.int 0)))) (sSeq (sSet 2 (e2 qMod (eCall qInt (aCons (eTget 0 (fun T => .int T.left)) aNil)) (eOwn 1)))
      (sSeq (sTset 0 (fun x T => { T with left := x }) (e2 qDiv (eTget 0 (fun T => .int T.left)) (eOwn 1)))
      (sRet (eVar 2)))) sSkip)
      (sSeq (sTset 0 (fun x T => { T with salt := x }) (e2 qAdd (eTget 0 (fun T => .int T.salt)) (eC (.int 1))))
      (sSeq (sSet 3 (e2 qMod (eCall qInt (aCons (e2 qAdd (e2 qMul (eTget 0 (fun T => .int T.seed)) (eC (.int 48271))) (e2 qMul (eTget 0 (fun T => .int T.salt)) (eC (.int 69621)))) aNil)) (eC (.int 2147483647))))
      (sSeq (sSet 3 (e2 qMod (eCall qInt (aCons (e2 qAdd (e2 qAdd (e2 qMul (eOwn 3) (eOwn 3)) (e2 qMul (eTget 0 (fun T => .int T.salt)) (eC (.int 40692)))) (eC (.int 12345))) aNil)) (eC (.int 2147483399))))
      (sRet (e2 qMod (eCall qInt (aCons (eOwn 3) aNil)) (eOwn 1))))))) [.tp, .fr (.int (m : Nat)), .un, .un] T = some (.rt (.int (r : Nat)), T') := fun T h0 => by
    have hmi : (0 : Int) < ((m : Nat) : Int) := by omega
    by_cases hl : 0 < T.left
    · have e : T.left % ((m : Nat) : Int) = (((T.left % ((m : Nat) : Int)).toNat : Nat) : Int) := (Int.toNat_of_nonneg (Int.emod_nonneg _ (by omega))).symm
      have hlt := Int.emod_lt_of_pos T.left hmi
      refine ⟨(T.left % ((m : Nat) : Int)).toNat, { T with left := T.left / ((m : Nat) : Int) }, by omega, h0, seq_rt (if_t (T1 := T) (bool_of (e2_of (x := .int T.left) (y := .int 0) rfl rfl (q_gt_t hl)))
        (seq_nx (ρ1 := [.tp, .fr (.int (m : Nat)), .fr (.int (((T.left % ((m : Nat) : Int)).toNat : Nat) : Int)), .un]) (T1 := T) (set_of (d := .int (((T.left % ((m : Nat) : Int)).toNat : Nat) : Int)) (e2_of (x := .int T.left) (y := .int (m : Nat)) (T1 := T) (call_of (a_one rfl) rfl) rfl ((q_mod hmi).trans (by rw [← e]))))
        (seq_nx (ρ1 := [.tp, .fr (.int (m : Nat)), .fr (.int (((T.left % ((m : Nat) : Int)).toNat : Nat) : Int)), .un]) (T1 := { T with left := T.left / ((m : Nat) : Int) }) ?_ (ret_of rfl))))⟩
      have e5 : e2 qDiv (eTget 0 (fun T => .int T.left)) (eOwn 1) [.tp, .fr (.int (m : Nat)), .fr (.int (((T.left % ((m : Nat) : Int)).toNat : Nat) : Int)), .un] T = some (.int (T.left / ((m : Nat) : Int)), T) := e2_of (T1 := T) rfl rfl (q_div hmi (by omega))
      exact tset_of e5 rfl
    · let T1 : Tp := { T with salt := T.salt + 1 }
      let m1 : Int := (T.seed * 48271 + (T.salt + 1) * 69621) % 2147483647
      let m2 : Int := (m1 * m1 + (T.salt + 1) * 40692 + 12345) % 2147483399
      have b1 : m1.natAbs < 18446744073709551616 := by
        have h1 := Int.emod_nonneg (T.seed * 48271 + (T.salt + 1) * 69621) (show (2147483647 : Int) ≠ 0 by decide)
        have h2 := Int.emod_lt_of_pos (T.seed * 48271 + (T.salt + 1) * 69621) (show (0 : Int) < 2147483647 by decide)
        show ((T.seed * 48271 + (T.salt + 1) * 69621) % 2147483647).natAbs < _
        omega
      have e : m2 % ((m : Nat) : Int) = (((m2 % ((m : Nat) : Int)).toNat : Nat) : Int) := (Int.toNat_of_nonneg (Int.emod_nonneg _ (by omega))).symm
      have hlt := Int.emod_lt_of_pos m2 hmi
      have e5 : e2 qAdd (eTget 0 (fun T => .int T.salt)) (eC (.int 1)) [.tp, .fr (.int (m : Nat)), .un, .un] T = some (.int (T.salt + 1), T) := rfl
      refine ⟨(m2 % ((m : Nat) : Int)).toNat, T1, by omega, h0, seq_nx (ρ1 := [.tp, .fr (.int (m : Nat)), .un, .un]) (T1 := T) (if_f (T1 := T) (bool_of (e2_of (x := .int T.left) (y := .int 0) rfl rfl (q_gt_f hl))) rfl)
        (seq_nx (ρ1 := [.tp, .fr (.int (m : Nat)), .un, .un]) (T1 := T1) (tset_of e5 rfl)
        (seq_nx (ρ1 := [.tp, .fr (.int (m : Nat)), .un, .fr (.int m1)]) (T1 := T1) (set_of (d := .int m1) (e2_of (x := .int (T.seed * 48271 + (T.salt + 1) * 69621)) (y := .int 2147483647) (T1 := T1) (call_of (ds := [.int (T.seed * 48271 + (T.salt + 1) * 69621)]) (T1 := T1) (a_one (e2_of (x := .int (T.seed * 48271)) (y := .int ((T.salt + 1) * 69621)) (T1 := T1) (e2_of (T1 := T1) rfl rfl (q_mul (by decide))) (e2_of (T1 := T1) rfl rfl (q_mul (by decide))) rfl)) rfl) rfl (q_mod (by decide))))
        (seq_nx (ρ1 := [.tp, .fr (.int (m : Nat)), .un, .fr (.int m2)]) (T1 := T1) (set_of (d := .int m2) (e2_of (x := .int (m1 * m1 + (T.salt + 1) * 40692 + 12345)) (y := .int 2147483399) (T1 := T1) (call_of (ds := [.int (m1 * m1 + (T.salt + 1) * 40692 + 12345)]) (T1 := T1) (a_one (e2_of (x := .int (m1 * m1 + (T.salt + 1) * 40692)) (T1 := T1) (e2_of (x := .int (m1 * m1)) (y := .int ((T.salt + 1) * 40692)) (T1 := T1) (e2_of (T1 := T1) rfl rfl (q_mul b1)) (e2_of (T1 := T1) rfl rfl (q_mul (by decide))) rfl) rfl rfl)) rfl) rfl (q_mod (by decide))))
        (ret_of (e2_of (x := .int m2) (y := .int (m : Nat)) (T1 := T1) (call_of (a_one rfl) rfl) rfl ((q_mod hmi).trans (by rw [← e])))))))⟩
  -- the first test
  by_cases hz : T.left = 0
  · by_cases hi : T.idx < ((T.cells.length : Nat) : Int)
    · obtain ⟨k, hk⟩ : ∃ k : Nat, T.idx = (k : Int) := ⟨T.idx.toNat, by omega⟩
      have hkl : k < T.cells.length := by omega
      let T1 : Tp := { T with left := T.cells[k], idx := T.idx + 1 }
      obtain ⟨r, T', h1, h2, h3⟩ := rest T1 (by show 0 ≤ T.idx + 1; omega)
      refine ⟨r, T', h1, h2, bodyT_rt (seq_nx (ρ1 := [.tp, .fr (.int (m : Nat)), .un, .un]) (T1 := T1) (if_t (T1 := T) ?_ (seq_nx (ρ1 := [.tp, .fr (.int (m : Nat)), .un, .un]) (T1 := { T with left := T.cells[k] }) ?_ ?_)) h3)⟩
      · refine (and_t (T1 := T) (bool_of (e2_of (x := .int T.left) (y := .int 0) rfl rfl (q_eq_t hz)))).trans ?_
        exact bool_of (e2_of (x := .int T.idx) (y := .int ((T.cells.length : Nat) : Int)) (T1 := T) rfl (call_of (ds := [.list (T.cells.map .int)]) (T1 := T) rfl (by show some (PyData.int ((T.cells.map PyData.int).length : Nat)) = _; rw [List.length_map])) (q_lt_t hi))
      · have e5 : e2 qIx (eTget 0 (fun T => .list (T.cells.map .int))) (eTget 0 (fun T => .int T.idx)) [.tp, .fr (.int (m : Nat)), .un, .un] T = some (.int T.cells[k], T) := e2_of (x := .list (T.cells.map .int)) (y := .int ((k : Nat) : Int)) (T1 := T) rfl (by show some (PyData.int T.idx, T) = _; rw [hk]) (by
          show atD (T.cells.map PyData.int) ((k : Nat) : Int) = _
          rw [at_nat (by rw [List.length_map]; exact hkl), List.getElem_map])
        exact tset_of e5 rfl
      · rfl
    · obtain ⟨r, T', h1, h2, h3⟩ := rest T h0
      refine ⟨r, T', h1, h2, bodyT_rt (seq_nx (ρ1 := [.tp, .fr (.int (m : Nat)), .un, .un]) (T1 := T) (if_f (T1 := T) ?_ rfl) h3)⟩
      refine (and_t (T1 := T) (bool_of (e2_of (x := .int T.left) (y := .int 0) rfl rfl (q_eq_t hz)))).trans ?_
      exact bool_of (e2_of (x := .int T.idx) (y := .int ((T.cells.length : Nat) : Int)) (T1 := T) rfl (call_of (ds := [.list (T.cells.map .int)]) (T1 := T) rfl (by show some (PyData.int ((T.cells.map PyData.int).length : Nat)) = _; rw [List.length_map])) (q_lt_f hi))
  · obtain ⟨r, T', h1, h2, h3⟩ := rest T h0
    exact ⟨r, T', h1, h2, bodyT_rt (seq_nx (ρ1 := [.tp, .fr (.int (m : Nat)), .un, .un]) (T1 := T) (if_f (T1 := T) (and_f (T1 := T) (bool_of (e2_of (x := .int T.left) (y := .int 0) rfl rfl (q_eq_f hz)))) rfl) h3)⟩
/-- a draw within an expression -/
theorem takeE {T : Tp} (h0 : 0 ≤ T.idx) {m : Nat} (hm : 1 ≤ m) (hm2 : m ≤ 1000000) {ρ : Rho} {fa : FE} (ht : ρ[0]? = some .tp) (ha : fa ρ T = some (.int (m : Nat), T)) : ∃ (r : Nat) (T' : Tp), r < m ∧ 0 ≤ T'.idx ∧ eCallT 0 1 p_law_take (aCons fa aNil) ρ T = some (.int (r : Nat), T') := by
  obtain ⟨r, T', h1, h2, h3⟩ := take_ok T h0 m hm hm2
  exact ⟨r, T', h1, h2, callT_of ht (a_one ha) rfl h3⟩

theorem gcd_red {n d : Nat} (hg : 0 < Nat.gcd n d) : Nat.gcd (n / Nat.gcd n d) (d / Nat.gcd n d) = 1 := by
  have h1 := Nat.mul_div_cancel' (Nat.gcd_dvd_left n d)
  have h2 := Nat.mul_div_cancel' (Nat.gcd_dvd_right n d)
  have h3 := Nat.gcd_mul_left (Nat.gcd n d) (n / Nat.gcd n d) (d / Nat.gcd n d)
  rw [h1, h2] at h3
  exact Nat.eq_of_mul_eq_mul_left hg (by rw [Nat.mul_one]; exact h3.symm)
/-! ### _law_slope -/
theorem slope_ok (T : Tp) (h0 : 0 ≤ T.idx) : ∃ (n d : Nat) (T' : Tp), Sl n d ∧ d ≤ 60 ∧ 0 ≤ T'.idx ∧ p_law_slope [.int 60] T = some (slD n d, T') := by
  obtain ⟨r, T1, hr, h1, e1⟩ := takeE (T := T) h0 (m := 60) (by decide) (by decide) (ρ := [.tp, .fr (.int 60), .un, .un, .un]) (fa := eVar 1) rfl rfl
  let d0 := 1 + r
  obtain ⟨n, T2, hn, h2, e2'⟩ := takeE (T := T1) h1 (m := d0 + 1) (by omega) (by omega) (ρ := [.tp, .fr (.int 60), .fr (.int ((d0 : Nat) : Int)), .un, .un]) (fa := e2 qAdd (eOwn 2) (eC (.int 1))) rfl rfl
  let g := Nat.gcd n d0
  have hg : 0 < g := Nat.gcd_pos_of_pos_right _ (by omega)
  have hgd : g ≤ d0 := Nat.gcd_le_right _ (by omega)
  have q1 : (((n : Nat) : Int) / ((g : Nat) : Int)) = ((n / g : Nat) : Int) := by rw [Int.natCast_ediv]
  have q2 : (((d0 : Nat) : Int) / ((g : Nat) : Int)) = ((d0 / g : Nat) : Int) := by rw [Int.natCast_ediv]
  have hd1 : d0 / g ≤ d0 := Nat.div_le_self _ _
  refine ⟨n / g, d0 / g, T2, ⟨Nat.div_le_div_right (by omega), (Nat.le_div_iff_mul_le hg).mpr (by omega), by omega, gcd_red hg⟩, by omega, h2, bodyT_rt
    (seq_nx (ρ1 := [.tp, .fr (.int 60), .fr (.int ((d0 : Nat) : Int)), .un, .un]) (T1 := T1) (set_of (d := .int ((d0 : Nat) : Int)) (e2_of (x := .int 1) (y := .int ((r : Nat) : Int)) (T1 := T) rfl e1 ?_))
    (seq_nx (ρ1 := [.tp, .fr (.int 60), .fr (.int ((d0 : Nat) : Int)), .fr (.int ((n : Nat) : Int)), .un]) (T1 := T2) (set_of e2')
    (seq_nx (ρ1 := [.tp, .fr (.int 60), .fr (.int ((d0 : Nat) : Int)), .fr (.int ((n : Nat) : Int)), .fr (.int ((g : Nat) : Int))]) (T1 := T2) (set_of (callP_of (ds := [.int ((n : Nat) : Int), .int ((d0 : Nat) : Int)]) (T1 := T2) rfl rfl (p_lgcd_ok n d0 (by omega) (by omega))))
    (ret_of (tup_of (ds := [.int ((n / g : Nat) : Int), .int ((d0 / g : Nat) : Int)]) (T1 := T2) (a_cons (T1 := T2) (e2_of (T1 := T2) rfl rfl ((q_div (by omega) (by omega)).trans (by rw [q1]))) (a_one (e2_of (T1 := T2) rfl rfl ((q_div (by omega) (by omega)).trans (by rw [q2]))))) rfl)))))⟩
  show some (PyData.int _) = _
  congr 2
end Dv

/-! M6: words of lines: counts, balance, periods, turned words. -/
namespace Dv
open PySem
theorem line_succ (n d s l : Nat) : lineW n d s (l + 1) = lineW n d s l ++ [dig n d (s + l)] := by
  unfold lineW
  rw [List.range_succ, List.map_append]; rfl
theorem line_app (n d s l : Nat) : ∀ m, lineW n d s (l + m) = lineW n d s l ++ lineW n d (s + l) m
  | 0 => by rw [Nat.add_zero]; show _ = _ ++ []; rw [List.append_nil]
  | m + 1 => by
    rw [show l + (m + 1) = l + m + 1 by omega, line_succ, line_app n d s l m, line_succ, List.append_assoc, show s + (l + m) = s + l + m by omega]
theorem line_cnt {n d : Nat} (h : Sl n d) (s : Nat) : ∀ l, cnt (lineW n d s l) + s * n / d = (s + l) * n / d
  | 0 => by show cnt [] + _ = _; rw [Nat.add_zero]; show 0 + _ = _; rw [Nat.zero_add]
  | l + 1 => by
    have ih := line_cnt h s l
    have h1 := dig_le h (s + l)
    have h2 := dig_mono n d (s + l)
    rw [line_succ, cnt_app]
    have e : cnt [dig n d (s + l)] + (s + l) * n / d = (s + l + 1) * n / d := by
      have hc : cnt [dig n d (s + l)] = if dig n d (s + l) == 49 then 1 else 0 := by
        rw [cnt_cons]; show 0 + _ = _; rw [Nat.zero_add]
      rw [hc]
      have hd : dig n d (s + l) = 48 + ((s + l + 1) * n / d - (s + l) * n / d) := rfl
      rw [hd]
      by_cases hz : (s + l + 1) * n / d = (s + l) * n / d
      · rw [hz, Nat.sub_self]; show 0 + _ = _; omega
      · have hv : (s + l + 1) * n / d = (s + l) * n / d + 1 := by omega
        rw [hv, show (s + l) * n / d + 1 - (s + l) * n / d = 1 by omega]
        show 1 + _ = _
        omega
    rw [show s + (l + 1) = s + l + 1 by omega]
    omega
theorem line_win {n d s l k size : Nat} (h : k + size ≤ l) : win (lineW n d s l) k size = lineW n d (s + k) size := by
  have e : lineW n d s l = lineW n d s k ++ (lineW n d (s + k) size ++ lineW n d (s + k + size) (l - k - size)) := by
    rw [← line_app, ← line_app]
    congr 1
    omega
  unfold win
  rw [e, List.drop_append_of_le_length (by rw [lineW_len]; exact Nat.le_refl _), List.drop_of_length_le (by rw [lineW_len]; exact Nat.le_refl _), List.nil_append, List.take_append_of_le_length (by rw [lineW_len]; exact Nat.le_refl _), List.take_of_length_le (by rw [lineW_len]; exact Nat.le_refl _)]
theorem div_add_le (x y d : Nat) : x / d + y / d ≤ (x + y) / d  := by
  rcases Nat.eq_zero_or_pos d with rfl | h
  · rw [Nat.div_zero, Nat.div_zero, Nat.div_zero]; exact Nat.le_refl _
  · refine (Nat.le_div_iff_mul_le h).mpr ?_
    have h1 := Nat.div_mul_le_self x d
    have h2 := Nat.div_mul_le_self y d
    rw [Nat.add_mul]
    omega
theorem div_add_ge (x y : Nat) {d : Nat} (h : 0 < d) : (x + y) / d ≤ x / d + y / d + 1 := by
  have h1 := Nat.div_add_mod x d
  have h2 := Nat.div_add_mod y d
  have h3 := Nat.mod_lt x h
  have h4 := Nat.mod_lt y h
  refine Nat.le_of_lt_succ ((Nat.div_lt_iff_lt_mul h).mpr ?_)
  have e : (x / d + y / d + 1 + 1) * d = d * (x / d) + d * (y / d) + d + d := by
    rw [Nat.add_mul, Nat.add_mul, Nat.add_mul, Nat.one_mul, Nat.mul_comm (x / d), Nat.mul_comm (y / d)]
  show x + y < (x / d + y / d + 1 + 1) * d
  omega
theorem line_bal {n d : Nat} (h : Sl n d) (s l : Nat) : Bal (lineW n d s l) := fun size k j hk hj => by
  rw [lineW_len] at hk hj
  rw [line_win hk, line_win hj]
  have c1 := line_cnt h (s + k) size
  have c2 := line_cnt h (s + j) size
  have a1 : (s + k + size) * n = (s + k) * n + size * n := Nat.add_mul ..
  have a2 : (s + j + size) * n = (s + j) * n + size * n := Nat.add_mul ..
  have b1 := div_add_ge ((s + k) * n) (size * n) h.pos
  have b2 := div_add_le ((s + j) * n) (size * n) d
  rw [a1] at c1
  rw [a2] at c2
  omega
theorem bal_take {w : Wd} (h : Bal w) (m : Nat) : Bal (w.take m) := fun size k j hk hj => by
  have hl : (w.take m).length ≤ w.length := by rw [List.length_take]; omega
  have hm : (w.take m).length ≤ m := by rw [List.length_take]; omega
  have e : ∀ i, i + size ≤ (w.take m).length → win (w.take m) i size = win w i size := fun i hi => by
    unfold win
    rw [List.drop_take, List.take_take, Nat.min_eq_left (by omega)]
  rw [e k hk, e j hj]
  exact h size k j (by omega) (by omega)
theorem bin_take {w : Wd} (h : Bin w) (m : Nat) : Bin (w.take m) := fun c hc => h c (List.mem_of_mem_take hc)
theorem other_len (w : Wd) : (otherW w).length = w.length := List.length_map ..
theorem other_cnt : ∀ {w : Wd}, Bin w → cnt (otherW w) + cnt w = w.length
  | [], _ => rfl
  | c :: w, h => by
    have ih := other_cnt (w := w) fun x hx => h x (List.mem_cons_of_mem _ hx)
    have hc := h c List.mem_cons_self
    show cnt ((97 - c) :: otherW w) + cnt (c :: w) = w.length + 1
    rw [cnt_cons, cnt_cons]
    rcases hc with rfl | rfl
    · show cnt (otherW w) + 1 + (cnt w + 0) = _; omega
    · show cnt (otherW w) + 0 + (cnt w + 1) = _; omega
theorem other_win (w : Wd) (k size : Nat) : win (otherW w) k size = otherW (win w k size) := by
  unfold win otherW
  rw [List.map_take, List.map_drop]
theorem bal_other {w : Wd} (hb : Bin w) (h : Bal w) : Bal (otherW w) := fun size k j hk hj => by
  rw [other_len] at hk hj
  rw [other_win, other_win]
  have c1 := other_cnt (win_bin hb k size)
  have c2 := other_cnt (win_bin hb j size)
  rw [win_len hk] at c1
  rw [win_len hj] at c2
  have := h size j k hj hk
  omega
theorem rev_win {w : Wd} {k size : Nat} (h : k + size ≤ w.length) : win w.reverse k size = (win w (w.length - k - size) size).reverse := by
  unfold win
  rw [List.drop_reverse, List.take_reverse, List.length_take, List.drop_take]
  congr 2
  · rw [Nat.min_eq_left (by omega)]; omega
  · rw [Nat.min_eq_left (by omega)]
theorem cnt_rev (w : Wd) : cnt w.reverse = cnt w := by unfold cnt; rw [List.countP_reverse]
theorem bal_rev {w : Wd} (h : Bal w) : Bal w.reverse := fun size k j hk hj => by
  rw [List.length_reverse] at hk hj
  rw [rev_win hk, rev_win hj, cnt_rev, cnt_rev]
  exact h size _ _ (by omega) (by omega)
theorem bin_rev {w : Wd} (h : Bin w) : Bin w.reverse := fun c hc => h c (List.mem_reverse.mp hc)

/-! ### periods -/
theorem dig_per {n d : Nat} (h : Sl n d) (k : Nat) : dig n d (k + d) = dig n d k := by
  have hp := h.pos
  unfold dig
  have e1 : (k + d + 1) * n = (k + 1) * n + d * n := by rw [← Nat.add_mul]; congr 1; omega
  have e2 : (k + d) * n = k * n + d * n := Nat.add_mul ..
  rw [e1, e2, Nat.add_mul_div_left _ _ hp, Nat.add_mul_div_left _ _ hp]
  congr 1
  omega
theorem line_per {n d : Nat} (h : Sl n d) (s l : Nat) : lineW n d (s + d) l = lineW n d s l := by
  unfold lineW
  apply List.map_congr_left
  intro i _
  rw [show s + d + i = s + i + d by omega, dig_per h]
theorem line_perm {n d : Nat} (h : Sl n d) (s l : Nat) : ∀ m, lineW n d (s + m * d) l = lineW n d s l
  | 0 => by rw [Nat.zero_mul, Nat.add_zero]
  | m + 1 => by rw [Nat.succ_mul, ← Nat.add_assoc, line_per h, line_perm h s l m]
theorem line_mod {n d : Nat} (h : Sl n d) (s l : Nat) : lineW n d s l = lineW n d (s % d) l := by
  have e := Nat.mod_add_div s d
  have := line_perm h (s % d) l (s / d)
  rw [Nat.mul_comm, e] at this
  exact this
theorem rep_line {n d : Nat} (h : Sl n d) : ∀ m, (List.replicate m (rndW n d)).flatten = lineW n d 0 (m * d)
  | 0 => by rw [Nat.zero_mul]; rfl
  | m + 1 => by
    have e := line_app n d 0 d (m * d)
    rw [Nat.zero_add] at e
    have p := line_per h 0 (m * d)
    rw [Nat.zero_add] at p
    rw [List.replicate_succ, List.flatten_cons, rep_line h m, Nat.succ_mul, Nat.add_comm (m * d), e, p]; rfl
theorem wide_win {n d at' size m : Nat} (h : Sl n d) (hm : at' + size ≤ m * d) : win ((List.replicate m (rndW n d)).flatten) at' size = lineW n d at' size := by
  rw [rep_line h, line_win hm, Nat.zero_add]
theorem rnd_cnt {n d : Nat} (h : Sl n d) : cnt (rndW n d) = n := by
  have hp := h.pos
  have := line_cnt h 0 d
  rw [Nat.zero_mul, Nat.zero_div, Nat.zero_add, Nat.mul_comm, Nat.mul_div_cancel _ hp] at this
  exact this

/-! ### turned words -/
theorem rot_cnt (w : Wd) (b : Nat) : cnt (w.drop b ++ w.take b) = cnt w := by
  have := congrArg cnt (List.take_append_drop b w)
  rw [cnt_app] at this
  rw [cnt_app]
  omega
theorem rot_len (w : Wd) (b : Nat) : (w.drop b ++ w.take b).length = w.length := by
  have := congrArg List.length (List.take_append_drop b w)
  rw [List.length_append] at this
  rw [List.length_append]
  omega
theorem rot_sub {w : Wd} {b : Nat} (h : b ≤ w.length) : subIn (w.drop b ++ w.take b) (w ++ w) = true := by
  refine (subIn_iff _ _).mpr ⟨b, by rw [List.length_append]; omega, ?_⟩
  rw [rot_len, List.drop_append_of_le_length h, List.take_append, List.length_drop, List.take_of_length_le (by rw [List.length_drop]; omega), show w.length - (w.length - b) = b by omega]
theorem bin_app {u v : Wd} (hu : Bin u) (hv : Bin v) : Bin (u ++ v) := fun c hc => (List.mem_append.mp hc).elim (hu c) (hv c)
theorem bin_drop {w : Wd} (h : Bin w) (m : Nat) : Bin (w.drop m) := fun c hc => h c (List.mem_of_mem_drop hc)
/-- the slope of a turned round -/
theorem slope_rot {n d b : Nat} (h : Sl n d) (hd : d ≤ 40) (hb : b ≤ d) : p_slope_of [.str (S ((rndW n d).drop b ++ (rndW n d).take b))] = some (slD n d) := by
  have bn := line_bin h 0 d
  have hl : (rndW n d).length = d := lineW_len ..
  have c := rot_cnt (rndW n d) b
  have l := rot_len (rndW n d) b
  have hn : cnt (rndW n d) = n := rnd_cnt h
  have := p_slope_ok (w := (rndW n d).drop b ++ (rndW n d).take b) (bin_app (bin_drop bn b) (bin_take bn b)) (by rw [l, hl]; exact h.pos) (by rw [l, hl]; exact hd) (by rw [c, l, hl, hn]; exact h.co) (by
    rw [c, l, hl, hn]; exact rot_sub (by rw [hl]; exact hb))
  rw [c, l, hl, hn] at this
  exact this
theorem slope_rnd {n d : Nat} (h : Sl n d) (hd : d ≤ 40) : p_slope_of [.str (S (rndW n d))] = some (slD n d) := by
  have := slope_rot h hd (Nat.zero_le d)
  rw [List.drop_zero, List.take_zero, List.append_nil] at this
  exact this
theorem slope_rev {n d : Nat} (h : Sl n d) (hd : d ≤ 40) (hs : subIn (rndW n d).reverse (rndW n d ++ rndW n d) = true) : p_slope_of [.str (S (rndW n d).reverse)] = some (slD n d) := by
  have bn := line_bin h 0 d
  have hl : (rndW n d).length = d := lineW_len ..
  have hn : cnt (rndW n d) = n := rnd_cnt h
  have l : (rndW n d).reverse.length = d := by rw [List.length_reverse, hl]
  have c := cnt_rev (rndW n d)
  have := p_slope_ok (w := (rndW n d).reverse) (bin_rev bn) (by rw [l]; exact h.pos) (by rw [l]; exact hd) (by rw [c, l, hn]; exact h.co) (by rw [c, l, hn]; exact hs)
  rw [c, l, hn] at this
  exact this
end Dv

/-! M7: what is counted out for the slopes with divisors up to sixty. -/
namespace Dv
open PySem
def eqL (u v : List Nat) : Bool := u == v
def ckTurn (n d : Nat) : Bool := (otherW (rndW (d - n) d)).reverse == rndW n d
def ckMid (n d : Nat) : Bool := n == 0 || (n == d || (midW n d == (midW n d).reverse && (rndW n d == 48 :: (midW n d ++ [49]) && midW (d - n) d == (otherW (midW n d)).reverse)))
def ckRev (n d : Nat) : Bool := subIn (rndW n d).reverse (rndW n d ++ rndW n d)
def maxN (l : List Nat) : Nat := l.foldl max 0
def dueW (row : List Nat) : List Nat := match row with
  | a :: r => if 1 < a then 1 :: (a - 1) :: r else match r with
    | b :: r => (1 + b) :: r
    | [] => []
  | [] => []
def ckQuot (n d : Nat) : Bool := n == 0 || (
  Nat.ble 1 (partsW n d).length && (Nat.ble (partsW n d).length 12 && ((partsW n d).all (fun a => Nat.ble 1 a) && (
  (!(partsW n d).all (fun a => Nat.ble a 50) || (fpN (partsW n d).reverse == (n, d) && (fpN (partsW n d)).2 == d)) && (
  (Nat.ble (partsW n d).length 1 || Nat.ble 2 ((partsW n d).getLastD 0)) && (
  partsW n (d + n) == (match partsW n d with | a :: r => (a + 1) :: r | [] => []) && (
  (Nat.ble d n || (Nat.ble d 2 || (partsW (d - n) d == dueW (partsW n d) && (Nat.ble 2 ((partsW n d).headD 0) || Nat.ble 2 (partsW n d).length))))
  )))))))
def ckRaise (n d : Nat) : Bool := n == 0 || (Nat.ble 41 d || (raisedW (rndW n d) == rndW n (d + n) && (Nat.ble 41 (d + n) || ((!(rplW (rndW n (d + n))).any (· == 49)) && (Nat.ble (rplW (rndW n (d + n))).length 1000 && lowW (rndW n (d + n)) == rndW n d)))))
def ckD (d : Nat) : Bool := (List.range (d + 1)).all fun n => !(Nat.gcd n d == 1) || (ckTurn n d && (ckMid n d && (ckRev n d && (ckQuot n d && ckRaise n d))))
theorem ck_1 : ckD 1 = true := by decide +kernel
theorem ck_2 : ckD 2 = true := by decide +kernel
theorem ck_3 : ckD 3 = true := by decide +kernel
theorem ck_4 : ckD 4 = true := by decide +kernel
theorem ck_5 : ckD 5 = true := by decide +kernel
theorem ck_6 : ckD 6 = true := by decide +kernel
theorem ck_7 : ckD 7 = true := by decide +kernel
theorem ck_8 : ckD 8 = true := by decide +kernel
theorem ck_9 : ckD 9 = true := by decide +kernel
theorem ck_10 : ckD 10 = true := by decide +kernel
theorem ck_11 : ckD 11 = true := by decide +kernel
theorem ck_12 : ckD 12 = true := by decide +kernel
theorem ck_13 : ckD 13 = true := by decide +kernel
theorem ck_14 : ckD 14 = true := by decide +kernel
theorem ck_15 : ckD 15 = true := by decide +kernel
theorem ck_16 : ckD 16 = true := by decide +kernel
theorem ck_17 : ckD 17 = true := by decide +kernel
theorem ck_18 : ckD 18 = true := by decide +kernel
theorem ck_19 : ckD 19 = true := by decide +kernel
theorem ck_20 : ckD 20 = true := by decide +kernel
theorem ck_21 : ckD 21 = true := by decide +kernel
theorem ck_22 : ckD 22 = true := by decide +kernel
theorem ck_23 : ckD 23 = true := by decide +kernel
theorem ck_24 : ckD 24 = true := by decide +kernel
theorem ck_25 : ckD 25 = true := by decide +kernel
theorem ck_26 : ckD 26 = true := by decide +kernel
theorem ck_27 : ckD 27 = true := by decide +kernel
theorem ck_28 : ckD 28 = true := by decide +kernel
theorem ck_29 : ckD 29 = true := by decide +kernel
theorem ck_30 : ckD 30 = true := by decide +kernel
theorem ck_31 : ckD 31 = true := by decide +kernel
theorem ck_32 : ckD 32 = true := by decide +kernel
theorem ck_33 : ckD 33 = true := by decide +kernel
theorem ck_34 : ckD 34 = true := by decide +kernel
theorem ck_35 : ckD 35 = true := by decide +kernel
theorem ck_36 : ckD 36 = true := by decide +kernel
theorem ck_37 : ckD 37 = true := by decide +kernel
theorem ck_38 : ckD 38 = true := by decide +kernel
theorem ck_39 : ckD 39 = true := by decide +kernel
theorem ck_40 : ckD 40 = true := by decide +kernel
theorem ck_41 : ckD 41 = true := by decide +kernel
theorem ck_42 : ckD 42 = true := by decide +kernel
theorem ck_43 : ckD 43 = true := by decide +kernel
theorem ck_44 : ckD 44 = true := by decide +kernel
theorem ck_45 : ckD 45 = true := by decide +kernel
theorem ck_46 : ckD 46 = true := by decide +kernel
theorem ck_47 : ckD 47 = true := by decide +kernel
theorem ck_48 : ckD 48 = true := by decide +kernel
theorem ck_49 : ckD 49 = true := by decide +kernel
theorem ck_50 : ckD 50 = true := by decide +kernel
theorem ck_51 : ckD 51 = true := by decide +kernel
theorem ck_52 : ckD 52 = true := by decide +kernel
theorem ck_53 : ckD 53 = true := by decide +kernel
theorem ck_54 : ckD 54 = true := by decide +kernel
theorem ck_55 : ckD 55 = true := by decide +kernel
theorem ck_56 : ckD 56 = true := by decide +kernel
theorem ck_57 : ckD 57 = true := by decide +kernel
theorem ck_58 : ckD 58 = true := by decide +kernel
theorem ck_59 : ckD 59 = true := by decide +kernel
theorem ck_60 : ckD 60 = true := by decide +kernel
theorem ck_all : ∀ d, 1 ≤ d → d ≤ 60 → ckD d = true
  | 1, _, _ => ck_1
  | 2, _, _ => ck_2
  | 3, _, _ => ck_3
  | 4, _, _ => ck_4
  | 5, _, _ => ck_5
  | 6, _, _ => ck_6
  | 7, _, _ => ck_7
  | 8, _, _ => ck_8
  | 9, _, _ => ck_9
  | 10, _, _ => ck_10
  | 11, _, _ => ck_11
  | 12, _, _ => ck_12
  | 13, _, _ => ck_13
  | 14, _, _ => ck_14
  | 15, _, _ => ck_15
  | 16, _, _ => ck_16
  | 17, _, _ => ck_17
  | 18, _, _ => ck_18
  | 19, _, _ => ck_19
  | 20, _, _ => ck_20
  | 21, _, _ => ck_21
  | 22, _, _ => ck_22
  | 23, _, _ => ck_23
  | 24, _, _ => ck_24
  | 25, _, _ => ck_25
  | 26, _, _ => ck_26
  | 27, _, _ => ck_27
  | 28, _, _ => ck_28
  | 29, _, _ => ck_29
  | 30, _, _ => ck_30
  | 31, _, _ => ck_31
  | 32, _, _ => ck_32
  | 33, _, _ => ck_33
  | 34, _, _ => ck_34
  | 35, _, _ => ck_35
  | 36, _, _ => ck_36
  | 37, _, _ => ck_37
  | 38, _, _ => ck_38
  | 39, _, _ => ck_39
  | 40, _, _ => ck_40
  | 41, _, _ => ck_41
  | 42, _, _ => ck_42
  | 43, _, _ => ck_43
  | 44, _, _ => ck_44
  | 45, _, _ => ck_45
  | 46, _, _ => ck_46
  | 47, _, _ => ck_47
  | 48, _, _ => ck_48
  | 49, _, _ => ck_49
  | 50, _, _ => ck_50
  | 51, _, _ => ck_51
  | 52, _, _ => ck_52
  | 53, _, _ => ck_53
  | 54, _, _ => ck_54
  | 55, _, _ => ck_55
  | 56, _, _ => ck_56
  | 57, _, _ => ck_57
  | 58, _, _ => ck_58
  | 59, _, _ => ck_59
  | 60, _, _ => ck_60
  | 0, h, _ => absurd h (by decide)
  | n + 61, _, h => by omega
structure Ck (n d : Nat) : Prop where
  turn : ckTurn n d = true
  mid : ckMid n d = true
  rev : ckRev n d = true
  quot : ckQuot n d = true
  raise : ckRaise n d = true
theorem ck_of {n d : Nat} (h : Sl n d) (hd : d ≤ 60) : Ck n d := by
  have h1 := List.all_eq_true.mp (ck_all d h.pos hd) n (List.mem_range.mpr (by have := h.le; omega))
  rw [show (Nat.gcd n d == 1) = true from beq_iff_eq.mpr h.co] at h1
  simp only [Bool.not_true, Bool.false_or, Bool.and_eq_true] at h1
  exact ⟨h1.1, h1.2.1, h1.2.2.1, h1.2.2.2.1, h1.2.2.2.2⟩
end Dv

/-! M8: what the law asks of words. -/
namespace Dv
open PySem
theorem cntE {w : Wd} {ρ : Rho} {i j : Nat} {T : Tp} (hi : ρ[i]? = some (.fr (.str (S w)))) (hj : j < ρ.length) (hl : w.length ≤ 16777216) :
    eCall qLen (aCons (eLc (iSeq (eVar i)) (gSet j) (tBool (e2 qEq (eOwn j) (eC (.str "1")))) (eVar j) [j]) aNil) ρ T = some (.int ((cnt w : Nat) : Int), T) := by
  have v : eVar i ρ T = some (.str (S w), T) := by unfold eVar; rw [hi]
  refine call_of (ds := [.list ((w.filter fun c => c == 49).map fun c => .str (S [c]))]) (T1 := T) (a_one (lc_of (ds := w.map fun c => .str (S [c])) (T1 := T) (seq_i v rfl) (lcL_filter fun c hc => ⟨(wipeR ρ [j]).set j (.fr (.str (S [c]))), rfl, ?_, ?_⟩) (by rw [List.length_map]; exact hl))) ?_
  · have g : ((wipeR ρ [j]).set j (.fr (.str (S [c]))))[j]? = some (.fr (.str (S [c]))) := List.getElem?_set_self (by show j < (ρ.set j .un).length; rw [List.length_set]; exact hj)
    have o : eOwn j ((wipeR ρ [j]).set j (.fr (.str (S [c])))) T = some (.str (S [c]), T) := by unfold eOwn; rw [g]
    refine bool_of (e2_of (y := .str (S [49])) (T1 := T) o rfl ?_)
    show some (PyData.bool ([c] == [49])) = _
    congr 2
    show (c == 49 && true) = _
    rw [Bool.and_true]
  · have g : ((wipeR ρ [j]).set j (.fr (.str (S [c]))))[j]? = some (.fr (.str (S [c]))) := List.getElem?_set_self (by show j < (ρ.set j .un).length; rw [List.length_set]; exact hj)
    unfold eVar; rw [g]
  · show some (PyData.int (((w.filter fun c => c == 49).map fun c => PyData.str (S [c])).length : Nat)) = _
    rw [List.length_map, ← List.countP_eq_length_filter]; rfl
theorem q_mulS {w : Wd} {m : Nat} (h1 : m ≤ 1000) (h2 : w.length ≤ 1000) : qMul (.str (S w)) (.int ((m : Nat) : Int)) = some (.str (S ((List.replicate m w).flatten))) := by
  have h3 : w.length * m ≤ 1000 * 1000 := Nat.mul_le_mul h2 h1
  show (if (decide (((m : Nat) : Int) < 1073741824) && decide (-1073741824 < ((m : Nat) : Int)) && (w.length * ((m : Nat) : Int).toNat).ble line24) = true then some (PyData.str (S ((List.replicate ((m : Nat) : Int).toNat w).flatten))) else none) = _
  rw [Int.toNat_natCast, decide_eq_true (show ((m : Nat) : Int) < 1073741824 by omega), decide_eq_true (show (-1073741824 : Int) < ((m : Nat) : Int) by omega), ble24 (by omega)]
  rfl
theorem q_eqD {x y : D} {b : Bool} (h : qEq x y = some (.bool b)) : qEq x y = some (.bool b) := h
theorem q_ne_sl (n d : Nat) : qNe (slD n d) (slD n d) = some (.bool false) := by
  show (if (eqOk 8 (slD n d) && eqOk 8 (slD n d)) = true then some (PyData.bool (!PyData.eqv (slD n d) (slD n d))) else none) = _
  have e : eqOk 8 (slD n d) = true := by unfold slD; simp only [eqOk, eqOkL, Bool.and_self]
  rw [e]
  show some (PyData.bool (!PyData.eqv (slD n d) (slD n d))) = _
  congr 2
  unfold slD
  simp [PyData.eqv, PyData.eqvAll]
end Dv

/-! M9: what the law asks of the words of a slope. -/
namespace Dv
open PySem
theorem lenE {w : Wd} {ρ : Rho} {i m : Nat} {T : Tp} (hi : ρ[i]? = some (.fr (.str (S w)))) (hl : w.length = m) (hm : m ≤ 16777216) : eCall qLen (aCons (eOwn i) aNil) ρ T = some (.int ((m : Nat) : Int), T) := by
  subst hl
  exact call_of (a_one (by unfold eOwn; rw [hi])) (q_len hm)
def W17 (n d : Nat) (c6 c7 c8 c9 c10 c11 c12 c13 c14 c15 : Cell) : Rho := [.tp, .fr (slD n d), .fr (.int n), .fr (.int d), .fr (.str (S (rndW n d))), .un, c6, c7, c8, c9, c10, c11, c12, c13, c14, c15, .un]
theorem sl_turn {n d : Nat} (sl : Sl n d) : Sl (d - n) d := by
  have h1 := sl.le
  refine ⟨by omega, sl.pos, sl.top, ?_⟩
  have h2 := Nat.gcd_sub_self_right h1
  have e : Nat.gcd (d - n) d = Nat.gcd n d := by
    rw [Nat.gcd_comm]
    have h3 : d - (d - n) = n := by omega
    have h4 := Nat.gcd_sub_self_right (m := d - n) (n := d) (by omega)
    rw [h3] at h4
    rw [Nat.gcd_comm, ← h4, Nat.gcd_comm (d - n) n, h2]
  rw [e]; exact sl.co
theorem subE {ρ : Rho} {T : Tp} {a b : Nat} {fa fb : FE} (ha : fa ρ T = some (.int (a : Nat), T)) (hb : fb ρ T = some (.int (b : Nat), T)) (h : b ≤ a) : e2 qSub fa fb ρ T = some (.int ((a - b : Nat) : Int), T) := by
  refine e2_of ha hb ?_
  show some (PyData.int _) = _
  congr 2
  omega
theorem addE {ρ : Rho} {T : Tp} {a b : Nat} {fa fb : FE} (ha : fa ρ T = some (.int (a : Nat), T)) (hb : fb ρ T = some (.int (b : Nat), T)) : e2 qAdd fa fb ρ T = some (.int ((a + b : Nat) : Int), T) := by
  refine e2_of ha hb ?_
  show some (PyData.int _) = _
  congr 2
theorem divE {ρ : Rho} {T : Tp} {a b : Nat} {fa fb : FE} (ha : fa ρ T = some (.int (a : Nat), T)) (hb : fb ρ T = some (.int (b : Nat), T)) (h : 0 < b) (h2 : b < 1073741824) : e2 qDiv fa fb ρ T = some (.int ((a / b : Nat) : Int), T) :=
  e2_of ha hb ((q_div (by omega) (by omega)).trans (by rw [Int.natCast_ediv]))
theorem modE {ρ : Rho} {T : Tp} {a b : Nat} {fa fb : FE} (ha : fa ρ T = some (.int (a : Nat), T)) (hb : fb ρ T = some (.int (b : Nat), T)) (h : 0 < b) : e2 qMod fa fb ρ T = some (.int ((a % b : Nat) : Int), T) :=
  e2_of ha hb ((q_mod (by omega)).trans (by rw [Int.natCast_emod]))
theorem mulE {ρ : Rho} {T : Tp} {a b : Nat} {fa fb : FE} (ha : fa ρ T = some (.int (a : Nat), T)) (hb : fb ρ T = some (.int (b : Nat), T)) (h2 : b < 1073741824) : e2 qMul fa fb ρ T = some (.int ((a * b : Nat) : Int), T) :=
  e2_of ha hb ((q_mul (by omega)).trans (by rw [Int.natCast_mul]))
section
variable {n d : Nat} (sl : Sl n d) (hd : d ≤ 60)
include sl hd
theorem wr_3 (T : Tp) : f_law_words_right_3 (W17 n d .un .un .un .un .un .un .un .un .un .un) T = some (.nx (W17 n d .un .un .un .un .un .un .un .un .un .un), T) := by
  have hl : (rndW n d).length = d := lineW_len ..
  refine if_f (T1 := T) ?_ rfl
  refine (or_f (T1 := T) (bool_of (e2_of (x := .int ((d : Nat) : Int)) (y := .int ((d : Nat) : Int)) (T1 := T) (lenE rfl hl (by omega)) rfl (q_ne_f rfl)))).trans ?_
  exact bool_of (e2_of (x := .int ((n : Nat) : Int)) (y := .int ((n : Nat) : Int)) (T1 := T) ((cntE (w := rndW n d) rfl (by show 5 < 17; decide) (by rw [hl]; omega)).trans (by rw [rnd_cnt sl])) rfl (q_ne_f rfl))
theorem wr_5 (ck : Ck n d) (T : Tp) : f_law_words_right_5 (W17 n d (.fr (.str (S (rndW (d - n) d)))) .un .un .un .un .un .un .un .un .un) T = some (.nx (W17 n d (.fr (.str (S (rndW (d - n) d)))) .un .un .un .un .un .un .un .un .un), T) := by
  have hl : (rndW (d - n) d).length = d := lineW_len ..
  refine if_f (T1 := T) ?_ rfl
  refine bool_of (e2_of (x := .str (S (otherW (rndW (d - n) d)).reverse)) (y := .str (S (rndW n d))) (T1 := T) (eF_of (x := .str (S (otherW (rndW (d - n) d)))) (T1 := T) (callP_of (ds := [.str (S (rndW (d - n) d))]) (T1 := T) rfl rfl (p_other_ok (line_bin (sl_turn sl) 0 d) (by rw [hl]; omega))) (q_rev (by rw [other_len, hl]; omega))) rfl ?_)
  have e : (otherW (rndW (d - n) d)).reverse = rndW n d := beq_iff_eq.mp ck.turn
  rw [e]; exact q_neS_f _
theorem wr_10 {st sz : Nat} (hs : st < 200) (hz : sz < 60) (c : Cell) (T : Tp) : f_law_words_right_10 (W17 n d c (.fr (.int (st : Nat))) (.fr (.int (sz : Nat))) (.fr (.str (S (lineW n d st sz)))) (.fr (.str (S ((List.replicate (sz / d + 2) (rndW n d)).flatten)))) (.fr (.int ((st % d : Nat) : Int))) .un .un .un .un) T =
    some (.nx (W17 n d c (.fr (.int (st : Nat))) (.fr (.int (sz : Nat))) (.fr (.str (S (lineW n d st sz)))) (.fr (.str (S ((List.replicate (sz / d + 2) (rndW n d)).flatten)))) (.fr (.int ((st % d : Nat) : Int))) .un .un .un .un), T) := by
  have hp := sl.pos
  have hlt : st % d < d := Nat.mod_lt _ hp
  have hdm := Nat.div_add_mod sz d
  have hml := Nat.mod_lt sz hp
  have hdiv : sz / d ≤ sz := Nat.div_le_self _ _
  have hmul : (sz / d + 2) * d = d * (sz / d) + d + d := by rw [Nat.add_mul, Nat.mul_comm]; omega
  have hfit : st % d + sz ≤ (sz / d + 2) * d := by omega
  have hwl : ((List.replicate (sz / d + 2) (rndW n d)).flatten).length = (sz / d + 2) * d := by rw [rep_line sl, lineW_len]
  have hw6 : (sz / d + 2) * d ≤ 1000 := by omega
  refine if_f (T1 := T) ((or_f (T1 := T) ?_).trans ?_) rfl
  · refine bool_of (e2_of (x := .str (S (lineW n d st sz))) (y := .str (S (lineW n d st sz))) (T1 := T) rfl (cut_of (x := .str (S ((List.replicate (sz / d + 2) (rndW n d)).flatten))) (lo := some ((st % d : Nat) : Int)) (hi := some ((st % d + sz : Nat) : Int)) (T1 := T) (T2 := T) (T3 := T) rfl (o_of rfl) (o_of (addE rfl rfl)) ((q_cut (by rw [hwl]; omega)).trans ?_)) (q_neS_f _))
    rw [cut_nn _ (by omega) (by rw [hwl]; omega), show st % d + sz - st % d = sz by omega]
    have := wide_win (n := n) (d := d) (at' := st % d) (size := sz) (m := sz / d + 2) sl hfit
    unfold win at this
    rw [this, ← line_mod sl]
  · exact bool_of (e2_of (x := .str (S (lineW n d st sz))) (y := .str (S (lineW n d st sz))) (T1 := T) ((callP_of (ds := [slD n d, .int ((st + d : Nat) : Int), .int ((sz : Nat) : Int)]) (T1 := T) (a_cons (T1 := T) rfl (a_cons (T1 := T) (addE rfl rfl) (a_one rfl))) rfl (p_line_ok sl (by omega) (by omega))).trans (by rw [line_per sl])) rfl (q_neS_f _))
theorem wr_11 {st sz : Nat} (hs : st < 200) (hz : sz < 60) (c c10 c11 : Cell) (T : Tp) : f_law_words_right_11 (W17 n d c (.fr (.int (st : Nat))) (.fr (.int (sz : Nat))) (.fr (.str (S (lineW n d st sz)))) c10 c11 .un .un .un .un) T =
    some (.nx (W17 n d c (.fr (.int (st : Nat))) (.fr (.int (sz : Nat))) (.fr (.str (S (lineW n d st sz)))) c10 c11 (.fr (.int ((cnt (lineW n d st sz) : Nat) : Int))) .un .un .un), T) := by
  have hle := sl.le
  have hp := sl.pos
  have hc := line_cnt sl st sz
  refine set_of (d := .int ((cnt (lineW n d st sz) : Nat) : Int)) ((subE (a := (st + sz) * n / d) (b := st * n / d) (divE (a := (st + sz) * n) (mulE (addE rfl rfl) rfl (by omega)) rfl hp (by omega)) (divE (a := st * n) (mulE rfl rfl (by omega)) rfl hp (by omega)) (by omega)).trans ?_)
  congr 4
  omega
theorem wr_12 {st sz : Nat} (hz : sz < 60) (c c7 c8 c10 c11 : Cell) (T : Tp) : f_law_words_right_12 (W17 n d c c7 c8 (.fr (.str (S (lineW n d st sz)))) c10 c11 (.fr (.int ((cnt (lineW n d st sz) : Nat) : Int))) .un .un .un) T =
    some (.nx (W17 n d c c7 c8 (.fr (.str (S (lineW n d st sz)))) c10 c11 (.fr (.int ((cnt (lineW n d st sz) : Nat) : Int))) .un .un .un), T) :=
  if_f (T1 := T) (bool_of (e2_of (x := .int ((cnt (lineW n d st sz) : Nat) : Int)) (y := .int ((cnt (lineW n d st sz) : Nat) : Int)) (T1 := T) (cntE (w := lineW n d st sz) rfl (by show 5 < 17; decide) (by rw [lineW_len]; omega)) rfl (q_ne_f rfl))) rfl
theorem wr_13 {st sz : Nat} (hz : sz < 60) (c c7 c8 c10 c11 c12 : Cell) (T : Tp) : f_law_words_right_13 (W17 n d c c7 c8 (.fr (.str (S (lineW n d st sz)))) c10 c11 c12 .un .un .un) T =
    some (.nx (W17 n d c c7 c8 (.fr (.str (S (lineW n d st sz)))) c10 c11 c12 (.fr (.str (S ((lineW n d st sz).take 40)))) .un .un), T) :=
  set_of (cut_of (x := .str (S (lineW n d st sz))) (lo := none) (hi := some ((40 : Nat) : Int)) (T1 := T) (T2 := T) rfl rfl (o_of rfl) ((q_cut (by rw [lineW_len]; omega)).trans (by rw [cut_to])))
theorem wr_14 {st sz : Nat} (hz : sz < 60) (c c7 c8 c9 c10 c11 c12 : Cell) (T : Tp) : f_law_words_right_14 (W17 n d c c7 c8 c9 c10 c11 c12 (.fr (.str (S ((lineW n d st sz).take 40)))) .un .un) T =
    some (.nx (W17 n d c c7 c8 c9 c10 c11 c12 (.fr (.str (S ((lineW n d st sz).take 40)))) .un .un), T) := by
  have hb : Bin ((lineW n d st sz).take 40) := bin_take (line_bin sl st sz) 40
  have hB : Bal ((lineW n d st sz).take 40) := bal_take (line_bal sl st sz) 40
  have hl : ((lineW n d st sz).take 40).length ≤ 40 := by rw [List.length_take]; omega
  generalize (lineW n d st sz).take 40 = w at *
  have hol : (otherW w).length ≤ 40 := by rw [other_len]; exact hl
  refine if_f (T1 := T) ?_ rfl
  refine (or_f (T1 := T) (bool_of (e2_of (x := .bool true) (y := .bool true) (T1 := T) (callP_of (ds := [.str (S w)]) (T1 := T) rfl rfl (p_bal_ok hb hl hB)) rfl rfl))).trans ?_
  refine (or_f (T1 := T) (bool_of (e2_of (x := .none) (y := .none) (T1 := T) (callP_of (ds := [.str (S w)]) (T1 := T) rfl rfl (p_heavy_ok hb hl hB)) rfl rfl))).trans ?_
  refine (or_f (T1 := T) (bool_of (e2_of (x := .none) (y := .none) (T1 := T) (callP_of (ds := [.str (S w)]) (T1 := T) rfl rfl (p_rough_ok hb hl hB)) rfl rfl))).trans ?_
  exact bool_of (e2_of (x := .bool true) (y := .bool true) (T1 := T) (callP_of (ds := [.str (S (otherW w).reverse)]) (T1 := T) (a_one (eF_of (x := .str (S (otherW w))) (T1 := T) (callP_of (ds := [.str (S w)]) (T1 := T) rfl rfl (p_other_ok hb (by omega))) (q_rev (by omega)))) rfl (p_bal_ok (bin_rev (other_bin hb)) (by rw [List.length_reverse]; exact hol) (bal_rev (bal_other hb hB)))) rfl rfl)
theorem wr_15 (hpc : ∀ m, 1 ≤ m → m < d → m < 9 → pcW (rndW n d ++ rndW n d) m = m + 1) (c c7 c8 c9 c10 c11 c12 c13 : Cell) (T : Tp) : ∃ c8', f_law_words_right_15 (W17 n d c c7 c8 c9 c10 c11 c12 c13 .un .un) T =
    some (.nx (W17 n d c c7 c8' c9 c10 c11 c12 c13 .un .un), T) := by
  have hp := sl.pos
  have hl : (rndW n d).length = d := lineW_len ..
  have loop := for_all (g := gSet 8) (T := T) (P := fun ρ => ∃ c8', ρ = W17 n d c c7 c8' c9 c10 c11 c12 c13 .un .un) (src := fun i : Nat => PyData.int ((i + 1 : Nat) : Int)) (xs := List.range (min d 9 - 1)) (ρ := W17 n d c c7 c8 c9 c10 c11 c12 c13 .un .un)
    (f := sIf (tBool (e2 qNe (eCall (argc 2 p_parts_count) (aCons (e2 qAdd (eOwn 4) (eOwn 4)) (aCons (eVar 8) aNil))) (eCall qMinA (aCons (e2 qAdd (eOwn 8) (eC (.int 1))) (aCons (eOwn 3) aNil))))) (sRet (eC (.bool false))) sSkip) ⟨_, rfl⟩ (fun i hi ρ ⟨c8', e⟩ => by
      subst e
      have hi := List.mem_range.mp hi
      refine ⟨W17 n d c c7 (.fr (.int ((i + 1 : Nat) : Int))) c9 c10 c11 c12 c13 .un .un, W17 n d c c7 (.fr (.int ((i + 1 : Nat) : Int))) c9 c10 c11 c12 c13 .un .un, rfl, if_f (T1 := T) (bool_of (e2_of (x := .int ((i + 2 : Nat) : Int)) (y := .int ((i + 2 : Nat) : Int)) (T1 := T) ?_ ?_ (q_ne_f rfl))) rfl, ⟨_, rfl⟩⟩
      · refine (callP_of (ds := [.str (S (rndW n d ++ rndW n d)), .int ((i + 1 : Nat) : Int)]) (T1 := T) (a_cons (T1 := T) (e2_of (x := .str (S (rndW n d))) (y := .str (S (rndW n d))) (T1 := T) rfl rfl (q_cat (by omega))) (a_one rfl)) rfl (p_pcount_ok (by rw [List.length_append]; omega) (by rw [List.length_append]; omega))).trans ?_
        rw [hpc (i + 1) (by omega) (by omega) (by omega)]
      · refine call_of (ds := [.int ((i + 2 : Nat) : Int), .int ((d : Nat) : Int)]) (T1 := T) (a_cons (T1 := T) ((addE (a := i + 1) (b := 1) rfl rfl).trans (by rw [show i + 1 + 1 = i + 2 by omega])) (a_one rfl)) ?_
        show some (PyData.int (if ((d : Nat) : Int) < ((i + 2 : Nat) : Int) then ((d : Nat) : Int) else ((i + 2 : Nat) : Int))) = _
        rw [if_neg (by omega)])
  obtain ⟨ρ2, ⟨c8', e⟩, hf⟩ := loop
  subst e
  refine ⟨c8', for_of (ds := (List.range (min d 9 - 1)).map fun i : Nat => PyData.int ((i + 1 : Nat) : Int)) (T1 := T) ?_ hf⟩
  refine (r2_of (k := 1) (l := ((min d 9 : Nat) : Int)) (T1 := T) (T2 := T) rfl (call_of (ds := [.int ((d : Nat) : Int), .int 9]) (T1 := T) rfl ?_) (by decide) (ok62_nat (by omega))).trans ?_
  · show some (PyData.int (if (9 : Int) < ((d : Nat) : Int) then 9 else ((d : Nat) : Int))) = _
    congr 2
    split <;> omega
  · rw [show (((min d 9 : Nat) : Int) - 1).toNat = min d 9 - 1 by omega, rng1]
theorem wr_16 (ck : Ck n d) (c c7 c8 c9 c10 c11 c12 c13 : Cell) (T : Tp) : ∃ c14, f_law_words_right_16 (W17 n d c c7 c8 c9 c10 c11 c12 c13 .un .un) T = some (.nx (W17 n d c c7 c8 c9 c10 c11 c12 c13 c14 .un), T) := by
  have hle := sl.le
  have hl : (rndW n d).length = d := lineW_len ..
  by_cases h0 : 0 < n
  · by_cases h1 : n < d
    · have cm := ck.mid
      unfold ckMid at cm
      rw [show (n == 0) = false from beq_eq_false_iff_ne.mpr (by omega), show (n == d) = false from beq_eq_false_iff_ne.mpr (by omega), Bool.false_or, Bool.false_or, Bool.and_eq_true, Bool.and_eq_true] at cm
      obtain ⟨m1, m2, m3⟩ := cm
      have m2 := beq_iff_eq.mp m2
      have m3 := beq_iff_eq.mp m3
      have ml : (midW n d).length ≤ d := by unfold midW; rw [List.length_take, List.length_drop, hl]; omega
      have mb : Bin (midW n d) := fun c hc => line_bin sl 0 d c (List.mem_of_mem_drop (List.mem_of_mem_take hc))
      refine ⟨.fr (.str (S (midW n d))), if_t (T1 := T) (bool_of (ch_of (x := .int 0) (T1 := T) rfl (lc_t (y := .int ((n : Nat) : Int)) (T1 := T) rfl (q_lt_t (by omega)) (lc_last (y := .int ((d : Nat) : Int)) rfl (q_lt_t (by omega))))))
        (seq_nx (ρ1 := W17 n d c c7 c8 c9 c10 c11 c12 c13 (.fr (.str (S (midW n d)))) .un) (T1 := T) (set_of (callP_of (ds := [slD n d]) (T1 := T) rfl rfl (p_middle_ok sl (by omega) (by omega)))) (if_f (T1 := T) ?_ rfl))⟩
      refine (or_f (T1 := T) (bool_of (e2_of (x := .bool true) (y := .bool true) (T1 := T) ((callP_of (ds := [.str (S (midW n d))]) (T1 := T) rfl rfl (p_mirror_ok (by omega))).trans (by rw [m1])) rfl rfl))).trans ?_
      refine (or_f (T1 := T) (bool_of (e2_of (x := .str (S (rndW n d))) (y := .str (S (rndW n d))) (T1 := T) rfl ((e2_of (x := .str (S ([48] ++ midW n d))) (y := .str (S [49])) (T1 := T) (e2_of (x := .str (S [48])) (y := .str (S (midW n d))) (T1 := T) rfl rfl (q_cat (by show 1 + _ ≤ _; omega))) rfl (q_cat (by rw [List.length_append]; show 1 + _ + 1 ≤ _; omega))).trans (by rw [show [48] ++ midW n d ++ [49] = rndW n d from m2.symm])) (q_neS_f _)))).trans ?_
      refine bool_of (e2_of (x := .str (S (otherW (midW n d)).reverse)) (y := .str (S (otherW (midW n d)).reverse)) (T1 := T) ((callP_of (ds := [slD (d - n) d]) (T1 := T) (a_one (tup_of (ds := [.int ((d - n : Nat) : Int), .int ((d : Nat) : Int)]) (T1 := T) (a_cons (T1 := T) (subE rfl rfl hle) (a_one rfl)) rfl)) rfl (p_middle_ok (sl_turn sl) (by omega) (by omega))).trans (by rw [m3])) (eF_of (x := .str (S (otherW (midW n d)))) (T1 := T) (callP_of (ds := [.str (S (midW n d))]) (T1 := T) rfl rfl (p_other_ok mb (by omega))) (q_rev (by rw [other_len]; omega))) (q_neS_f _))
    · exact ⟨.un, if_f (T1 := T) (bool_of (ch_of (x := .int 0) (T1 := T) rfl (lc_t (y := .int ((n : Nat) : Int)) (T1 := T) rfl (q_lt_t (by omega)) (lc_last (y := .int ((d : Nat) : Int)) rfl (q_lt_f (by omega)))))) rfl⟩
  · exact ⟨.un, if_f (T1 := T) (bool_of (ch_of (x := .int 0) (T1 := T) rfl (lc_f (y := .int ((n : Nat) : Int)) (T1 := T) rfl (q_lt_f (by omega))))) rfl⟩
theorem wr_17 (ck : Ck n d) (c c7 c8 c9 c10 c11 c12 c13 c14 : Cell) (T : Tp) (h0 : 0 ≤ T.idx) : ∃ c15 T', 0 ≤ T'.idx ∧ f_law_words_right_17 (W17 n d c c7 c8 c9 c10 c11 c12 c13 c14 .un) T = some (.nx (W17 n d c c7 c8 c9 c10 c11 c12 c13 c14 c15), T') := by
  have hp := sl.pos
  have hl : (rndW n d).length = d := lineW_len ..
  by_cases h4 : d ≤ 40
  · obtain ⟨b, T', hb, h1, e1⟩ := takeE (T := T) h0 (m := d) hp (by omega) (ρ := W17 n d c c7 c8 c9 c10 c11 c12 c13 c14 .un) (fa := eVar 3) rfl rfl
    refine ⟨.fr (.int ((b : Nat) : Int)), T', h1, if_t (T1 := T) (bool_of (e2_of (x := .int ((d : Nat) : Int)) (y := .int 40) rfl rfl (q_le_t (by omega)))) (seq_nx (ρ1 := W17 n d c c7 c8 c9 c10 c11 c12 c13 c14 (.fr (.int ((b : Nat) : Int)))) (T1 := T') (set_of e1) (if_f (T1 := T') ((or_f (T1 := T') ?_).trans ?_) rfl))⟩
    · refine bool_of (e2_of (x := slD n d) (y := slD n d) (T1 := T') (callP_of (ds := [.str (S ((rndW n d).drop b ++ (rndW n d).take b))]) (T1 := T') (a_one (e2_of (x := .str (S ((rndW n d).drop b))) (y := .str (S ((rndW n d).take b))) (T1 := T') (cut_of (x := .str (S (rndW n d))) (lo := some ((b : Nat) : Int)) (hi := none) (T1 := T') (T2 := T') rfl (o_of rfl) rfl ((q_cut (by omega)).trans (by rw [cut_from]))) (cut_of (x := .str (S (rndW n d))) (lo := none) (hi := some ((b : Nat) : Int)) (T1 := T') (T2 := T') rfl rfl (o_of rfl) ((q_cut (by omega)).trans (by rw [cut_to]))) (q_cat ?_))) rfl (slope_rot sl h4 (by omega))) rfl (q_ne_sl n d))
      rw [List.length_drop, List.length_take]; omega
    · exact bool_of (e2_of (x := slD n d) (y := slD n d) (T1 := T') (callP_of (ds := [.str (S (rndW n d).reverse)]) (T1 := T') (a_one (eF_of (x := .str (S (rndW n d))) (T1 := T') rfl (q_rev (by omega)))) rfl (slope_rev sl h4 ck.rev)) rfl (q_ne_sl n d))
  · exact ⟨.un, T, h0, if_f (T1 := T) (bool_of (e2_of (x := .int ((d : Nat) : Int)) (y := .int 40) rfl rfl (by rw [q_le, decide_eq_false (by omega)]))) rfl⟩
theorem wr_18 (c c7 c8 c9 c10 c11 c12 c13 c14 c15 : Cell) (T : Tp) : f_law_words_right_18 (W17 n d c c7 c8 c9 c10 c11 c12 c13 c14 c15) T = some (.rt (.bool true), T) := by
  refine ret_of (e2_of (x := .int ((coP d : Nat) : Int)) (y := .int ((coP d : Nat) : Int)) (T1 := T) (callP_of (ds := [.int ((d : Nat) : Int)]) (T1 := T) rfl rfl (p_coprimes_ok (by omega))) ?_ (q_eq_t rfl))
  refine call_of (ds := [.list (((List.range d).filter fun i => Nat.gcd (i + 1) d == 1).map fun i => .int ((i + 1 : Nat) : Int))]) (T1 := T) (a_one (lc_of (ds := (List.range d).map fun i => .int ((i + 1 : Nat) : Int)) (T1 := T) (T2 := T) ?_ (lcL_filter fun i hi => ⟨(W17 n d c c7 c8 c9 c10 c11 c12 c13 c14 c15).set 16 (.fr (.int ((i + 1 : Nat) : Int))), rfl, ?_, rfl⟩) (by rw [List.length_map, List.length_range]; omega))) ?_
  · refine (r2_of (k := 1) (l := ((d + 1 : Nat) : Int)) (T1 := T) (T2 := T) rfl (addE (b := 1) rfl rfl) (by decide) (ok62_nat (by omega))).trans ?_
    rw [show (((d + 1 : Nat) : Int) - 1).toNat = d by omega, rng1]
  · have hi := List.mem_range.mp hi
    refine bool_of (e2_of (x := .int ((Nat.gcd (i + 1) d : Nat) : Int)) (y := .int 1) (T1 := T) (callP_of (ds := [.int ((i + 1 : Nat) : Int), .int (d : Nat)]) (T1 := T) rfl rfl (p_lgcd_ok _ _ (by omega) (by omega))) rfl ?_)
    show some (PyData.bool (((Nat.gcd (i + 1) d : Nat) : Int) == 1)) = _
    congr 2
    cases h : Nat.gcd (i + 1) d == 1 with
    | true => rw [beq_iff_eq.mp h]; rfl
    | false =>
      have := beq_eq_false_iff_ne.mp h
      exact beq_eq_false_iff_ne.mpr (by omega)
  · show some (PyData.int ((((List.range d).filter fun i => Nat.gcd (i + 1) d == 1).map fun i => PyData.int ((i + 1 : Nat) : Int)).length : Nat)) = _
    rw [List.length_map]; rfl
theorem words_ok (ck : Ck n d) (hpc : ∀ m, 1 ≤ m → m < d → m < 9 → pcW (rndW n d ++ rndW n d) m = m + 1) (T : Tp) (h0 : 0 ≤ T.idx) : ∃ T', 0 ≤ T'.idx ∧ p_law_words_right [slD n d] T = some (.bool true, T') := by
  have hp := sl.pos
  have hl : (rndW n d).length = d := lineW_len ..
  obtain ⟨st, T1, hs, i1, e1⟩ := takeE (T := T) h0 (m := 200) (by decide) (by decide) (ρ := W17 n d (.fr (.str (S (rndW (d - n) d)))) .un .un .un .un .un .un .un .un .un) (fa := eC (.int 200)) rfl rfl
  obtain ⟨sz, T2, hz, i2, e2'⟩ := takeE (T := T1) i1 (m := 60) (by decide) (by decide) (ρ := W17 n d (.fr (.str (S (rndW (d - n) d)))) .un .un .un .un .un .un .un .un .un) (fa := eC (.int 60)) rfl rfl
  have hdiv : sz / d ≤ sz := Nat.div_le_self _ _
  obtain ⟨c8, e15⟩ := wr_15 sl hd hpc (.fr (.str (S (rndW (d - n) d)))) (.fr (.int (st : Nat))) (.fr (.int (sz : Nat))) (.fr (.str (S (lineW n d st sz)))) (.fr (.str (S ((List.replicate (sz / d + 2) (rndW n d)).flatten)))) (.fr (.int ((st % d : Nat) : Int))) (.fr (.int ((cnt (lineW n d st sz) : Nat) : Int))) (.fr (.str (S ((lineW n d st sz).take 40)))) T2
  obtain ⟨c14, e16⟩ := wr_16 sl hd ck (.fr (.str (S (rndW (d - n) d)))) (.fr (.int (st : Nat))) c8 (.fr (.str (S (lineW n d st sz)))) (.fr (.str (S ((List.replicate (sz / d + 2) (rndW n d)).flatten)))) (.fr (.int ((st % d : Nat) : Int))) (.fr (.int ((cnt (lineW n d st sz) : Nat) : Int))) (.fr (.str (S ((lineW n d st sz).take 40)))) T2
  obtain ⟨c15, T3, i3, e17⟩ := wr_17 sl hd ck (.fr (.str (S (rndW (d - n) d)))) (.fr (.int (st : Nat))) c8 (.fr (.str (S (lineW n d st sz)))) (.fr (.str (S ((List.replicate (sz / d + 2) (rndW n d)).flatten)))) (.fr (.int ((st % d : Nat) : Int))) (.fr (.int ((cnt (lineW n d st sz) : Nat) : Int))) (.fr (.str (S ((lineW n d st sz).take 40)))) c14 T2 i2
  refine ⟨T3, i3, bodyT_rt ?_⟩
  refine seq_nx (ρ1 := [.tp, .fr (slD n d), .fr (.int n), .fr (.int d), .un, .un, .un, .un, .un, .un, .un, .un, .un, .un, .un, .un, .un]) (T1 := T) (asg_of (d := slD n d) rfl (gtup_of rfl rfl)) ?_
  refine seq_nx (ρ1 := W17 n d .un .un .un .un .un .un .un .un .un .un) (T1 := T) (set_of (callP_of (ds := [slD n d]) (T1 := T) rfl rfl (p_round_ok sl))) ?_
  refine seq_nx (T1 := T) (wr_3 sl hd T) ?_
  refine seq_nx (ρ1 := W17 n d (.fr (.str (S (rndW (d - n) d)))) .un .un .un .un .un .un .un .un .un) (T1 := T) (set_of (callP_of (ds := [slD (d - n) d]) (T1 := T) (a_one (tup_of (ds := [.int ((d - n : Nat) : Int), .int ((d : Nat) : Int)]) (T1 := T) (a_cons (T1 := T) (subE rfl rfl sl.le) (a_one rfl)) rfl)) rfl (p_round_ok (sl_turn sl)))) ?_
  refine seq_nx (T1 := T) (wr_5 sl hd ck T) ?_
  refine seq_nx (ρ1 := W17 n d (.fr (.str (S (rndW (d - n) d)))) (.fr (.int (st : Nat))) (.fr (.int (sz : Nat))) .un .un .un .un .un .un .un) (T1 := T2) (par_of e1 e2') ?_
  refine seq_nx (ρ1 := W17 n d (.fr (.str (S (rndW (d - n) d)))) (.fr (.int (st : Nat))) (.fr (.int (sz : Nat))) (.fr (.str (S (lineW n d st sz)))) .un .un .un .un .un .un) (T1 := T2) (set_of (callP_of (ds := [slD n d, .int ((st : Nat) : Int), .int ((sz : Nat) : Int)]) (T1 := T2) rfl rfl (p_line_ok sl (by omega) (by omega)))) ?_
  refine seq_nx (ρ1 := W17 n d (.fr (.str (S (rndW (d - n) d)))) (.fr (.int (st : Nat))) (.fr (.int (sz : Nat))) (.fr (.str (S (lineW n d st sz)))) (.fr (.str (S ((List.replicate (sz / d + 2) (rndW n d)).flatten)))) .un .un .un .un .un) (T1 := T2) (set_of (e2_of (x := .str (S (rndW n d))) (y := .int ((sz / d + 2 : Nat) : Int)) (T1 := T2) rfl (addE (b := 2) (divE rfl rfl hp (by omega)) rfl) (q_mulS (by omega) (by omega)))) ?_
  refine seq_nx (ρ1 := W17 n d (.fr (.str (S (rndW (d - n) d)))) (.fr (.int (st : Nat))) (.fr (.int (sz : Nat))) (.fr (.str (S (lineW n d st sz)))) (.fr (.str (S ((List.replicate (sz / d + 2) (rndW n d)).flatten)))) (.fr (.int ((st % d : Nat) : Int))) .un .un .un .un) (T1 := T2) (set_of (modE (call_of (a_one rfl) rfl) rfl hp)) ?_
  refine seq_nx (T1 := T2) (wr_10 sl hd hs hz _ T2) ?_
  refine seq_nx (T1 := T2) (wr_11 sl hd hs hz _ _ _ T2) ?_
  refine seq_nx (T1 := T2) (wr_12 sl hd hz _ _ _ _ _ T2) ?_
  refine seq_nx (T1 := T2) (wr_13 sl hd hz _ _ _ _ _ _ T2) ?_
  refine seq_nx (T1 := T2) (wr_14 sl hd hz _ _ _ _ _ _ _ T2) ?_
  refine seq_nx (T1 := T2) e15 ?_
  refine seq_nx (T1 := T2) e16 ?_
  refine seq_nx (T1 := T3) e17 ?_
  exact wr_18 sl hd _ _ _ _ _ _ _ _ _ _ T3
end
end Dv

/-! M10: what the law asks of partial quotients. -/
namespace Dv
open PySem
theorem eqOkL_ints (k : Nat) : ∀ l : List Nat, eqOkL k (intL l) = true
  | [] => by unfold intL; simp only [List.map_nil, eqOkL]
  | a :: l => by
    have ih := eqOkL_ints k l
    unfold intL at *
    rw [List.map_cons]
    simp only [eqOkL, eqOk, ih, Bool.and_self]
theorem eqv_ints : ∀ l : List Nat, PyData.eqvAll (intL l) (intL l) = true
  | [] => by unfold intL; simp only [List.map_nil, PyData.eqvAll]
  | a :: l => by
    have ih := eqv_ints l
    unfold intL at *
    rw [List.map_cons]
    simp only [PyData.eqvAll, PyData.eqv, ih, beq_self_eq_true, Bool.and_self]
theorem q_ne_ints (l : List Nat) : qNe (.tuple (intL l)) (.tuple (intL l)) = some (.bool false) := by
  show (if (eqOk 8 (.tuple (intL l)) && eqOk 8 (.tuple (intL l))) = true then some (PyData.bool (!PyData.eqv (.tuple (intL l)) (.tuple (intL l)))) else none) = _
  have e : eqOk 8 (.tuple (intL l)) = true := by simp only [eqOk]; exact eqOkL_ints 7 l
  have e2 : PyData.eqv (.tuple (intL l)) (.tuple (intL l)) = true := by simp only [PyData.eqv]; exact eqv_ints l
  rw [e, e2]
  rfl
theorem q_maxT' {l : List Nat} (h : l ≠ []) : ∃ M : Nat, qMaxA [.tuple (intL l)] = some (.int ((M : Nat) : Int)) ∧ M ∈ l ∧ ∀ x ∈ l, x ≤ M := by
  cases l with
  | nil => exact absurd rfl h
  | cons a r =>
    have sp := mxL_spec (r.map fun i : Nat => ((i : Nat) : Int)) ((a : Nat) : Int)
    have e : ∃ M : Nat, mxL ((a : Nat) : Int) (r.map fun i : Nat => ((i : Nat) : Int)) = ((M : Nat) : Int) ∧ M ∈ a :: r := by
      rcases sp.1 with e | e
      · exact ⟨a, e, List.mem_cons_self⟩
      · obtain ⟨x, hx, e⟩ := List.mem_map.mp e
        exact ⟨x, e.symm, List.mem_cons_of_mem _ hx⟩
    obtain ⟨M, eM, hM⟩ := e
    refine ⟨M, ?_, hM, fun x hx => ?_⟩
    · show (none : Option D).or (match intsD (intL (a :: r)) with | some (m :: r) => some (PyData.int (mxL m r)) | _ => none) = _
      unfold intL
      rw [intsD_map (fun i : Nat => ((i : Nat) : Int)) (a :: r)]
      show some (PyData.int (mxL ((a : Nat) : Int) (r.map fun i : Nat => ((i : Nat) : Int)))) = _
      rw [eM]
    · rcases List.mem_cons.mp hx with rfl | hx
      · have := sp.2.1; omega
      · have := sp.2.2 _ (List.mem_map.mpr ⟨x, hx, rfl⟩); omega
theorem q_ixL {l : List Nat} {k : Nat} (h : k < l.length) : qIx (.tuple (intL l)) (.int ((k : Nat) : Int)) = some (.int ((l[k] : Nat) : Int)) := by
  show atD (intL l) ((k : Nat) : Int) = _
  unfold intL
  rw [at_nat (by rw [List.length_map]; exact h), List.getElem_map]
theorem cutD_from {α : Type} (w : List α) (i : Nat) : cutD w (some (i : Int)) none = w.drop i := by
  unfold cutD
  rw [HT.sIx_none, HT.sIx_nat]
  rcases Nat.le_total i w.length with h | h
  · rw [Nat.min_eq_left h, List.take_of_length_le (by rw [List.length_drop]; exact Nat.le_refl _)]
  · rw [Nat.min_eq_right h, Nat.sub_self, List.take_zero, List.drop_eq_nil_of_le h]
theorem q_cutT (l : List Nat) (i : Nat) : qCut (.tuple (intL l)) (some (i : Int)) none = some (.tuple (intL (l.drop i))) := by
  show some (PyData.tuple (cutD (intL l) (some (i : Int)) none)) = _
  rw [cutD_from]; unfold intL; rw [List.map_drop]
theorem q_addT (u v : List Nat) (h : u.length + v.length ≤ 16777216) : qAdd (.tuple (intL u)) (.tuple (intL v)) = some (.tuple (intL (u ++ v))) := by
  show (if ((intL u).length + (intL v).length).ble line24 = true then some (PyData.tuple (intL u ++ intL v)) else none) = _
  have e1 : (intL u).length = u.length := List.length_map ..
  have e2 : (intL v).length = v.length := List.length_map ..
  rw [e1, e2, if_pos (ble24 h)]
  unfold intL
  rw [List.map_append]
def P10 (n d : Nat) (c4 c5 c6 c7 c8 c9 : Cell) : Rho := [.tp, .fr (slD n d), .fr (.int n), .fr (.int d), c4, c5, c6, c7, c8, c9]
structure Qt (n d : Nat) : Prop where
  ne : 1 ≤ (partsW n d).length
  le : (partsW n d).length ≤ 12
  pos : ∀ a ∈ partsW n d, 1 ≤ a
  frm : (∀ a ∈ partsW n d, a ≤ 50) → fpN (partsW n d).reverse = (n, d) ∧ (fpN (partsW n d)).2 = d
  last : 1 < (partsW n d).length → 2 ≤ (partsW n d).getLastD 0
  up : partsW n (d + n) = (match partsW n d with | a :: r => (a + 1) :: r | [] => [])
  across : n < d → 2 < d → partsW (d - n) d = dueW (partsW n d) ∧ (2 ≤ (partsW n d).headD 0 ∨ 2 ≤ (partsW n d).length)
theorem qt_of {n d : Nat} (ck : Ck n d) (h : 1 ≤ n) : Qt n d := by
  have c := ck.quot
  unfold ckQuot at c
  rw [show (n == 0) = false from beq_eq_false_iff_ne.mpr (by omega), Bool.false_or] at c
  simp only [Bool.and_eq_true, Bool.or_eq_true, Nat.ble_eq, List.all_eq_true, Bool.not_eq_true', beq_iff_eq] at c
  obtain ⟨h1, h2, h3, h4, h5, h6, h7⟩ := c
  refine ⟨h1, h2, h3, fun ha => ?_, fun hl => ?_, h6, fun a b => ?_⟩
  · rcases h4 with h4 | h4
    · have : (partsW n d).all (fun a => Nat.ble a 50) = true := List.all_eq_true.mpr fun a z => Nat.ble_eq.mpr (ha a z)
      rw [h4] at this; cases this
    · exact h4
  · rcases h5 with h5 | h5
    · omega
    · exact h5
  · rcases h7 with h7 | h7 | h7
    · omega
    · omega
    · exact h7

theorem due_pos {a : Nat} {r : List Nat} (h : 1 < a) : dueW (a :: r) = 1 :: (a - 1) :: r := by
  show (if 1 < a then 1 :: (a - 1) :: r else match r with | b :: r => (1 + b) :: r | [] => []) = _
  rw [if_pos h]
theorem due_neg {a b : Nat} {r : List Nat} (h : ¬ 1 < a) : dueW (a :: b :: r) = (1 + b) :: r := by
  show (if 1 < a then 1 :: (a - 1) :: b :: r else (1 + b) :: r) = _
  rw [if_neg h]
theorem lenT {l : List Nat} {ρ : Rho} {i : Nat} {T : Tp} (hi : ρ[i]? = some (.fr (.tuple (intL l)))) : eCall qLen (aCons (eOwn i) aNil) ρ T = some (.int ((l.length : Nat) : Int), T) := by
  refine call_of (ds := [.tuple (intL l)]) (T1 := T) (a_one (by unfold eOwn; rw [hi])) ?_
  show some (PyData.int ((intL l).length : Nat)) = _
  have e1 : (intL l).length = l.length := List.length_map ..
  rw [e1]
theorem last_get {l : List Nat} (h : 1 ≤ l.length) : l[l.length - 1]'(by omega) = l.getLastD 0 := by
  have hne : l ≠ [] := by intro e; rw [e] at h; exact absurd h (by decide)
  rw [← List.getLast_eq_getElem hne]
  cases l with
  | nil => exact absurd rfl hne
  | cons a r => rw [List.getLastD_cons]; rw [List.getLast_eq_getLastD]
section
variable {n d : Nat} (sl : Sl n d) (hd : d ≤ 60) (hn : 1 ≤ n) (q : Qt n d)
include sl hd hn q
theorem from_ok (h : ∀ a ∈ partsW n d, a ≤ 50) : p_from_parts [.tuple (intL (partsW n d))] = some (slD n d) := by
  have hf := (q.frm h).1
  have := p_from_ok (row := partsW n d) q.ne q.le (fun a ha => ⟨q.pos a ha, h a ha⟩) (by rw [hf]; show d ≤ 1000; omega)
  rw [hf] at this
  exact this
theorem from_rev (h : ∀ a ∈ partsW n d, a ≤ 50) : ∃ m : Nat, p_from_parts [.tuple (intL (partsW n d).reverse)] = some (slD m d) := by
  have hf := (q.frm h).2
  have := p_from_ok (row := (partsW n d).reverse) (by rw [List.length_reverse]; exact q.ne) (by rw [List.length_reverse]; exact q.le) (fun a ha => ⟨q.pos a (List.mem_reverse.mp ha), h a (List.mem_reverse.mp ha)⟩) (by rw [List.reverse_reverse, hf]; omega)
  rw [List.reverse_reverse, hf] at this
  exact ⟨_, this⟩
theorem pr_4 (T : Tp) : f_law_parts_right_4 (P10 n d (.fr (.tuple (intL (partsW n d)))) .un .un .un .un .un) T = some (.nx (P10 n d (.fr (.tuple (intL (partsW n d)))) .un .un .un .un .un), T) := by
  have hne : partsW n d ≠ [] := by intro e; have := q.ne; rw [e] at this; exact absurd this (by decide)
  obtain ⟨M, m1, m2, m3⟩ := q_maxT' hne
  have hM : ∀ T, eCall qMaxA (aCons (eOwn 4) aNil) (P10 n d (.fr (.tuple (intL (partsW n d)))) .un .un .un .un .un) T = some (.int ((M : Nat) : Int), T) := fun T => call_of (a_one rfl) m1
  refine if_f (T1 := T) ((or_f (T1 := T) ?_).trans ?_) rfl
  · by_cases h : ∀ a ∈ partsW n d, a ≤ 50
    · exact (and_t (T1 := T) (bool_of (e2_of (x := .int ((M : Nat) : Int)) (y := .int 51) (T1 := T) (hM T) rfl (q_lt_t (by have := h M m2; omega))))).trans (bool_of (e2_of (x := slD n d) (y := slD n d) (T1 := T) (callP_of (ds := [.tuple (intL (partsW n d))]) (T1 := T) rfl rfl (from_ok sl hd hn q h)) rfl (q_ne_sl n d)))
    · have hM50 : ¬ M ≤ 50 := fun z => h fun a ha => Nat.le_trans (m3 a ha) z
      exact and_f (T1 := T) (bool_of (e2_of (x := .int ((M : Nat) : Int)) (y := .int 51) (T1 := T) (hM T) rfl (q_lt_f (by omega))))
  · have hl := q.ne
    by_cases h1 : 1 < (partsW n d).length
    · refine (and_t (T1 := T) (bool_of (e2_of (x := .int (((partsW n d).length : Nat) : Int)) (y := .int 1) (T1 := T) (lenT rfl) rfl (q_gt_t (by omega))))).trans ?_
      have hlast := q.last h1
      refine bool_of (e2_of (x := .int (((partsW n d).getLastD 0 : Nat) : Int)) (y := .int 2) (T1 := T) (e2_of (x := .tuple (intL (partsW n d))) (y := .int (((partsW n d).length - 1 : Nat) : Int)) (T1 := T) rfl (subE (b := 1) (lenT rfl) rfl (by omega)) ((q_ixL (by omega)).trans (by rw [last_get hl]))) rfl (q_lt_f (by omega)))
    · exact and_f (T1 := T) (bool_of (e2_of (x := .int (((partsW n d).length : Nat) : Int)) (y := .int 1) (T1 := T) (lenT rfl) rfl (q_gt_f (by omega))))
theorem sl_up : Sl n (d + n) := ⟨by omega, by omega, by have := sl.le; omega, by rw [Nat.add_comm]; rw [Nat.gcd_self_add_right]; exact sl.co⟩
theorem pr_6 (T : Tp) : f_law_parts_right_6 (P10 n d (.fr (.tuple (intL (partsW n d)))) (.fr (slD n (d + n))) .un .un .un .un) T = some (.nx (P10 n d (.fr (.tuple (intL (partsW n d)))) (.fr (slD n (d + n))) .un .un .un .un), T) := by
  have hu := q.up
  have hl := q.ne
  have hle := q.le
  have hp := p_parts_ok (sl_up sl hd hn q) hn
  rw [hu] at hp
  cases hr : partsW n d with
  | nil => rw [hr] at hl; exact absurd hl (by decide)
  | cons a r =>
    rw [hr] at hp hle
    have hrl : r.length ≤ 12 := by rw [List.length_cons] at hle; omega
    refine if_f (T1 := T) (bool_of (e2_of (x := .tuple (intL ((a + 1) :: r))) (y := .tuple (intL ((a + 1) :: r))) (T1 := T) (callP_of (ds := [slD n (d + n)]) (T1 := T) rfl rfl hp) (e2_of (x := .tuple (intL [a + 1])) (y := .tuple (intL r)) (T1 := T) (tup_of (ds := intL [a + 1]) (T1 := T) (a_one (addE (b := 1) (e2_of (x := .tuple (intL (a :: r))) (y := .int ((0 : Nat) : Int)) (T1 := T) rfl rfl (q_ixL (k := 0) (by rw [List.length_cons]; omega))) rfl)) rfl) (cut_of (x := .tuple (intL (a :: r))) (lo := some ((1 : Nat) : Int)) (hi := none) (T1 := T) (T2 := T) rfl (o_of rfl) rfl (q_cutT (a :: r) 1)) (q_addT [a + 1] r (by show 1 + _ ≤ _; omega))) (q_ne_ints _))) rfl
theorem pr_9 (ck : Ck n d) (T : Tp) (c4 : Cell) : ∃ c7, f_law_parts_right_8 (P10 n d c4 (.fr (slD n (d + n))) (.fr (.str (S (rndW n d)))) .un .un .un) T = some (.nx (P10 n d c4 (.fr (slD n (d + n))) (.fr (.str (S (rndW n d)))) c7 .un .un), T) ∧
    f_law_parts_right_9 (P10 n d c4 (.fr (slD n (d + n))) (.fr (.str (S (rndW n d)))) c7 .un .un) T = some (.nx (P10 n d c4 (.fr (slD n (d + n))) (.fr (.str (S (rndW n d)))) c7 .un .un), T) := by
  have hl : (rndW n d).length = d := lineW_len ..
  have hul : (rndW n (d + n)).length = d + n := lineW_len ..
  have hb := line_bin sl 0 d
  have hbu := line_bin (sl_up sl hd hn q) 0 (d + n)
  have hle := sl.le
  by_cases h4 : d ≤ 40
  · have c := ck.raise
    unfold ckRaise at c
    rw [show (n == 0) = false from beq_eq_false_iff_ne.mpr (by omega), Bool.false_or] at c
    have h41 : Nat.ble 41 d = false := by cases e : Nat.ble 41 d with | false => rfl | true => have := Nat.ble_eq.mp e; omega
    rw [h41, Bool.false_or, Bool.and_eq_true] at c
    obtain ⟨r1, r2⟩ := c
    have r1 := beq_iff_eq.mp r1
    refine ⟨.fr (.str (S (rndW n (d + n)))), set_of ((eif_t (T1 := T) (bool_of (e2_of (x := .int ((d : Nat) : Int)) (y := .int 41) (T1 := T) (lenE rfl hl (by omega)) rfl (q_lt_t (by omega))))).trans ((callP_of (ds := [.str (S (rndW n d))]) (T1 := T) rfl rfl (p_raised_ok hb (by omega))).trans (by rw [r1]))), ?_⟩
    refine if_t (T1 := T) (bool_of (e2_of (x := .str (S (rndW n (d + n)))) (y := .none) (T1 := T) rfl rfl rfl)) (if_f (T1 := T) ((or_f (T1 := T) (bool_of (e2_of (x := .str (S (rndW n (d + n)))) (y := .str (S (rndW n (d + n)))) (T1 := T) rfl (callP_of (ds := [slD n (d + n)]) (T1 := T) rfl rfl (p_round_ok (sl_up sl hd hn q))) (q_neS_f _)))).trans ?_) rfl)
    by_cases hu : d + n ≤ 40
    · have h41 : Nat.ble 41 (d + n) = false := by cases e : Nat.ble 41 (d + n) with | false => rfl | true => have := Nat.ble_eq.mp e; omega
      rw [h41, Bool.false_or, Bool.and_eq_true, Bool.and_eq_true, Bool.not_eq_true', Nat.ble_eq] at r2
      obtain ⟨l1, l2, l3⟩ := r2
      have l3 := beq_iff_eq.mp l3
      exact (and_t (T1 := T) (bool_of (e2_of (x := .int ((d + n : Nat) : Int)) (y := .int 41) (T1 := T) (lenE rfl hul (by omega)) rfl (q_lt_t (by omega))))).trans (bool_of (e2_of (x := .str (S (rndW n d))) (y := .str (S (rndW n d))) (T1 := T) ((callP_of (ds := [.str (S (rndW n (d + n)))]) (T1 := T) rfl rfl (p_lowered_ok hbu (by omega) l1 l2)).trans (by rw [l3])) rfl (q_neS_f _)))
    · exact and_f (T1 := T) (bool_of (e2_of (x := .int ((d + n : Nat) : Int)) (y := .int 41) (T1 := T) (lenE rfl hul (by omega)) rfl (q_lt_f (by omega))))
  · refine ⟨.fr .none, set_of ((eif_f (T1 := T) (bool_of (e2_of (x := .int ((d : Nat) : Int)) (y := .int 41) (T1 := T) (lenE rfl hl (by omega)) rfl (q_lt_f (by omega))))).trans rfl), if_f (T1 := T) (bool_of (e2_of (x := .none) (y := .none) (T1 := T) rfl rfl rfl)) rfl⟩
theorem pr_10 (T : Tp) (c5 c6 c7 : Cell) : ∃ c8 c9, f_law_parts_right_10 (P10 n d (.fr (.tuple (intL (partsW n d)))) c5 c6 c7 .un .un) T = some (.nx (P10 n d (.fr (.tuple (intL (partsW n d)))) c5 c6 c7 c8 c9), T) := by
  have hle := sl.le
  by_cases h1 : n < d
  · by_cases h2 : 2 < d
    · obtain ⟨ac, hd2⟩ := q.across h1 h2
      have hp := p_parts_ok (sl_turn sl) (show 1 ≤ d - n by omega)
      rw [ac] at hp
      have hq := q.le
      have hl := q.ne
      refine ⟨.fr (slD (d - n) d), .fr (.tuple (intL (dueW (partsW n d)))), if_t (T1 := T) ((and_t (T1 := T) (bool_of (e2_of (x := .int ((n : Nat) : Int)) (y := .int ((d : Nat) : Int)) rfl rfl (q_lt_t (by omega))))).trans (bool_of (e2_of (x := .int ((d : Nat) : Int)) (y := .int 2) rfl rfl (q_gt_t (by omega)))))
        (seq_nx (ρ1 := P10 n d (.fr (.tuple (intL (partsW n d)))) c5 c6 c7 (.fr (slD (d - n) d)) .un) (T1 := T) (set_of (tup_of (ds := [.int ((d - n : Nat) : Int), .int ((d : Nat) : Int)]) (T1 := T) (a_cons (T1 := T) (subE rfl rfl hle) (a_one rfl)) rfl))
        (seq_nx (ρ1 := P10 n d (.fr (.tuple (intL (partsW n d)))) c5 c6 c7 (.fr (slD (d - n) d)) (.fr (.tuple (intL (dueW (partsW n d)))))) (T1 := T) (set_of ?_) (if_f (T1 := T) (bool_of (e2_of (x := .tuple (intL (dueW (partsW n d)))) (y := .tuple (intL (dueW (partsW n d)))) (T1 := T) (callP_of (ds := [slD (d - n) d]) (T1 := T) rfl rfl hp) rfl (q_ne_ints _))) rfl)))⟩
      cases hr : partsW n d with
      | nil => rw [hr] at hl; exact absurd hl (by decide)
      | cons a r =>
        rw [hr] at hq hd2
        have hrl : r.length ≤ 12 := by rw [List.length_cons] at hq; omega
        have a0 : ∀ c8 T, e2 qIx (eOwn 4) (eC (.int 0)) (P10 n d (.fr (.tuple (intL (a :: r)))) c5 c6 c7 c8 .un) T = some (.int ((a : Nat) : Int), T) := fun c8 T => e2_of (x := .tuple (intL (a :: r))) (y := .int ((0 : Nat) : Int)) (T1 := T) rfl rfl (q_ixL (k := 0) (by rw [List.length_cons]; omega))
        by_cases ha : 1 < a
        · refine (eif_t (T1 := T) (bool_of (e2_of (x := .int ((a : Nat) : Int)) (y := .int 1) (T1 := T) (a0 _ T) rfl (q_gt_t (by omega))))).trans ?_
          refine (e2_of (x := .tuple (intL [1, a - 1])) (y := .tuple (intL r)) (T1 := T) (tup_of (ds := intL [1, a - 1]) (T1 := T) (a_cons (T1 := T) rfl (a_one (subE (b := 1) (a0 _ T) rfl (by omega)))) rfl) (cut_of (x := .tuple (intL (a :: r))) (lo := some ((1 : Nat) : Int)) (hi := none) (T1 := T) (T2 := T) rfl (o_of rfl) rfl (q_cutT (a :: r) 1)) (q_addT [1, a - 1] r (by show 2 + _ ≤ _; omega))).trans ?_
          rw [due_pos ha]; rfl
        · refine (eif_f (T1 := T) (bool_of (e2_of (x := .int ((a : Nat) : Int)) (y := .int 1) (T1 := T) (a0 _ T) rfl (q_gt_f (by omega))))).trans ?_
          have h2l : 2 ≤ (a :: r).length := by
            rcases hd2 with z | z
            · exact absurd z (by show ¬ 2 ≤ a; omega)
            · exact z
          cases hr2 : r with
          | nil => rw [hr2] at h2l; exact absurd h2l (by show ¬ 2 ≤ 1; decide)
          | cons b r2 =>
            rw [hr2] at hrl
            have hrl2 : r2.length ≤ 12 := by rw [List.length_cons] at hrl; omega
            refine (e2_of (x := .tuple (intL [1 + b])) (y := .tuple (intL r2)) (T1 := T) (tup_of (ds := intL [1 + b]) (T1 := T) (a_one (addE (a := 1) rfl (e2_of (x := .tuple (intL (a :: b :: r2))) (y := .int ((1 : Nat) : Int)) (T1 := T) rfl rfl (q_ixL (k := 1) (by rw [List.length_cons, List.length_cons]; omega))))) rfl) (cut_of (x := .tuple (intL (a :: b :: r2))) (lo := some ((2 : Nat) : Int)) (hi := none) (T1 := T) (T2 := T) rfl (o_of rfl) rfl (q_cutT (a :: b :: r2) 2)) (q_addT [1 + b] r2 (by show 1 + _ ≤ _; omega))).trans ?_
            rw [due_neg ha]; rfl
    · exact ⟨.un, .un, if_f (T1 := T) ((and_t (T1 := T) (bool_of (e2_of (x := .int ((n : Nat) : Int)) (y := .int ((d : Nat) : Int)) rfl rfl (q_lt_t (by omega))))).trans (bool_of (e2_of (x := .int ((d : Nat) : Int)) (y := .int 2) rfl rfl (q_gt_f (by omega))))) rfl⟩
  · exact ⟨.un, .un, if_f (T1 := T) (and_f (T1 := T) (bool_of (e2_of (x := .int ((n : Nat) : Int)) (y := .int ((d : Nat) : Int)) rfl rfl (q_lt_f (by omega))))) rfl⟩
theorem pr_11 (T : Tp) (c5 c6 c7 c8 c9 : Cell) : f_law_parts_right_11 (P10 n d (.fr (.tuple (intL (partsW n d)))) c5 c6 c7 c8 c9) T = some (.rt (.bool true), T) := by
  have hne : partsW n d ≠ [] := by intro e; have := q.ne; rw [e] at this; exact absurd this (by decide)
  obtain ⟨M, m1, m2, m3⟩ := q_maxT' hne
  have hM : eCall qMaxA (aCons (eOwn 4) aNil) (P10 n d (.fr (.tuple (intL (partsW n d)))) c5 c6 c7 c8 c9) T = some (.int ((M : Nat) : Int), T) := call_of (a_one rfl) m1
  refine ret_of ?_
  by_cases h : ∀ a ∈ partsW n d, a ≤ 50
  · refine (eor_f (T1 := T) (e2_of (x := .int ((M : Nat) : Int)) (y := .int 50) (T1 := T) hM rfl (q_gt_f (by have := h M m2; omega)))).trans ?_
    obtain ⟨m, hm⟩ := from_rev sl hd hn q h
    refine e2_of (x := .int ((d : Nat) : Int)) (y := .int ((d : Nat) : Int)) (T1 := T) (e2_of (x := slD m d) (y := .int 1) (T1 := T) (callP_of (ds := [.tuple (intL (partsW n d).reverse)]) (T1 := T) (a_one (eF_of (x := .tuple (intL (partsW n d))) (T1 := T) rfl ?_)) rfl hm) rfl rfl) rfl (q_eq_t rfl)
    show some (PyData.tuple (intL (partsW n d)).reverse) = _
    unfold intL
    rw [List.map_reverse]
  · have hM50 : ¬ M ≤ 50 := fun z => h fun a ha => Nat.le_trans (m3 a ha) z
    exact eor_t (T1 := T) (e2_of (x := .int ((M : Nat) : Int)) (y := .int 50) (T1 := T) hM rfl (q_gt_t (by omega)))
end
theorem parts_ok {n d : Nat} (sl : Sl n d) (hd : d ≤ 60) (ck : Ck n d) (T : Tp) : p_law_parts_right [slD n d] T = some (.bool true, T) := by
  by_cases hn : 1 ≤ n
  · have q := qt_of ck hn
    obtain ⟨c7, e8, e9⟩ := pr_9 sl hd hn q ck T (.fr (.tuple (intL (partsW n d))))
    obtain ⟨c8, c9, e10⟩ := pr_10 sl hd hn q T (.fr (slD n (d + n))) (.fr (.str (S (rndW n d)))) c7
    refine bodyT_rt ?_
    refine seq_nx (ρ1 := P10 n d .un .un .un .un .un .un) (T1 := T) (asg_of (d := slD n d) rfl (gtup_of rfl rfl)) ?_
    refine seq_nx (ρ1 := P10 n d .un .un .un .un .un .un) (T1 := T) (if_f (T1 := T) (bool_of (e2_of (x := .int ((n : Nat) : Int)) (y := .int 0) rfl rfl (q_eq_f (by omega)))) rfl) ?_
    refine seq_nx (ρ1 := P10 n d (.fr (.tuple (intL (partsW n d)))) .un .un .un .un .un) (T1 := T) (set_of (callP_of (ds := [slD n d]) (T1 := T) rfl rfl (p_parts_ok sl hn))) ?_
    refine seq_nx (T1 := T) (pr_4 sl hd hn q T) ?_
    refine seq_nx (ρ1 := P10 n d (.fr (.tuple (intL (partsW n d)))) (.fr (slD n (d + n))) .un .un .un .un) (T1 := T) (set_of (tup_of (ds := [.int ((n : Nat) : Int), .int ((d + n : Nat) : Int)]) (T1 := T) (a_cons (T1 := T) rfl (a_one (addE rfl rfl))) rfl)) ?_
    refine seq_nx (T1 := T) (pr_6 sl hd hn q T) ?_
    refine seq_nx (ρ1 := P10 n d (.fr (.tuple (intL (partsW n d)))) (.fr (slD n (d + n))) (.fr (.str (S (rndW n d)))) .un .un .un) (T1 := T) (set_of (callP_of (ds := [slD n d]) (T1 := T) rfl rfl (p_round_ok sl))) ?_
    refine seq_nx (T1 := T) e8 ?_
    refine seq_nx (T1 := T) e9 ?_
    refine seq_nx (T1 := T) e10 ?_
    exact pr_11 sl hd hn q T _ _ _ _ _
  · have e : n = 0 := by omega
    subst e
    refine bodyT_rt ?_
    refine seq_nx (ρ1 := P10 0 d .un .un .un .un .un .un) (T1 := T) (asg_of (d := slD 0 d) rfl (gtup_of rfl rfl)) ?_
    exact seq_rt (if_t (T1 := T) (bool_of (e2_of (x := .int ((0 : Nat) : Int)) (y := .int 0) rfl rfl (q_eq_t rfl))) (ret_of rfl))
end Dv

/-! M11: slopes that are neighbours. -/
namespace Dv
open PySem
structure Nb (p q p' q' : Nat) : Prop where
  det : p' * q = p * q' + 1
  q1 : 1 ≤ q
  q2 : 1 ≤ q'
  le1 : p ≤ q
  le2 : p' ≤ q'
theorem gcd_of_det {p q a b : Nat} (h : a * q = p * b + 1 ∨ b * p = q * a + 1) : Nat.gcd p q = 1 := by
  have h1 := Nat.gcd_dvd_left p q
  have h2 := Nat.gcd_dvd_right p q
  rcases h with h | h
  · have d1 : Nat.gcd p q ∣ a * q := Nat.dvd_mul_left_of_dvd h2 a
    have d2 : Nat.gcd p q ∣ p * b := Nat.dvd_mul_right_of_dvd h1 b
    rw [h] at d1
    exact Nat.dvd_one.mp ((Nat.dvd_add_right d2).mp d1)
  · have d1 : Nat.gcd p q ∣ b * p := Nat.dvd_mul_left_of_dvd h1 b
    have d2 : Nat.gcd p q ∣ q * a := Nat.dvd_mul_right_of_dvd h2 a
    rw [h] at d1
    exact Nat.dvd_one.mp ((Nat.dvd_add_right d2).mp d1)
section
variable {p q p' q' : Nat}
theorem Nb.one (h : Nb p q p' q') (hq : q ≤ 1000) : Sl p q := ⟨h.le1, h.q1, hq, gcd_of_det (a := p') (b := q') (.inl h.det)⟩
theorem Nb.other (h : Nb p q p' q') (hq : q' ≤ 1000) : Sl p' q' := ⟨h.le2, h.q2, hq, gcd_of_det (a := p) (b := q) (.inr (by have := h.det; rw [Nat.mul_comm q p', Nat.mul_comm q' p]; exact this))⟩
theorem Nb.left (h : Nb p q p' q') : Nb p q (p + p') (q + q') := ⟨by have := h.det; rw [Nat.add_mul, Nat.mul_add]; omega, h.q1, by have := h.q1; omega, h.le1, by have := h.le1; have := h.le2; omega⟩
theorem Nb.right (h : Nb p q p' q') : Nb (p + p') (q + q') p' q' := ⟨by have := h.det; rw [Nat.add_mul, Nat.mul_add]; omega, by have := h.q1; omega, h.q2, by have := h.le1; have := h.le2; omega, h.le2⟩
theorem fl_one (h : Nb p q p' q') {k : Nat} (hk : k ≤ q) : k * (p + p') / (q + q') = k * p / q := by
  have hq := h.q1
  have hq2 := h.q2
  have hd := Nat.div_add_mod (k * p) q
  have hr := Nat.mod_lt (k * p) hq
  generalize k * p / q = m at *
  generalize k * p % q = r at *
  have key : q * (k * (p + p')) = q * (m * (q + q')) + r * (q + q') + k := by
    have hdet := h.det
    grind
  have hr2 : (r + 1) * (q + q') ≤ q * (q + q') := Nat.mul_le_mul_right _ hr
  rw [Nat.add_mul, Nat.one_mul] at hr2
  refine Nat.div_eq_of_lt_le ?_ ?_
  · exact Nat.le_of_mul_le_mul_left (show q * (m * (q + q')) ≤ q * (k * (p + p')) by omega) hq
  · have e : q * ((m + 1) * (q + q')) = q * (m * (q + q')) + q * (q + q') := by rw [Nat.succ_mul, Nat.mul_add]
    exact Nat.lt_of_mul_lt_mul_left (show q * (k * (p + p')) < q * ((m + 1) * (q + q')) by omega)
theorem fl_two (h : Nb p q p' q') {j : Nat} (hj : j ≤ q') : (q + j) * (p + p') / (q + q') = p + j * p' / q' := by
  have hq := h.q1
  have hq2 := h.q2
  have hd := Nat.div_add_mod (j * p') q'
  have hr := Nat.mod_lt (j * p') hq2
  generalize j * p' / q' = m at *
  generalize j * p' % q' = r at *
  have key : q' * ((q + j) * (p + p')) + j = q' * ((p + m) * (q + q')) + r * (q + q') + q' := by
    have hdet := h.det
    grind
  have hr2 : (r + 1) * (q + q') ≤ q' * (q + q') := Nat.mul_le_mul_right _ hr
  rw [Nat.add_mul, Nat.one_mul] at hr2
  refine Nat.div_eq_of_lt_le ?_ ?_
  · exact Nat.le_of_mul_le_mul_left (show q' * ((p + m) * (q + q')) ≤ q' * ((q + j) * (p + p')) by omega) hq2
  · have e : q' * ((p + m + 1) * (q + q')) = q' * ((p + m) * (q + q')) + q' * (q + q') := by rw [Nat.succ_mul, Nat.mul_add]
    exact Nat.lt_of_mul_lt_mul_left (show q' * ((q + j) * (p + p')) < q' * ((p + m + 1) * (q + q')) by omega)
theorem cat_rnd (h : Nb p q p' q') : rndW (p + p') (q + q') = rndW p q ++ rndW p' q' := by
  have e := line_app (p + p') (q + q') 0 q q'
  rw [Nat.zero_add] at e
  unfold rndW
  rw [e]
  congr 1
  · unfold lineW
    apply List.map_congr_left
    intro k hk
    have hk := List.mem_range.mp hk
    rw [Nat.zero_add]
    unfold dig
    rw [fl_one h (by omega : k + 1 ≤ q), fl_one h (by omega : k ≤ q)]
  · unfold lineW
    apply List.map_congr_left
    intro j hj
    have hj := List.mem_range.mp hj
    rw [Nat.zero_add]
    unfold dig
    rw [show q + j + 1 = q + (j + 1) by omega, fl_two h (by omega : j + 1 ≤ q'), fl_two h (by omega : j ≤ q')]
    congr 1
    omega
end

/-! ### _law_neighbours, _law_between_right -/
theorem Nb.mid (h : Nb p q p' q') (h1 : q ≤ 60) (h2 : q' ≤ 60) : Sl (p + p') (q + q') := h.left.other (by omega)
def nbSt (p q p' q' : Nat) (c4 c5 : Cell) : Rho := [.tp, .fr (.int 60), .fr (slD p q), .fr (slD p' q'), c4, c5]
theorem tup2 {ρ : Rho} {T : Tp} {a b : Nat} {fa fb : FE} (ha : fa ρ T = some (.int (a : Nat), T)) (hb : fb ρ T = some (.int (b : Nat), T)) : eTup (aCons fa (aCons fb aNil)) ρ T = some (slD a b, T) := tup_of (ds := [.int ((a : Nat) : Int), .int ((b : Nat) : Int)]) (T1 := T) (a_cons (T1 := T) ha (a_one hb)) rfl
def bNb : FS := sSeq (sSet 5 (eTup (aCons (e2 qAdd (e2 qIx (eOwn 2) (eC (.int 0))) (e2 qIx (eOwn 3) (eC (.int 0)))) (aCons (e2 qAdd (e2 qIx (eOwn 2) (eC (.int 1))) (e2 qIx (eOwn 3) (eC (.int 1)))) aNil))))
    (sSeq (sIf (tBool (e2 qGt (e2 qIx (eOwn 5) (eC (.int 1))) (eOwn 1))) sBreak sSkip)
    (sIf (tBool (e2 qEq (eCallT 0 1 p_law_take (aCons (eC (.int 2)) aNil)) (eC (.int 0)))) (sSet 2 (eVar 5)) (sSet 3 (eVar 5))))
theorem nb_loop : ∀ (xs : List D) (p q p' q' : Nat) (c4 c5 : Cell) (T : Tp), Nb p q p' q' → q ≤ 60 → q' ≤ 60 → 0 ≤ T.idx → ∃ p2 q2 p2' q2' c4' c5' T', Nb p2 q2 p2' q2' ∧ q2 ≤ 60 ∧ q2' ≤ 60 ∧ 0 ≤ T'.idx ∧ forL (gSet 4) bNb xs (nbSt p q p' q' c4 c5) T = some (.nx (nbSt p2 q2 p2' q2' c4' c5'), T')
  | [], p, q, p', q', c4, c5, T, h, h1, h2, h0 => ⟨p, q, p', q', c4, c5, T, h, h1, h2, h0, rfl⟩
  | x :: xs, p, q, p', q', c4, c5, T, h, h1, h2, h0 => by
    have s1 : sSet 5 (eTup (aCons (e2 qAdd (e2 qIx (eOwn 2) (eC (.int 0))) (e2 qIx (eOwn 3) (eC (.int 0)))) (aCons (e2 qAdd (e2 qIx (eOwn 2) (eC (.int 1))) (e2 qIx (eOwn 3) (eC (.int 1)))) aNil))) (nbSt p q p' q' (.fr x) c5) T = some (.nx (nbSt p q p' q' (.fr x) (.fr (slD (p + p') (q + q')))), T) :=
      set_of (tup2 (addE (a := p) (b := p') rfl rfl) (addE (a := q) (b := q') rfl rfl))
    by_cases hm : q + q' ≤ 60
    · obtain ⟨r, T1, hr, i1, e1⟩ := takeE (T := T) h0 (m := 2) (by decide) (by decide) (ρ := nbSt p q p' q' (.fr x) (.fr (slD (p + p') (q + q')))) (fa := eC (.int 2)) rfl rfl
      have s2 : sIf (tBool (e2 qGt (e2 qIx (eOwn 5) (eC (.int 1))) (eOwn 1))) sBreak sSkip (nbSt p q p' q' (.fr x) (.fr (slD (p + p') (q + q')))) T = some (.nx (nbSt p q p' q' (.fr x) (.fr (slD (p + p') (q + q')))), T) :=
        if_f (T1 := T) (bool_of (e2_of (x := .int ((q + q' : Nat) : Int)) (y := .int 60) (T1 := T) rfl rfl (q_gt_f (by omega)))) rfl
      by_cases hz : r = 0
      · subst hz
        obtain ⟨p2, q2, p2', q2', c4', c5', T', a1, a2, a3, a4, a5⟩ := nb_loop xs (p + p') (q + q') p' q' (.fr x) (.fr (slD (p + p') (q + q'))) T1 h.right hm h2 i1
        exact ⟨p2, q2, p2', q2', c4', c5', T', a1, a2, a3, a4, for_cons (ρ1 := nbSt p q p' q' (.fr x) c5) (ρ2 := nbSt (p + p') (q + q') p' q' (.fr x) (.fr (slD (p + p') (q + q')))) rfl (seq_nx s1 (seq_nx s2 (if_t (T1 := T1) (bool_of (e2_of (x := .int ((0 : Nat) : Int)) (y := .int 0) (T1 := T1) e1 rfl (q_eq_t rfl))) (set_of (T1 := T1) rfl)))) a5⟩
      · obtain ⟨p2, q2, p2', q2', c4', c5', T', a1, a2, a3, a4, a5⟩ := nb_loop xs p q (p + p') (q + q') (.fr x) (.fr (slD (p + p') (q + q'))) T1 h.left h1 hm i1
        exact ⟨p2, q2, p2', q2', c4', c5', T', a1, a2, a3, a4, for_cons (ρ1 := nbSt p q p' q' (.fr x) c5) (ρ2 := nbSt p q (p + p') (q + q') (.fr x) (.fr (slD (p + p') (q + q')))) rfl (seq_nx s1 (seq_nx s2 (if_f (T1 := T1) (bool_of (e2_of (x := .int ((r : Nat) : Int)) (y := .int 0) (T1 := T1) e1 rfl (q_eq_f (by omega)))) (set_of (T1 := T1) rfl)))) a5⟩
    · exact ⟨p, q, p', q', .fr x, .fr (slD (p + p') (q + q')), T, h, h1, h2, h0, for_bk (ρ1 := nbSt p q p' q' (.fr x) c5) rfl (seq_nx s1 (seq_bk (if_t (T1 := T) (bool_of (e2_of (x := .int ((q + q' : Nat) : Int)) (y := .int 60) (T1 := T) rfl rfl (q_gt_t (by omega)))) rfl)))⟩
theorem nbrs_ok (T : Tp) (h0 : 0 ≤ T.idx) : ∃ p q p' q' T', Nb p q p' q' ∧ q ≤ 60 ∧ q' ≤ 60 ∧ 0 ≤ T'.idx ∧ p_law_neighbours [.int 60] T = some (.tuple [slD p q, slD p' q'], T') := by
  obtain ⟨r, T1, hr, i1, e1⟩ := takeE (T := T) h0 (m := 12) (by decide) (by decide) (ρ := nbSt 0 1 1 1 .un .un) (fa := eC (.int 12)) rfl rfl
  obtain ⟨p, q, p', q', c4, c5, T2, a1, a2, a3, a4, a5⟩ := nb_loop (rngD 0 r) 0 1 1 1 .un .un T1 ⟨rfl, by decide, by decide, by decide, by decide⟩ (by decide) (by decide) i1
  refine ⟨p, q, p', q', T2, a1, a2, a3, a4, bodyT_rt (seq_nx (ρ1 := nbSt 0 1 1 1 .un .un) (T1 := T) (asg_of (d := .tuple [slD 0 1, slD 1 1]) rfl (gtup_of rfl rfl)) (seq_nx (ρ1 := nbSt p q p' q' c4 c5) (T1 := T2) (for_of (ds := rngD 0 r) (T1 := T1) ?_ a5) (ret_of rfl)))⟩
  exact (r1_of (k := ((r : Nat) : Int)) e1 (ok62_nat (by omega))).trans (by rw [Int.toNat_natCast])
def B7 (p q p' q' : Nat) (c3 c4 c5 c6 : Cell) : Rho := [.tp, .fr (slD p q), .fr (slD p' q'), c3, c4, c5, c6]
theorem between_ok (T : Tp) (h0 : 0 ≤ T.idx) : ∃ T', 0 ≤ T'.idx ∧ p_law_between_right [] T = some (.bool true, T') := by
  obtain ⟨p, q, p', q', T1, h, h1, h2, i1, e1⟩ := nbrs_ok T h0
  have sm := h.mid h1 h2
  have so := h.one (by omega)
  have st := h.other (by omega)
  have w := cat_rnd h
  have wl := cat_rnd h.left
  have wr := cat_rnd h.right
  have hq := h.q1
  have hq2 := h.q2
  have l1 : (rndW p q).length = q := lineW_len ..
  have l2 : (rndW p' q').length = q' := lineW_len ..
  have lm : (rndW (p + p') (q + q')).length = q + q' := lineW_len ..
  have sl1 : Sl (p + (p + p')) (q + (q + q')) := h.left.left.other (by omega)
  have sr1 : Sl (p + p' + p') (q + q' + q') := h.right.right.one (by omega)
  have hdet := h.det
  refine ⟨T1, i1, bodyT_rt ?_⟩
  refine seq_nx (ρ1 := B7 p q p' q' .un .un .un .un) (T1 := T1) (asg_of (d := .tuple [slD p q, slD p' q']) (T1 := T1) (callT_of (ds := [.int 60]) (T1 := T) rfl rfl rfl e1) (gtup_of rfl rfl)) ?_
  refine seq_nx (ρ1 := B7 p q p' q' (.fr (slD (p + p') (q + q'))) .un .un .un) (T1 := T1) (set_of (tup2 (addE (a := p) (b := p') rfl rfl) (addE (a := q) (b := q') rfl rfl))) ?_
  refine seq_nx (ρ1 := B7 p q p' q' (.fr (slD (p + p') (q + q'))) (.fr (.str (S (rndW (p + p') (q + q'))))) .un .un) (T1 := T1) (set_of ((e2_of (x := .str (S (rndW p q))) (y := .str (S (rndW p' q'))) (T1 := T1) (callP_of (ds := [slD p q]) (T1 := T1) rfl rfl (p_round_ok so)) (callP_of (ds := [slD p' q']) (T1 := T1) rfl rfl (p_round_ok st)) (q_cat (by omega))).trans (by rw [w]))) ?_
  refine seq_nx (ρ1 := B7 p q p' q' (.fr (slD (p + p') (q + q'))) (.fr (.str (S (rndW (p + p') (q + q'))))) .un .un) (T1 := T1) (if_f (T1 := T1) ((or_f (T1 := T1) (bool_of (e2_of (x := .int 1) (y := .int 1) (T1 := T1) ((subE (a := p' * q) (b := p * q') (mulE rfl rfl (by omega)) (mulE rfl rfl (by omega)) (by omega)).trans (by rw [show p' * q - p * q' = 1 by omega]; rfl)) rfl (q_ne_f rfl)))).trans
    (bool_of (e2_of (x := .str (S (rndW (p + p') (q + q')))) (y := .str (S (rndW (p + p') (q + q')))) (T1 := T1) (callP_of (ds := [slD (p + p') (q + q')]) (T1 := T1) rfl rfl (p_round_ok sm)) rfl (q_neS_f _)))) rfl) ?_
  refine seq_nx (ρ1 := B7 p q p' q' (.fr (slD (p + p') (q + q'))) (.fr (.str (S (rndW (p + p') (q + q'))))) (.fr (slD (p + (p + p')) (q + (q + q')))) (.fr (slD (p + p' + p') (q + q' + q')))) (T1 := T1) (par_of (tup2 (addE (a := p) (b := p + p') rfl rfl) (addE (a := q) (b := q + q') rfl rfl)) (tup2 (addE (a := p + p') (b := p') rfl rfl) (addE (a := q + q') (b := q') rfl rfl))) ?_
  refine seq_nx (ρ1 := B7 p q p' q' (.fr (slD (p + p') (q + q'))) (.fr (.str (S (rndW (p + p') (q + q'))))) (.fr (slD (p + (p + p')) (q + (q + q')))) (.fr (slD (p + p' + p') (q + q' + q')))) (T1 := T1) (if_f (T1 := T1) ((or_f (T1 := T1)
    (bool_of (e2_of (x := .str (S (rndW (p + (p + p')) (q + (q + q'))))) (y := .str (S (rndW (p + (p + p')) (q + (q + q'))))) (T1 := T1) (callP_of (ds := [slD (p + (p + p')) (q + (q + q'))]) (T1 := T1) rfl rfl (p_round_ok sl1)) ((e2_of (x := .str (S (rndW p q))) (y := .str (S (rndW (p + p') (q + q')))) (T1 := T1) (callP_of (ds := [slD p q]) (T1 := T1) rfl rfl (p_round_ok so)) rfl (q_cat (by omega))).trans (by rw [wl])) (q_neS_f _)))).trans
    (bool_of (e2_of (x := .str (S (rndW (p + p' + p') (q + q' + q')))) (y := .str (S (rndW (p + p' + p') (q + q' + q')))) (T1 := T1) (callP_of (ds := [slD (p + p' + p') (q + q' + q')]) (T1 := T1) rfl rfl (p_round_ok sr1)) ((e2_of (x := .str (S (rndW (p + p') (q + q')))) (y := .str (S (rndW p' q'))) (T1 := T1) rfl (callP_of (ds := [slD p' q']) (T1 := T1) rfl rfl (p_round_ok st)) (q_cat (by omega))).trans (by rw [wr])) (q_neS_f _)))) rfl) ?_
  by_cases h4 : q + q' ≤ 40
  · refine seq_nx (ρ1 := B7 p q p' q' (.fr (slD (p + p') (q + q'))) (.fr (.str (S (rndW (p + p') (q + q'))))) (.fr (slD (p + (p + p')) (q + (q + q')))) (.fr (slD (p + p' + p') (q + q' + q')))) (T1 := T1) (if_f (T1 := T1) ((and_t (T1 := T1) (bool_of (e2_of (x := .int ((q + q' : Nat) : Int)) (y := .int 41) (T1 := T1) (lenE rfl lm (by omega)) rfl (q_lt_t (by omega))))).trans (bool_of (e2_of (x := slD (p + p') (q + q')) (y := slD (p + p') (q + q')) (T1 := T1) (callP_of (ds := [.str (S (rndW (p + p') (q + q')))]) (T1 := T1) rfl rfl (slope_rnd sm h4)) rfl (q_ne_sl _ _)))) rfl) ?_
    refine ret_of ((eor_f (T1 := T1) (e2_of (x := .int ((q + q' : Nat) : Int)) (y := .int 40) (T1 := T1) (lenE rfl lm (by omega)) rfl (q_gt_f (by omega)))).trans ?_)
    have rot := slope_rot sm h4 (show q ≤ q + q' by omega)
    rw [w, List.drop_append_of_le_length (by omega), List.drop_of_length_le (by omega), List.nil_append, List.take_append_of_le_length (by omega), List.take_of_length_le (by omega)] at rot
    refine e2_of (x := slD (p + p') (q + q')) (y := slD (p + p') (q + q')) (T1 := T1) (callP_of (ds := [.str (S (rndW p' q' ++ rndW p q))]) (T1 := T1) (a_one (e2_of (x := .str (S (rndW p' q'))) (y := .str (S (rndW p q))) (T1 := T1) (callP_of (ds := [slD p' q']) (T1 := T1) rfl rfl (p_round_ok st)) (callP_of (ds := [slD p q]) (T1 := T1) rfl rfl (p_round_ok so)) (q_cat (by omega)))) rfl rot) rfl ?_
    show (if (eqOk 8 (slD (p + p') (q + q')) && eqOk 8 (slD (p + p') (q + q'))) = true then some (PyData.bool (PyData.eqv (slD (p + p') (q + q')) (slD (p + p') (q + q')))) else none) = _
    have e : eqOk 8 (slD (p + p') (q + q')) = true := by unfold slD; simp only [eqOk, eqOkL, Bool.and_self]
    rw [e]
    show some (PyData.bool (PyData.eqv (slD (p + p') (q + q')) (slD (p + p') (q + q')))) = _
    congr 2
    unfold slD
    simp [PyData.eqv, PyData.eqvAll]
  · refine seq_nx (ρ1 := B7 p q p' q' (.fr (slD (p + p') (q + q'))) (.fr (.str (S (rndW (p + p') (q + q'))))) (.fr (slD (p + (p + p')) (q + (q + q')))) (.fr (slD (p + p' + p') (q + q' + q')))) (T1 := T1) (if_f (T1 := T1) (and_f (T1 := T1) (bool_of (e2_of (x := .int ((q + q' : Nat) : Int)) (y := .int 41) (T1 := T1) (lenE rfl lm (by omega)) rfl (q_lt_f (by omega))))) rfl) ?_
    exact ret_of (eor_t (T1 := T1) (e2_of (x := .int ((q + q' : Nat) : Int)) (y := .int 40) (T1 := T1) (lenE rfl lm (by omega)) rfl (q_gt_t (by omega))))
end Dv

/-! M12: standard words. -/
namespace Dv
open PySem
def stepW (k a : Nat) (b w : Wd) : Wd := (List.replicate (if k == 0 then a - 1 else a) w).flatten ++ b
def stdF : Nat → Wd → Wd → List Nat → Wd
  | _, _, w, [] => w
  | k, b, w, a :: l => stdF (k + 1) w (stepW k a b w) l
def stdW (row : List Nat) : Wd := stdF 0 [49] [48] row
theorem rep_len (m : Nat) (w : Wd) : ((List.replicate m w).flatten).length = m * w.length := by
  induction m with
  | zero => rw [Nat.zero_mul]; rfl
  | succ m ih => rw [List.replicate_succ, List.flatten_cons, List.length_append, ih, Nat.succ_mul, Nat.add_comm]
theorem step_len {k a m : Nat} {b w : Wd} (ha : a ≤ 3) (hb : b.length ≤ m) (hw : w.length ≤ m) : (stepW k a b w).length ≤ m * 4 := by
  unfold stepW
  rw [List.length_append, rep_len]
  have h : (if k == 0 then a - 1 else a) ≤ 3 := by split <;> omega
  have h2 : (if k == 0 then a - 1 else a) * w.length ≤ 3 * m := Nat.mul_le_mul h hw
  omega
def bStd : FS := sSeq (sPar 2 3 (eVar 3) (e2 qAdd (e2 qMul (eOwn 3) (eIf (tBool (e2 qEq (eOwn 4) (eC (.int 0)))) (e2 qSub (eOwn 1) (eC (.int 1))) (eVar 1))) (eOwn 2)))
    (sIf (tBool (e2 qGt (eCall qLen (aCons (eOwn 3) aNil)) (eC (.int 3000)))) sNever sSkip)
theorem std_loop (row : D) (T : Tp) : ∀ (l : List Nat) (k m : Nat) (b w : Wd) (c1 c4 : Cell), (∀ a ∈ l, 1 ≤ a ∧ a ≤ 3) → b.length ≤ m → w.length ≤ m → m * 4 ^ l.length ≤ 3000 → ∃ c1' c4' b', forL (gTupD 2 (gsCons (gSet 4) (gsCons (gSet 1) gsNil))) bStd (enumD k (intL l)) [.fr row, c1, .fr (.str (S b)), .fr (.str (S w)), c4] T =
    some (.nx [.fr row, c1', .fr (.str (S b')), .fr (.str (S (stdF k b w l))), c4'], T)
  | [], k, m, b, w, c1, c4, _, _, _, _ => ⟨c1, c4, b, rfl⟩
  | a :: l, k, m, b, w, c1, c4, ha, hb, hw, hm => by
    obtain ⟨a1, a2⟩ := ha a List.mem_cons_self
    have hp : 1 ≤ 4 ^ l.length := Nat.pow_pos (by decide)
    have hm2 : m * 4 * 4 ^ l.length ≤ 3000 := by rw [List.length_cons, Nat.pow_succ, Nat.mul_comm (4 ^ l.length), ← Nat.mul_assoc] at hm; exact hm
    have hm3 : m * 4 ≤ m * 4 * 4 ^ l.length := Nat.le_mul_of_pos_right _ hp
    have sl := step_len (k := k) a2 hb hw
    obtain ⟨c1', c4', b', ih⟩ := std_loop row T l (k + 1) (m * 4) w (stepW k a b w) (.fr (.int ((a : Nat) : Int))) (.fr (.int ((k : Nat) : Int))) (fun x hx => ha x (List.mem_cons_of_mem _ hx)) (by omega) sl hm2
    have fac : eIf (tBool (e2 qEq (eOwn 4) (eC (.int 0)))) (e2 qSub (eOwn 1) (eC (.int 1))) (eVar 1) [.fr row, .fr (.int ((a : Nat) : Int)), .fr (.str (S b)), .fr (.str (S w)), .fr (.int ((k : Nat) : Int))] T = some (.int (((if k == 0 then a - 1 else a) : Nat) : Int), T) := by
      by_cases hk : k = 0
      · rw [if_pos (beq_iff_eq.mpr hk)]
        exact (eif_t (T1 := T) (bool_of (e2_of (x := .int ((k : Nat) : Int)) (y := .int 0) (T1 := T) rfl rfl (q_eq_t (by omega))))).trans (subE (b := 1) rfl rfl a1)
      · rw [if_neg fun z => hk (beq_iff_eq.mp z)]
        exact (eif_f (T1 := T) (bool_of (e2_of (x := .int ((k : Nat) : Int)) (y := .int 0) (T1 := T) rfl rfl (q_eq_f (by omega))))).trans rfl
    have hf : (if k == 0 then a - 1 else a) ≤ 3 := by split <;> omega
    refine ⟨c1', c4', b', for_cons (ρ1 := [.fr row, .fr (.int ((a : Nat) : Int)), .fr (.str (S b)), .fr (.str (S w)), .fr (.int ((k : Nat) : Int))]) (ρ2 := [.fr row, .fr (.int ((a : Nat) : Int)), .fr (.str (S w)), .fr (.str (S (stepW k a b w))), .fr (.int ((k : Nat) : Int))]) (gtup_of (ds := [.int ((k : Nat) : Int), .int ((a : Nat) : Int)]) rfl rfl)
      (seq_nx (ρ1 := [.fr row, .fr (.int ((a : Nat) : Int)), .fr (.str (S w)), .fr (.str (S (stepW k a b w))), .fr (.int ((k : Nat) : Int))]) (T1 := T) (par_of (x := .str (S w)) (y := .str (S (stepW k a b w))) (T1 := T) rfl (e2_of (x := .str (S ((List.replicate (if k == 0 then a - 1 else a) w).flatten))) (y := .str (S b)) (T1 := T) (e2_of (x := .str (S w)) (T1 := T) rfl fac (q_mulS (by omega) (by omega))) rfl (q_cat ?_)))
        (if_f (T1 := T) (bool_of (e2_of (x := .int (((stepW k a b w).length : Nat) : Int)) (y := .int 3000) (T1 := T) (lenE rfl rfl (by omega)) rfl (q_gt_f (by omega)))) rfl)) ih⟩
    have : (stepW k a b w).length = ((List.replicate (if k == 0 then a - 1 else a) w).flatten).length + b.length := List.length_append
    omega
structure Row (row : List Nat) : Prop where
  ne : 1 ≤ row.length
  le : row.length ≤ 5
  bd : ∀ a ∈ row, 1 ≤ a ∧ a ≤ 3
theorem pow5 {l : Nat} (h : l ≤ 5) : 1 * 4 ^ l ≤ 3000 := by
  have : 4 ^ l ≤ 4 ^ 5 := Nat.pow_le_pow_right (by decide) h
  have : (4 : Nat) ^ 5 = 1024 := by decide
  omega
theorem p_std_ok {row : List Nat} (h : Row row) : p_standard [.tuple (intL row)] = some (.str (S (stdW row))) := by
  have hl : (intL row).length = row.length := List.length_map ..
  have h1 := h.ne
  have h2 := h.le
  obtain ⟨c1, c4, b', loop⟩ := std_loop (.tuple (intL row)) T0 row 0 1 [49] [48] .un .un h.bd (by decide) (by decide) (pow5 h2)
  refine bodyP_rt (T1 := T0) (seq_nx (ρ1 := [.fr (.tuple (intL row)), .un, .un, .un, .un]) (T1 := T0) (if_f (T1 := T0) ?_ rfl)
    (seq_nx (ρ1 := [.fr (.tuple (intL row)), .un, .fr (.str (S [49])), .fr (.str (S [48])), .un]) (T1 := T0) (asg_of (d := .tuple [.str (S [49]), .str (S [48])]) rfl (gtup_of rfl rfl))
    (seq_nx (T1 := T0) (for_of (ds := enumD 0 (intL row)) (T1 := T0) rfl loop) (ret_of rfl))))
  refine (or_f (T1 := T0) (not_of (b := true) (bool_of (ch_of (x := .int 1) (T1 := T0) rfl (lc_t (y := .int ((row.length : Nat) : Int)) (T1 := T0) (lenT rfl) (q_le_t (by omega)) (lc_last (y := .int 8) rfl (q_le_t (by omega)))))))).trans ?_
  refine not_of (b := true) (tru_of (d := .bool true) (call_of (ds := [.list (row.map fun a => .bool true)]) (T1 := T0) (a_one (lc_of (ds := intL row) (T1 := T0) (seq_i rfl rfl) (lcL_map (src := fun i : Nat => PyData.int ((i : Nat) : Int)) fun a ha => ⟨[.fr (.tuple (intL row)), .fr (.int ((a : Nat) : Int)), .un, .un, .un], rfl, rfl, ?_⟩) (by rw [hl]; omega))) ?_) rfl)
  · have ha := h.bd a ha
    exact ch_of (x := .int 1) (T1 := T0) rfl (lc_t (y := .int ((a : Nat) : Int)) (T1 := T0) rfl (q_le_t (by omega)) (lc_last (y := .int 9) rfl (q_le_t (by omega))))
  · unfold qAll q1
    simp only [boolsD_map (fun _ : Nat => true) row]
    congr 2
    rw [List.all_eq_true]
    intro x hx
    obtain ⟨_, _, e⟩ := List.mem_map.mp hx
    exact e.symm
def S8 (row : List Nat) (c2 : Cell) (w : Wd) (c4 c5 c6 : Cell) : Rho := [.tp, .fr (.tuple (intL row)), c2, .fr (.str (S w)), c4, c5, c6, .un]
def bStd2 : FS := sPar 4 5 (eVar 5) (e2 qAdd (e2 qMul (eOwn 5) (e2 qSub (e2 qIx (eOwn 1) (eOwn 2)) (eIf (tBool (e2 qEq (eOwn 2) (eC (.int 0)))) (eC (.int 1)) (eC (.int 0))))) (eOwn 4))
theorem std_loop2 (row : List Nat) (u : Wd) (T : Tp) : ∀ (l : List Nat) (k m : Nat) (b w : Wd) (c2 : Cell), (∀ a ∈ l, 1 ≤ a ∧ a ≤ 3) → row.drop k = l → b.length ≤ m → w.length ≤ m → m * 4 ^ l.length ≤ 3000 → ∃ c2' b', forL (gSet 2) bStd2 (rngD k l.length) (S8 row c2 u (.fr (.str (S b))) (.fr (.str (S w))) .un) T =
    some (.nx (S8 row c2' u (.fr (.str (S b'))) (.fr (.str (S (stdF k b w l)))) .un), T)
  | [], k, m, b, w, c2, _, _, _, _, _ => ⟨c2, b, rfl⟩
  | a :: l, k, m, b, w, c2, ha, hd, hb, hw, hm => by
    obtain ⟨a1, a2⟩ := ha a List.mem_cons_self
    have hp : 1 ≤ 4 ^ l.length := Nat.pow_pos (by decide)
    have hm2 : m * 4 * 4 ^ l.length ≤ 3000 := by rw [List.length_cons, Nat.pow_succ, Nat.mul_comm (4 ^ l.length), ← Nat.mul_assoc] at hm; exact hm
    have hm3 : m * 4 ≤ m * 4 * 4 ^ l.length := Nat.le_mul_of_pos_right _ hp
    have sl := step_len (k := k) a2 hb hw
    have hk : k < row.length := by
      have := congrArg List.length hd
      rw [List.length_drop, List.length_cons] at this
      omega
    have hg : row[k] = a := by
      have e := List.drop_eq_getElem_cons hk
      rw [hd] at e
      exact (List.cons.inj e).1.symm
    have hd2 : row.drop (k + 1) = l := by
      have e := List.drop_eq_getElem_cons hk
      rw [hd] at e
      exact (List.cons.inj e).2.symm
    obtain ⟨c2', b', ih⟩ := std_loop2 row u T l (k + 1) (m * 4) w (stepW k a b w) (.fr (.int ((k : Nat) : Int))) (fun x hx => ha x (List.mem_cons_of_mem _ hx)) hd2 (by omega) sl hm2
    have fac : e2 qSub (e2 qIx (eOwn 1) (eOwn 2)) (eIf (tBool (e2 qEq (eOwn 2) (eC (.int 0)))) (eC (.int 1)) (eC (.int 0))) (S8 row (.fr (.int ((k : Nat) : Int))) u (.fr (.str (S b))) (.fr (.str (S w))) .un) T = some (.int (((if k == 0 then a - 1 else a) : Nat) : Int), T) := by
      have ix : e2 qIx (eOwn 1) (eOwn 2) (S8 row (.fr (.int ((k : Nat) : Int))) u (.fr (.str (S b))) (.fr (.str (S w))) .un) T = some (.int ((a : Nat) : Int), T) := e2_of (x := .tuple (intL row)) (y := .int ((k : Nat) : Int)) (T1 := T) rfl rfl ((q_ixL hk).trans (by rw [hg]))
      by_cases hk0 : k = 0
      · rw [if_pos (beq_iff_eq.mpr hk0)]
        exact subE (b := 1) ix ((eif_t (T1 := T) (bool_of (e2_of (x := .int ((k : Nat) : Int)) (y := .int 0) (T1 := T) rfl rfl (q_eq_t (by omega))))).trans rfl) a1
      · rw [if_neg fun z => hk0 (beq_iff_eq.mp z)]
        exact subE (b := 0) ix ((eif_f (T1 := T) (bool_of (e2_of (x := .int ((k : Nat) : Int)) (y := .int 0) (T1 := T) rfl rfl (q_eq_f (by omega))))).trans rfl) (Nat.zero_le _)
    have hf : (if k == 0 then a - 1 else a) ≤ 3 := by split <;> omega
    refine ⟨c2', b', for_cons (ρ1 := S8 row (.fr (.int ((k : Nat) : Int))) u (.fr (.str (S b))) (.fr (.str (S w))) .un) (ρ2 := S8 row (.fr (.int ((k : Nat) : Int))) u (.fr (.str (S w))) (.fr (.str (S (stepW k a b w)))) .un) rfl
      (par_of (x := .str (S w)) (y := .str (S (stepW k a b w))) (T1 := T) rfl (e2_of (x := .str (S ((List.replicate (if k == 0 then a - 1 else a) w).flatten))) (y := .str (S b)) (T1 := T) (e2_of (x := .str (S w)) (T1 := T) rfl fac (q_mulS (by omega) (by omega))) rfl (q_cat ?_))) ?_⟩
    · have : (stepW k a b w).length = ((List.replicate (if k == 0 then a - 1 else a) w).flatten).length + b.length := List.length_append
      omega
    · rw [show (((k : Nat) : Int) + 1) = ((k + 1 : Nat) : Int) by omega]
      exact ih

/-! ### what is counted out for the rows -/
def ckStd (row : List Nat) : Bool := Nat.ble 41 (stdW row).length || (Nat.ble (stdW row).length 2 || (
  Nat.gcd (cnt (stdW row)) (stdW row).length == 1 && (subIn (stdW row) (rndW (cnt (stdW row)) (stdW row).length ++ rndW (cnt (stdW row)) (stdW row).length) && (
  (stdW row).take ((stdW row).length - 2) == ((stdW row).take ((stdW row).length - 2)).reverse && (
  (stdW row).drop ((stdW row).length - 2) == [48, 49] || (stdW row).drop ((stdW row).length - 2) == [49, 48])))))
def rowsL : Nat → List (List Nat)
  | 0 => [[]]
  | k + 1 => (rowsL k).flatMap fun r => [1 :: r, 2 :: r, 3 :: r]
theorem rows_mem : ∀ (row : List Nat), (∀ a ∈ row, 1 ≤ a ∧ a ≤ 3) → row ∈ rowsL row.length
  | [], _ => List.mem_singleton.mpr rfl
  | a :: r, h => by
    have ih := rows_mem r fun x hx => h x (List.mem_cons_of_mem _ hx)
    have ha := h a List.mem_cons_self
    refine List.mem_flatMap.mpr ⟨r, ih, ?_⟩
    have : a = 1 ∨ a = 2 ∨ a = 3 := by omega
    rcases this with rfl | rfl | rfl <;> simp
theorem std1 : (rowsL 1).all ckStd = true := by decide +kernel
theorem std2 : (rowsL 2).all ckStd = true := by decide +kernel
theorem std3 : (rowsL 3).all ckStd = true := by decide +kernel
theorem std4 : (rowsL 4).all ckStd = true := by decide +kernel
theorem std5 : (rowsL 5).all ckStd = true := by decide +kernel

theorem std_all {row : List Nat} (h : Row row) : ckStd row = true := by
  have hm := rows_mem row h.bd
  have h1 := h.ne
  have h2 := h.le
  generalize row.length = k at *
  match k, h1, h2 with
  | 1, _, _ => exact List.all_eq_true.mp std1 row hm
  | 2, _, _ => exact List.all_eq_true.mp std2 row hm
  | 3, _, _ => exact List.all_eq_true.mp std3 row hm
  | 4, _, _ => exact List.all_eq_true.mp std4 row hm
  | 5, _, _ => exact List.all_eq_true.mp std5 row hm
theorem rowE (T : Tp) (h0 : 0 ≤ T.idx) (ρ : Rho) (ht : ∀ x, (ρ.set 2 x)[0]? = some .tp) : ∀ (ds : List D), ∃ (ys : List Nat) (T' : Tp), ys.length = ds.length ∧ (∀ a ∈ ys, 1 ≤ a ∧ a ≤ 3) ∧ 0 ≤ T'.idx ∧ lcL (gSet 2) tTrue (e2 qAdd (eC (.int 1)) (eCallT 0 1 p_law_take (aCons (eC (.int 3)) aNil))) ρ ds T = some (intL ys, T') := by
  intro ds
  induction ds generalizing T with
  | nil => exact ⟨[], T, rfl, fun a h => absurd h (List.not_mem_nil), h0, rfl⟩
  | cons d ds ih =>
    obtain ⟨r, T1, hr, i1, e1⟩ := takeE (T := T) h0 (m := 3) (by decide) (by decide) (ρ := ρ.set 2 (.fr d)) (fa := eC (.int 3)) (ht _) rfl
    obtain ⟨ys, T2, hl, hb, i2, e2'⟩ := ih T1 i1
    refine ⟨(1 + r) :: ys, T2, by rw [List.length_cons, List.length_cons, hl], fun a ha => ?_, i2, ?_⟩
    · rcases List.mem_cons.mp ha with rfl | ha
      · omega
      · exact hb a ha
    · have e3 : e2 qAdd (eC (.int 1)) (eCallT 0 1 p_law_take (aCons (eC (.int 3)) aNil)) (ρ.set 2 (.fr d)) T = some (.int ((1 + r : Nat) : Int), T1) := by
        refine e2_of (x := .int 1) (y := .int ((r : Nat) : Int)) (T1 := T) rfl e1 ?_
        show some (PyData.int _) = _
        congr 2
      unfold lcL gSet tTrue
      simp only [e3]
      have e4 := e2'
      unfold gSet tTrue at e4
      rw [e4]
      rfl
theorem standard_ok (T : Tp) (h0 : 0 ≤ T.idx) : ∃ T', 0 ≤ T'.idx ∧ p_law_standard_right [] T = some (.bool true, T') := by
  obtain ⟨r, T1, hr, i1, e1⟩ := takeE (T := T) h0 (m := 5) (by decide) (by decide) (ρ := [.tp, .un, .un, .un, .un, .un, .un, .un]) (fa := eC (.int 5)) rfl rfl
  obtain ⟨row, T2, hl, hb, i2, e2'⟩ := rowE T1 i1 (wipeR [.tp, .un, .un, .un, .un, .un, .un, .un] [2]) (fun x => rfl) (rngD 0 (1 + r))
  rw [rngD_len] at hl
  have hrow : Row row := ⟨by omega, by omega, hb⟩
  have ck := std_all hrow
  obtain ⟨c2, b', loop⟩ := std_loop2 row (stdW row) T2 row 0 1 [49] [48] .un hb rfl (by decide) (by decide) (pow5 hrow.le)
  have elen : (intL row).length = row.length := List.length_map ..
  refine ⟨T2, i2, bodyT_rt ?_⟩
  refine seq_nx (ρ1 := [.tp, .fr (.tuple (intL row)), .un, .un, .un, .un, .un, .un]) (T1 := T2) (set_of (call_of (ds := [.list (intL row)]) (T1 := T2) (a_one (lc_of (ds := rngD 0 (1 + r)) (T1 := T1) ((r1_of (k := ((1 + r : Nat) : Int)) (T1 := T1) (e2_of (x := .int 1) (y := .int ((r : Nat) : Int)) (T1 := T) rfl e1 ?_) (ok62_nat (by omega))).trans (by rw [Int.toNat_natCast])) e2' (by rw [rngD_len]; omega))) rfl)) ?_
  · show some (PyData.int _) = _
    congr 2
  refine seq_nx (ρ1 := S8 row .un (stdW row) .un .un .un) (T1 := T2) (set_of (callP_of (ds := [.tuple (intL row)]) (T1 := T2) rfl rfl (p_std_ok hrow))) ?_
  refine seq_nx (ρ1 := S8 row .un (stdW row) (.fr (.str (S [49]))) (.fr (.str (S [48]))) .un) (T1 := T2) (asg_of (d := .tuple [.str (S [49]), .str (S [48])]) rfl (gtup_of rfl rfl)) ?_
  refine seq_nx (ρ1 := S8 row c2 (stdW row) (.fr (.str (S b'))) (.fr (.str (S (stdW row)))) .un) (T1 := T2) (for_of (ds := rngD 0 row.length) (T1 := T2) ((r1_of (k := ((row.length : Nat) : Int)) (lenT rfl) (ok62_nat (by have := hrow.le; omega))).trans (by rw [Int.toNat_natCast])) loop) ?_
  refine seq_nx (ρ1 := S8 row c2 (stdW row) (.fr (.str (S b'))) (.fr (.str (S (stdW row)))) .un) (T1 := T2) (if_f (T1 := T2) (bool_of (e2_of (x := .str (S (stdW row))) (y := .str (S (stdW row))) (T1 := T2) rfl rfl (q_neS_f _))) rfl) ?_
  have big : (stdW row).length ≤ 16777216 := by
    have : ∀ (l : List Nat) (k m : Nat) (b w : Wd), (∀ a ∈ l, 1 ≤ a ∧ a ≤ 3) → b.length ≤ m → w.length ≤ m → (stdF k b w l).length ≤ m * 4 ^ l.length := fun l => by
      induction l with
      | nil => intro k m b w _ _ hw; show w.length ≤ m * 1; omega
      | cons a l ih =>
        intro k m b w ha hb hw
        have sl := step_len (k := k) (ha a List.mem_cons_self).2 hb hw
        have := ih (k + 1) (m * 4) w (stepW k a b w) (fun x hx => ha x (List.mem_cons_of_mem _ hx)) (by omega) sl
        rw [List.length_cons, Nat.pow_succ, Nat.mul_comm (4 ^ l.length), ← Nat.mul_assoc]
        exact this
    have h := this row 0 1 [49] [48] hb (by decide) (by decide)
    have := pow5 hrow.le
    have : (stdW row).length ≤ 1 * 4 ^ row.length := h
    omega
  by_cases h40 : 40 < (stdW row).length
  · exact seq_rt (if_t (T1 := T2) (or_t (T1 := T2) (bool_of (e2_of (x := .int (((stdW row).length : Nat) : Int)) (y := .int 40) (T1 := T2) (lenE rfl rfl big) rfl (q_gt_t (by omega))))) (ret_of rfl))
  · by_cases h3 : (stdW row).length < 3
    · exact seq_rt (if_t (T1 := T2) ((or_f (T1 := T2) (bool_of (e2_of (x := .int (((stdW row).length : Nat) : Int)) (y := .int 40) (T1 := T2) (lenE rfl rfl big) rfl (q_gt_f (by omega))))).trans (bool_of (e2_of (x := .int (((stdW row).length : Nat) : Int)) (y := .int 3) (T1 := T2) (lenE rfl rfl big) rfl (q_lt_t (by omega))))) (ret_of rfl))
    · unfold ckStd at ck
      have f1 : Nat.ble 41 (stdW row).length = false := by cases e : Nat.ble 41 (stdW row).length with | false => rfl | true => have := Nat.ble_eq.mp e; omega
      have f2 : Nat.ble (stdW row).length 2 = false := by cases e : Nat.ble (stdW row).length 2 with | false => rfl | true => have := Nat.ble_eq.mp e; omega
      rw [f1, f2, Bool.false_or, Bool.false_or] at ck
      simp only [Bool.and_eq_true, Bool.or_eq_true] at ck
      obtain ⟨k1, k2, k34⟩ := ck
      have k1 := beq_iff_eq.mp k1
      generalize stdW row = w at *
      have hc : cnt w ≤ w.length := List.countP_le_length
      have sl : Sl (cnt w) w.length := ⟨hc, by omega, by omega, k1⟩
      obtain ⟨i, hi, ei⟩ := sub_win k2
      have hdup : rndW (cnt w) w.length ++ rndW (cnt w) w.length = lineW (cnt w) w.length 0 (w.length + w.length) := by
        rw [line_app, Nat.zero_add]
        have := line_per sl 0 w.length
        rw [Nat.zero_add] at this
        rw [this]; rfl
      rw [hdup] at ei hi
      rw [lineW_len] at hi
      rw [line_win hi, Nat.zero_add] at ei
      have hb2 : Bin w := by rw [← ei]; exact line_bin sl i w.length
      have hB : Bal w := by rw [← ei]; exact line_bal sl i w.length
      refine seq_nx (ρ1 := S8 row c2 w (.fr (.str (S b'))) (.fr (.str (S w))) .un) (T1 := T2) (if_f (T1 := T2) ((or_f (T1 := T2) (bool_of (e2_of (x := .int ((w.length : Nat) : Int)) (y := .int 40) (T1 := T2) (lenE rfl rfl big) rfl (q_gt_f (by omega))))).trans (bool_of (e2_of (x := .int ((w.length : Nat) : Int)) (y := .int 3) (T1 := T2) (lenE rfl rfl big) rfl (q_lt_f (by omega))))) rfl) ?_
      refine seq_nx (ρ1 := S8 row c2 w (.fr (.str (S b'))) (.fr (.str (S w))) .un) (T1 := T2) (if_f (T1 := T2) ((or_f (T1 := T2) (bool_of (e2_of (x := .bool true) (y := .bool true) (T1 := T2) (callP_of (ds := [.str (S w)]) (T1 := T2) rfl rfl (p_bal_ok hb2 (by omega) hB)) rfl rfl))).trans ((or_f (T1 := T2) (bool_of (e2_of (x := .bool true) (y := .bool true) (T1 := T2) ?_ rfl rfl))).trans ?_)) rfl) ?_
      · have k3 : (w.take (w.length - 2) == (w.take (w.length - 2)).reverse) = true := k34.1
        refine (callP_of (ds := [.str (S (w.take (w.length - 2)))]) (T1 := T2) (a_one (cut_of (x := .str (S w)) (lo := none) (hi := some (-2)) (T1 := T2) (T2 := T2) rfl rfl (o_of (k := -2) rfl) ((q_cut big).trans (by rw [cut_less])))) rfl (p_mirror_ok (by rw [List.length_take]; omega))).trans ?_
        rw [k3]
      · refine bool_of (e2_of (x := .str (S (w.drop (w.length - 2)))) (y := .tuple [.str (S [48, 49]), .str (S [49, 48])]) (T1 := T2) (cut_of (x := .str (S w)) (lo := some ((w.length - 2 : Nat) : Int)) (hi := none) (T1 := T2) (T2 := T2) rfl (o_of (subE (b := 2) (lenE rfl rfl big) rfl (by omega))) rfl ((q_cut big).trans (by rw [cut_from]))) rfl ?_)
        have k4 : w.drop (w.length - 2) = [48, 49] ∨ w.drop (w.length - 2) = [49, 48] := by
          rcases k34.2 with a | a
          · exact .inl (beq_iff_eq.mp a)
          · exact .inr (beq_iff_eq.mp a)
        rcases k4 with e | e <;> rw [e] <;> rfl
      refine seq_nx (ρ1 := S8 row c2 w (.fr (.str (S b'))) (.fr (.str (S w))) (.fr (.int ((cnt w : Nat) : Int)))) (T1 := T2) (set_of (cntE (w := w) rfl (by show 7 < 8; decide) big)) ?_
      refine ret_of (e2_of (x := slD (cnt w) w.length) (y := slD (cnt w) w.length) (T1 := T2) (callP_of (ds := [.str (S w)]) (T1 := T2) rfl rfl (p_slope_ok hb2 (by omega) (by omega) k1 k2)) (tup2 rfl (lenE rfl rfl big)) ?_)
      show (if (eqOk 8 (slD (cnt w) w.length) && eqOk 8 (slD (cnt w) w.length)) = true then some (PyData.bool (PyData.eqv (slD (cnt w) w.length) (slD (cnt w) w.length))) else none) = _
      have e : eqOk 8 (slD (cnt w) w.length) = true := by unfold slD; simp only [eqOk, eqOkL, Bool.and_self]
      rw [e]
      show some (PyData.bool (PyData.eqv (slD (cnt w) w.length) (slD (cnt w) w.length))) = _
      congr 2
      unfold slD
      simp [PyData.eqv, PyData.eqvAll]
end Dv

/-! M13: how many parts a round has. -/
namespace Dv
open PySem
def GG (n d : Nat) : Nat → Nat → Nat
  | 0, _ => 0
  | m + 1, r => GG n d m r + (r + (m + 1) * n) / d
section
variable {n d : Nat} (sl : Sl n d)
include sl
theorem co_no {j : Nat} (h0 : 0 < j) (h1 : j < d) : ¬ d ∣ j * n := fun h => by
  have hc : Nat.Coprime d n := by
    have := sl.co
    rw [Nat.gcd_comm] at this
    exact this
  have := Nat.le_of_dvd h0 (hc.dvd_of_dvd_mul_right h)
  omega
theorem gg_same : ∀ (m r : Nat), (∀ i, 1 ≤ i → i ≤ m → ¬ d ∣ r + i * n + 1) → GG n d m (r + 1) = GG n d m r
  | 0, _, _ => rfl
  | m + 1, r, h => by
    have ih := gg_same m r fun i a b => h i a (by omega)
    show GG n d m (r + 1) + (r + 1 + (m + 1) * n) / d = GG n d m r + (r + (m + 1) * n) / d
    rw [ih, show r + 1 + (m + 1) * n = r + (m + 1) * n + 1 by omega, Nat.succ_div, if_neg (h (m + 1) (by omega) (Nat.le_refl _)), Nat.add_zero]
theorem gg_step : ∀ (m r : Nat), m < d → GG n d m (r + 1) ≤ GG n d m r + 1
  | 0, _, _ => Nat.zero_le _
  | m + 1, r, hm => by
    show GG n d m (r + 1) + (r + 1 + (m + 1) * n) / d ≤ GG n d m r + (r + (m + 1) * n) / d + 1
    rw [show r + 1 + (m + 1) * n = r + (m + 1) * n + 1 by omega, Nat.succ_div]
    by_cases hd : d ∣ r + (m + 1) * n + 1
    · rw [if_pos hd, gg_same sl m r fun i a b hi => ?_]
      · omega
      · have e : r + (m + 1) * n + 1 = (m + 1 - i) * n + (r + i * n + 1) := by
          have : (m + 1) * n = (m + 1 - i) * n + i * n := by rw [← Nat.add_mul]; congr 1; omega
          omega
        rw [e] at hd
        exact co_no sl (j := m + 1 - i) (by omega) (by omega) ((Nat.dvd_add_left hi).mp hd)
    · rw [if_neg hd]
      have := gg_step m r (by omega)
      omega
theorem gg_top : ∀ m, m < d → GG n d m (d - 1) = GG n d m 0 + m
  | 0, _ => rfl
  | m + 1, hm => by
    have ih := gg_top m (by omega)
    have hp := sl.pos
    show GG n d m (d - 1) + (d - 1 + (m + 1) * n) / d = GG n d m 0 + (0 + (m + 1) * n) / d + (m + 1)
    have hz : (m + 1) * n % d ≠ 0 := fun z => co_no sl (j := m + 1) (by omega) hm (Nat.dvd_of_mod_eq_zero z)
    have hdm := Nat.div_add_mod ((m + 1) * n) d
    have hlt := Nat.mod_lt ((m + 1) * n) hp
    have e : (d - 1 + (m + 1) * n) / d = (m + 1) * n / d + 1 := by
      rw [show d - 1 + (m + 1) * n = ((m + 1) * n % d - 1) + d * ((m + 1) * n / d + 1) by rw [Nat.mul_add]; omega, Nat.add_mul_div_left _ _ hp, Nat.div_eq_of_lt (by omega), Nat.zero_add]
    rw [ih, e, Nat.zero_add]
    omega
theorem gg_all (m : Nat) (hm : m < d) : ∀ (r j : Nat), GG n d m 0 ≤ j → j ≤ GG n d m r → ∃ r', r' ≤ r ∧ GG n d m r' = j
  | 0, j, h1, h2 => ⟨0, Nat.le_refl _, Nat.le_antisymm h1 h2⟩
  | r + 1, j, h1, h2 => by
    by_cases h : j ≤ GG n d m r
    · obtain ⟨r', a, b⟩ := gg_all m hm r j h1 h
      exact ⟨r', by omega, b⟩
    · have := gg_step sl m r hm
      exact ⟨r + 1, Nat.le_refl _, by omega⟩
omit sl in
theorem gg_mono : ∀ (m : Nat) {r r' : Nat}, r ≤ r' → GG n d m r ≤ GG n d m r'
  | 0, _, _, _ => Nat.le_refl _
  | m + 1, r, r', h => Nat.add_le_add (gg_mono m h) (Nat.div_le_div_right (by omega))
omit sl in
theorem gg_eq : ∀ (m : Nat) {r r' : Nat}, r ≤ r' → GG n d m r = GG n d m r' → ∀ i, 1 ≤ i → i ≤ m → (r + i * n) / d = (r' + i * n) / d
  | 0, _, _, _, _, i, a, b => by omega
  | m + 1, r, r', h, e, i, a, b => by
    have e : GG n d m r + (r + (m + 1) * n) / d = GG n d m r' + (r' + (m + 1) * n) / d := e
    have h1 := gg_mono (n := n) (d := d) m h
    have h2 : (r + (m + 1) * n) / d ≤ (r' + (m + 1) * n) / d := Nat.div_le_div_right (by omega)
    by_cases hi : i = m + 1
    · subst hi; omega
    · exact gg_eq m h (by omega) i a (by omega)
/-- the residue of a place tells the part -/
theorem kn_div (k i : Nat) : (k + i) * n / d = k * n / d + (k * n % d + i * n) / d := by
  have hp := sl.pos
  have h := Nat.div_add_mod (k * n) d
  have e : (k + i) * n = (k * n % d + i * n) + d * (k * n / d) := by rw [Nat.add_mul]; omega
  rw [e, Nat.add_mul_div_left _ _ hp]
  omega
theorem line_eq {k k' m : Nat} (h : ∀ i, 1 ≤ i → i ≤ m → (k * n % d + i * n) / d = (k' * n % d + i * n) / d) : lineW n d k m = lineW n d k' m := by
  have hp := sl.pos
  unfold lineW
  apply List.map_congr_left
  intro i hi
  have hi := List.mem_range.mp hi
  have z : ∀ k, (k * n % d + 0 * n) / d = 0 := fun k => by rw [Nat.zero_mul, Nat.add_zero]; exact Nat.div_eq_of_lt (Nat.mod_lt _ hp)
  have at' : ∀ j, j ≤ m → (k * n % d + j * n) / d = (k' * n % d + j * n) / d := fun j hj => by
    by_cases h0 : j = 0
    · subst h0; rw [z, z]
    · exact h j (by omega) hj
  unfold dig
  rw [show k + i + 1 = k + (i + 1) by omega, show k' + i + 1 = k' + (i + 1) by omega, kn_div sl k (i + 1), kn_div sl k i, kn_div sl k' (i + 1), kn_div sl k' i, at' (i + 1) (by omega), at' i (by omega)]
  omega
def codeW : Nat → Wd → Nat
  | 0, _ => 0
  | m + 1, w => codeW m w + cnt (w.take (m + 1))
theorem code_line (k M : Nat) : ∀ m, m ≤ M → codeW m (lineW n d k M) = GG n d m (k * n % d)
  | 0, _ => rfl
  | m + 1, hm => by
    have ih := code_line k M m (by omega)
    show codeW m (lineW n d k M) + cnt ((lineW n d k M).take (m + 1)) = GG n d m (k * n % d) + (k * n % d + (m + 1) * n) / d
    rw [ih]
    have hw : (lineW n d k M).take (m + 1) = lineW n d k (m + 1) := by
      have := line_win (n := n) (d := d) (s := k) (l := M) (k := 0) (size := m + 1) (by omega)
      unfold win at this
      rw [List.drop_zero, Nat.add_zero] at this
      exact this
    have hc := line_cnt sl k (m + 1)
    have hk := kn_div sl k (m + 1)
    rw [hw]
    omega
/-- every residue is met -/
theorem res_all {r : Nat} (hr : r < d) : ∃ k, k < d ∧ k * n % d = r := by
  have hp := sl.pos
  refine Classical.byContradiction fun hno => ?_
  have nd : (r :: (List.range d).map fun k => k * n % d).Nodup := by
    refine List.nodup_cons.mpr ⟨fun h => ?_, ?_⟩
    · obtain ⟨k, hk, e⟩ := List.mem_map.mp h
      exact hno ⟨k, List.mem_range.mp hk, e⟩
    · refine List.pairwise_map.mpr (List.Pairwise.imp_of_mem (fun {a b} ha hb hne he => ?_) (List.nodup_range (n := d)))
      have ha := List.mem_range.mp ha
      have hb := List.mem_range.mp hb
      have hne : a ≠ b := hne
      have key : ∀ x y, x < y → y < d → x * n % d ≠ y * n % d := fun x y hxy hy e => by
        have h1 := Nat.div_add_mod (x * n) d
        have h2 := Nat.div_add_mod (y * n) d
        have h3 : (y - x) * n + x * n = y * n := by rw [← Nat.add_mul]; congr 1; omega
        have h4 : (y - x) * n = d * (y * n / d) - d * (x * n / d) := by omega
        exact co_no sl (j := y - x) (by omega) (by omega) ⟨y * n / d - x * n / d, by rw [h4, Nat.mul_sub]⟩
      rcases Nat.lt_or_gt_of_ne hne with h | h
      · exact key a b h hb he
      · exact key b a h ha he.symm
  have sub : (r :: (List.range d).map fun k => k * n % d) ⊆ List.range d := fun x hx => by
    rcases List.mem_cons.mp hx with rfl | hx
    · exact List.mem_range.mpr hr
    · obtain ⟨k, _, e⟩ := List.mem_map.mp hx
      rw [← e]; exact List.mem_range.mpr (Nat.mod_lt _ hp)
  have := nd.length_le_of_subset sub
  rw [List.length_cons, List.length_map, List.length_range] at this
  omega
end
/-! ### the parts that differ -/
theorem addW_nodup {acc : List Wd} {w : Wd} (h : acc.Nodup) : (addW acc w).Nodup := by
  unfold addW
  split
  · exact h
  · rename_i hn
    refine List.nodup_append.mpr ⟨h, List.nodup_cons.mpr ⟨List.not_mem_nil, List.nodup_nil⟩, fun a ha b hb e => hn ?_⟩
    rw [List.mem_singleton.mp hb] at e
    exact List.any_eq_true.mpr ⟨a, ha, beq_iff_eq.mpr e⟩
theorem fold_nodup : ∀ (xs acc : List Wd), acc.Nodup → (xs.foldl addW acc).Nodup
  | [], _, h => h
  | x :: xs, acc, h => fold_nodup xs _ (addW_nodup h)
theorem addW_keep {acc : List Wd} {w u : Wd} (h : u ∈ acc) : u ∈ addW acc w := by
  unfold addW
  split
  · exact h
  · exact List.mem_append_left _ h
theorem addW_self (acc : List Wd) (w : Wd) : w ∈ addW acc w := by
  unfold addW
  split
  · rename_i h
    obtain ⟨a, ha, e⟩ := List.any_eq_true.mp h
    rw [← beq_iff_eq.mp e]; exact ha
  · exact List.mem_append_right _ List.mem_cons_self
theorem fold_keep : ∀ (xs acc : List Wd) {u : Wd}, u ∈ acc → u ∈ xs.foldl addW acc
  | [], _, _, h => h
  | x :: xs, acc, u, h => fold_keep xs _ (addW_keep h)
theorem fold_has : ∀ (xs acc : List Wd) {u : Wd}, u ∈ xs → u ∈ xs.foldl addW acc
  | x :: xs, acc, u, h => by
    rw [List.foldl_cons]
    rcases List.mem_cons.mp h with rfl | h
    · exact fold_keep xs _ (addW_self acc u)
    · exact fold_has xs _ h
theorem pc_line {n d m : Nat} (sl : Sl n d) (h1 : 1 ≤ m) (hm : m < d) : pcW (rndW n d ++ rndW n d) m = m + 1 := by
  have hp := sl.pos
  have hdup : rndW n d ++ rndW n d = lineW n d 0 (d + d) := by
    rw [line_app, Nat.zero_add]
    have := line_per sl 0 d
    rw [Nat.zero_add] at this
    rw [this]; rfl
  have hlen : (rndW n d ++ rndW n d).length = d + d := by rw [hdup, lineW_len]
  have hwin : ∀ k, k + m ≤ d + d → win (rndW n d ++ rndW n d) k m = lineW n d k m := fun k hk => by
    rw [hdup, line_win hk, Nat.zero_add]
  let F := (windows (rndW n d ++ rndW n d) m).foldl addW []
  have fmem : ∀ u, u ∈ F → ∃ k, k + m ≤ d + d ∧ u = lineW n d k m := fun u hu => by
    rcases fold_mem _ _ hu with h | h
    · cases h
    · obtain ⟨k, hk, e⟩ := List.mem_map.mp h
      have hk := List.mem_range.mp hk
      rw [hlen] at hk
      exact ⟨k, by omega, by rw [← e]; exact hwin k (by omega)⟩
  have fhas : ∀ k, k < d → lineW n d k m ∈ F := fun k hk => by
    refine fold_has _ _ (List.mem_map.mpr ⟨k, List.mem_range.mpr ?_, hwin k (by omega)⟩)
    rw [hlen]; omega
  have nd : F.Nodup := fold_nodup _ _ List.nodup_nil
  have inj : ∀ u v, u ∈ F → v ∈ F → codeW m u = codeW m v → u = v := fun u v hu hv e => by
    obtain ⟨k, _, rfl⟩ := fmem u hu
    obtain ⟨k', _, rfl⟩ := fmem v hv
    rw [code_line sl k m m (Nat.le_refl _), code_line sl k' m m (Nat.le_refl _)] at e
    rcases Nat.le_total (k * n % d) (k' * n % d) with h | h
    · exact line_eq sl (gg_eq m h e)
    · exact (line_eq sl (gg_eq m h e.symm)).symm
  have ndc : (F.map (codeW m)).Nodup := List.pairwise_map.mpr (List.Pairwise.imp_of_mem (fun {a b} ha hb hne he => hne (inj a b ha hb he)) nd)
  have top := gg_top sl m hm
  have up : (F.map (codeW m)) ⊆ (List.range (m + 1)).map (fun j => GG n d m 0 + j) := fun x hx => by
    obtain ⟨u, hu, rfl⟩ := List.mem_map.mp hx
    obtain ⟨k, _, rfl⟩ := fmem u hu
    rw [code_line sl k m m (Nat.le_refl _)]
    have a1 := gg_mono (n := n) (d := d) m (Nat.zero_le (k * n % d))
    have hl := Nat.mod_lt (k * n) hp
    have a2 := gg_mono (n := n) (d := d) m (show k * n % d ≤ d - 1 by omega)
    exact List.mem_map.mpr ⟨GG n d m (k * n % d) - GG n d m 0, List.mem_range.mpr (by omega), by omega⟩
  have down : (List.range (m + 1)).map (fun j => GG n d m 0 + j) ⊆ F.map (codeW m) := fun x hx => by
    obtain ⟨j, hj, rfl⟩ := List.mem_map.mp hx
    have hj := List.mem_range.mp hj
    obtain ⟨r, hr, e⟩ := gg_all sl m hm (d - 1) (GG n d m 0 + j) (by omega) (by omega)
    obtain ⟨k, hk, ek⟩ := res_all sl (r := r) (by omega)
    exact List.mem_map.mpr ⟨lineW n d k m, fhas k hk, by rw [code_line sl k m m (Nat.le_refl _), ek, e]⟩
  have ndr : ((List.range (m + 1)).map (fun j => GG n d m 0 + j)).Nodup := List.pairwise_map.mpr (List.Pairwise.imp_of_mem (fun {a b} _ _ hne he => hne (by omega)) (List.nodup_range (n := m + 1)))
  have l1 := ndc.length_le_of_subset up
  have l2 := ndr.length_le_of_subset down
  rw [List.length_map, List.length_map, List.length_range] at l1 l2
  have : F.length = m + 1 := by omega
  exact this
/-! ### the law -/
theorem law_math (ns : List Int) (h : ns.length ≤ 63) : ∃ T', f_law ((List.replicate 3 .un).set 1 .tp) (mkTape ns) = some (.rt (.bool true), T') := by
  obtain ⟨n, d, T1, sl, hd, i1, e1⟩ := slope_ok (mkTape ns) (Int.le_refl 0)
  have ck := ck_of sl hd
  obtain ⟨T2, i2, e2'⟩ := words_ok sl hd ck (fun m a b _ => pc_line sl a b) T1 i1
  have e3 := parts_ok sl hd ck T2
  obtain ⟨T3, i3, e4⟩ := between_ok T2 i2
  obtain ⟨T4, i4, e5⟩ := standard_ok T3 i3
  refine ⟨T4, ?_⟩
  have c1 : ∀ T r, p_law_words_right [slD n d] T = r → eCallT 1 1 p_law_words_right (aCons (eVar 2) aNil) [.un, .tp, .fr (slD n d)] T = r := fun T r hh => callT_of rfl (a_one rfl) rfl hh
  have c2 : ∀ T r, p_law_parts_right [slD n d] T = r → eCallT 1 1 p_law_parts_right (aCons (eVar 2) aNil) [.un, .tp, .fr (slD n d)] T = r := fun T r hh => callT_of rfl (a_one rfl) rfl hh
  refine seq_nx (ρ1 := [.un, .tp, .fr (slD n d)]) (T1 := T1) (set_of (callT_of (ds := [.int 60]) (T1 := mkTape ns) rfl rfl rfl e1)) ?_
  refine seq_nx (ρ1 := [.un, .tp, .fr (slD n d)]) (T1 := T2) (if_f (T1 := T2) ((or_f (T1 := T2) (not_of (b := true) (tru_of (d := .bool true) (c1 _ _ e2') rfl))).trans (not_of (b := true) (tru_of (d := .bool true) (c2 _ _ e3) rfl))) rfl) ?_
  exact ret_of ((eand_t (T1 := T3) (callT_of (ds := []) (T1 := T2) rfl rfl rfl e4)).trans (callT_of (ds := []) (T1 := T3) rfl rfl rfl e5))
end Dv

open PySem PySem.W PyProof.Rows
set_option maxHeartbeats 0 in
theorem PySem.Challenge.cw_shiftsandcells_k47_whole_slopes_between_holds : PySem.Challenge.rw_shiftsandcells_k47_whole_slopes_between.Holds := by
  w_on; o_law; k_head; (case hw => w_witness2)
  k_fill
  refine L2.walk_of (l := PySem.Challenge.rw_shiftsandcells_k47_whole_slopes_between) (n := 63) (k := 7) (x := "script") (CX := fun _ => L2.CX0) (sp := fun w => Dv.spLaw _) rfl (by decide) rfl ⟨rfl, by decide, by decide⟩ (fun w h Y => PySem.W.kIn_of Y) ?F (fun _ _ a ns hl ho hS => ⟨a, ns, rfl, Dv.SqF.of ho hS, hl, fun _ => rfl⟩) (fun _ _ _ _ _ h => h)
  case F =>
    intro w mg fa h KX G hmg
    refine' Dv.all_mk KX G hmg ?x1_0 ?x2_0 ?x3_0 ?x4_0 ?x1_1 ?x2_1 ?x3_1 ?x4_1 ?x1_2 ?x2_2 ?x3_2 ?x4_2 ?x1_3 ?x2_3 ?x3_3 ?x4_3 ?x1_4 ?x2_4 ?x3_4 ?x4_4 ?x1_5 ?x2_5 ?x3_5 ?x4_5 ?x1_6 ?x2_6 ?x3_6 ?x4_6 ?x1_7 ?x2_7 ?x3_7 ?x4_7 ?x1_8 ?x2_8 ?x3_8 ?x4_8 ?x1_9 ?x2_9 ?x3_9 ?x4_9 ?x1_10 ?x2_10 ?x3_10 ?x4_10 ?x1_11 ?x2_11 ?x3_11 ?x4_11 ?x1_12 ?x2_12 ?x3_12 ?x4_12 ?x1_13 ?x2_13 ?x3_13 ?x4_13 ?x1_14 ?x2_14 ?x3_14 ?x4_14 ?x1_15 ?x2_15 ?x3_15 ?x4_15 ?x1_16 ?x2_16 ?x3_16 ?x4_16 ?x1_17 ?x2_17 ?x3_17 ?x4_17 ?x1_18 ?x2_18 ?x3_18 ?x4_18 ?x1_19 ?x2_19 ?x3_19 ?x4_19 ?x1_20 ?x2_20 ?x3_20 ?x4_20 ?x1_21 ?x2_21 ?x3_21 ?x4_21 ?x1_22 ?x2_22 ?x3_22 ?x4_22 ?x1_23 ?x2_23 ?x3_23 ?x4_23 ?x1_24 ?x2_24 ?x3_24 ?x4_24 ?x1_25 ?x2_25 ?x3_25 ?x4_25 ?x1_26 ?x2_26 ?x3_26 ?x4_26 ?x1_27 ?x2_27 ?x3_27 ?x4_27 ?x1_28 ?x2_28 ?x3_28 ?x4_28 ?z_abs ?z_all ?z_enumerate ?z_int ?z_len ?z_max ?z_min ?z_range ?z_reversed ?z_sorted ?z_str ?z_sum ?z_tuple ?u_MOST_LENGTH Dv.law_math
    (case x1_0 => k_is); (case x2_0 => k_is); (case x3_0 => k_is); (case x4_0 => k_is); (case x1_1 => k_is); (case x2_1 => k_is); (case x3_1 => k_is); (case x4_1 => k_is); (case x1_2 => k_is); (case x2_2 => k_is); (case x3_2 => k_is); (case x4_2 => k_is); (case x1_3 => k_is); (case x2_3 => k_is); (case x3_3 => k_is); (case x4_3 => k_is); (case x1_4 => k_is); (case x2_4 => k_is); (case x3_4 => k_is); (case x4_4 => k_is); (case x1_5 => k_is); (case x2_5 => k_is); (case x3_5 => k_is); (case x4_5 => k_is); (case x1_6 => k_is); (case x2_6 => k_is); (case x3_6 => k_is); (case x4_6 => k_is); (case x1_7 => k_is); (case x2_7 => k_is); (case x3_7 => k_is); (case x4_7 => k_is); (case x1_8 => k_is); (case x2_8 => k_is); (case x3_8 => k_is); (case x4_8 => k_is); (case x1_9 => k_is); (case x2_9 => k_is); (case x3_9 => k_is); (case x4_9 => k_is); (case x1_10 => k_is); (case x2_10 => k_is); (case x3_10 => k_is); (case x4_10 => k_is); (case x1_11 => k_is); (case x2_11 => k_is); (case x3_11 => k_is); (case x4_11 => k_is); (case x1_12 => k_is); (case x2_12 => k_is); (case x3_12 => k_is); (case x4_12 => k_is); (case x1_13 => k_is); (case x2_13 => k_is); (case x3_13 => k_is); (case x4_13 => k_is); (case x1_14 => k_is); (case x2_14 => k_is); (case x3_14 => k_is); (case x4_14 => k_is); (case x1_15 => k_is); (case x2_15 => k_is); (case x3_15 => k_is); (case x4_15 => k_is); (case x1_16 => k_is); (case x2_16 => k_is); (case x3_16 => k_is); (case x4_16 => k_is); (case x1_17 => k_is); (case x2_17 => k_is); (case x3_17 => k_is); (case x4_17 => k_is); (case x1_18 => k_is); (case x2_18 => k_is); (case x3_18 => k_is); (case x4_18 => k_is); (case x1_19 => k_is); (case x2_19 => k_is); (case x3_19 => k_is); (case x4_19 => k_is); (case x1_20 => k_is); (case x2_20 => k_is); (case x3_20 => k_is); (case x4_20 => k_is); (case x1_21 => k_is); (case x2_21 => k_is); (case x3_21 => k_is); (case x4_21 => k_is); (case x1_22 => k_is); (case x2_22 => k_is); (case x3_22 => k_is); (case x4_22 => k_is); (case x1_23 => k_is); (case x2_23 => k_is); (case x3_23 => k_is); (case x4_23 => k_is); (case x1_24 => k_is); (case x2_24 => k_is); (case x3_24 => k_is); (case x4_24 => k_is); (case x1_25 => k_is); (case x2_25 => k_is); (case x3_25 => k_is); (case x4_25 => k_is); (case x1_26 => k_is); (case x2_26 => k_is); (case x3_26 => k_is); (case x4_26 => k_is); (case x1_27 => k_is); (case x2_27 => k_is); (case x3_27 => k_is); (case x4_27 => k_is); (case x1_28 => k_is); (case x2_28 => k_is); (case x3_28 => k_is); (case x4_28 => k_is); (case z_abs => k_is); (case z_all => k_is); (case z_enumerate => k_is); (case z_int => k_is); (case z_len => k_is); (case z_max => k_is); (case z_min => k_is); (case z_range => k_is); (case z_reversed => k_is); (case z_sorted => k_is); (case z_str => k_is); (case z_sum => k_is); (case z_tuple => k_is); (case u_MOST_LENGTH => k_is)

