import PyProof.Rows.All
import Wide.All
import OpenK.AllK
import Wide.FinOn
import KE.KStateDown
import Lean
import HandS.ForMost
import HandS.ForExc
import HandS.Wide
import HandS.IsInst
import HandS.More
import HandS.Defaults
import HandS.Flow
import HandS.TupAny
import HandS.Deep
import HandS.Steps
import KE.LtData
import KE.KRevSl
import HandS.Head0
import HandS.Head1
import HandS.Head2
import HandS.HeadEnd
import HandS.HeadHook1
import HandS.HeadHook2
import PyProof.ReprLen
import PySem.Challenge.RW_tallyhouse_k01_digits_tickets_and_rolls
set_option Elab.async false
set_option linter.all false
set_option maxRecDepth 100000
set_option maxHeartbeats 0
/-! Own layer: data D, what a value stands for (Den), denotations of expressions and statements, and the soundness of the hand layer's readings against them. -/
namespace G
open PySem PySem.Spec PyProof.Rows L2

/-- data -/
inductive D where
  | non | bl (b : Bool) | int (i : Int) | str (s : Str) | tup (xs : List D) | lst (xs : List D)
  | dct (kvs : List (Key × D)) | ins (c : Str) (fs : List (Str × D)) | ty (n : String) | deck | scr (ns : List Int)

/-- the deck of a law -/
structure Dk where
  cells : List Int
  mixed : Int
  turn : Int

abbrev Ad := Addr × Addr
abbrev Cl := Str → Option Addr

mutual
inductive Den (K : PySem.W.Frag) (cl : Cl) (ad : Ad) (F : Hp) : V → D → Prop
  | non : Den K cl ad F .non .non
  | bl (b : Bool) : Den K cl ad F (.bl b) (.bl b)
  | int (i : Int) : Den K cl ad F (.int i) (.int i)
  | str (x : Str) : Den K cl ad F (.str x) (.str x)
  | ty (n : String) : Den K cl ad F (.ty n) (.ty n)
  | lst {a : Addr} {xs : List V} {ds : List D} : F a = some (.lst xs) → DenA K cl ad F xs ds → Den K cl ad F (.ref a) (.lst ds)
  | scr {a : Addr} {ns : List Int} : SqL K F a (ns.map V.int) → Den K cl ad F (.ref a) (.scr ns)
  | tup {a : Addr} {xs : List V} {ds : List D} : SqT K F a xs → DenA K cl ad F xs ds → Den K cl ad F (.ref a) (.tup ds)
  | dct {a : Addr} {kvs : List (Key × V)} {ds : List (Key × D)} : F a = some (.dK kvs) → DenK K cl ad F kvs ds → Den K cl ad F (.ref a) (.dct ds)
  | ins {a C dx : Addr} {c : Str} {fs : List (Str × V)} {ds : List (Str × D)} : cl c = some C → F a = some (.ins C dx fs) → DenF K cl ad F fs ds → Den K cl ad F (.ref a) (.ins c ds)
  | deck : Den K cl ad F (.ref ad.1) .deck
inductive DenA (K : PySem.W.Frag) (cl : Cl) (ad : Ad) (F : Hp) : List V → List D → Prop
  | nil : DenA K cl ad F [] []
  | cons {v : V} {vs : List V} {d : D} {ds : List D} : Den K cl ad F v d → DenA K cl ad F vs ds → DenA K cl ad F (v :: vs) (d :: ds)
inductive DenK (K : PySem.W.Frag) (cl : Cl) (ad : Ad) (F : Hp) : List (Key × V) → List (Key × D) → Prop
  | nil : DenK K cl ad F [] []
  | cons {k : Key} {v : V} {vs : List (Key × V)} {d : D} {ds : List (Key × D)} : Den K cl ad F v d → DenK K cl ad F vs ds → DenK K cl ad F ((k, v) :: vs) ((k, d) :: ds)
inductive DenF (K : PySem.W.Frag) (cl : Cl) (ad : Ad) (F : Hp) : List (Str × V) → List (Str × D) → Prop
  | nil : DenF K cl ad F [] []
  | cons {k : Str} {v : V} {vs : List (Str × V)} {d : D} {ds : List (Str × D)} : Den K cl ad F v d → DenF K cl ad F vs ds → DenF K cl ad F ((k, v) :: vs) ((k, d) :: ds)
end

theorem sqT_same {K : PySem.W.Frag} {H H' : Hp} {a : Addr} {xs : List V} (e : Same H H') (h : SqT K H a xs) : SqT K H' a xs := by
  rcases h with (h | ⟨o, h⟩) | h
  · exact .inl (.inl (e _ _ h))
  · exact .inl (.inr ⟨o, e _ _ h⟩)
  · exact .inr h

section
variable {K : PySem.W.Frag} {cl : Cl} {ad : Ad} {F F' : Hp}
mutual
theorem Den.mono (e : Same F F') : ∀ {v : V} {d : D}, Den K cl ad F v d → Den K cl ad F' v d
  | _, _, .non => .non
  | _, _, .bl b => .bl b
  | _, _, .int b => .int b
  | _, _, .str b => .str b
  | _, _, .ty b => .ty b
  | _, _, .lst h a => .lst (e _ _ h) (DenA.mono e a)
  | _, _, .scr h => .scr (e.seq h)
  | _, _, .tup h a => .tup (sqT_same e h) (DenA.mono e a)
  | _, _, .dct h a => .dct (e _ _ h) (DenK.mono e a)
  | _, _, .ins c h a => .ins c (e _ _ h) (DenF.mono e a)
  | _, _, .deck => .deck
theorem DenA.mono (e : Same F F') : ∀ {v : List V} {d : List D}, DenA K cl ad F v d → DenA K cl ad F' v d
  | _, _, .nil => .nil
  | _, _, .cons a b => .cons (Den.mono e a) (DenA.mono e b)
theorem DenK.mono (e : Same F F') : ∀ {v : List (Key × V)} {d : List (Key × D)}, DenK K cl ad F v d → DenK K cl ad F' v d
  | _, _, .nil => .nil
  | _, _, .cons a b => .cons (Den.mono e a) (DenK.mono e b)
theorem DenF.mono (e : Same F F') : ∀ {v : List (Str × V)} {d : List (Str × D)}, DenF K cl ad F v d → DenF K cl ad F' v d
  | _, _, .nil => .nil
  | _, _, .cons a b => .cons (Den.mono e a) (DenF.mono e b)
end
theorem DenA.length : ∀ {v : List V} {d : List D}, DenA K cl ad F v d → v.length = d.length
  | _, _, .nil => rfl
  | _, _, .cons _ b => by rw [List.length_cons, List.length_cons, DenA.length b]
theorem DenA.append : ∀ {v w : List V} {d e : List D}, DenA K cl ad F v d → DenA K cl ad F w e → DenA K cl ad F (v ++ w) (d ++ e)
  | _, _, _, _, .nil, h => h
  | _, _, _, _, .cons a b, h => .cons a (DenA.append b h)
theorem DenA.get : ∀ {v : List V} {d : List D} {i : Nat} {y : D}, DenA K cl ad F v d → d[i]? = some y → ∃ x, v[i]? = some x ∧ Den K cl ad F x y
  | _, _, _, _, .nil, e => by simp at e
  | _, _, 0, _, .cons a b, e => by simp at e; subst e; exact ⟨_, rfl, a⟩
  | _, _, i + 1, y, .cons a b, e => by
    obtain ⟨x, h1, h2⟩ := DenA.get (i := i) (y := y) b (by simpa using e)
    exact ⟨x, by simpa using h1, h2⟩
theorem DenA.get' : ∀ {v : List V} {d : List D} {i : Nat} {x : V}, DenA K cl ad F v d → v[i]? = some x → ∃ y, d[i]? = some y ∧ Den K cl ad F x y
  | _, _, _, _, .nil, e => by simp at e
  | _, _, 0, _, .cons a b, e => by simp at e; subst e; exact ⟨_, rfl, a⟩
  | _, _, i + 1, x, .cons a b, e => by
    obtain ⟨y, h1, h2⟩ := DenA.get' (i := i) (x := x) b (by simpa using e)
    exact ⟨y, by simpa using h1, h2⟩
theorem DenA.take : ∀ {v : List V} {d : List D} (n : Nat), DenA K cl ad F v d → DenA K cl ad F (v.take n) (d.take n)
  | _, _, 0, _ => .nil
  | _, _, _ + 1, .nil => .nil
  | _, _, n + 1, .cons a b => .cons a (DenA.take n b)
theorem DenA.drop : ∀ {v : List V} {d : List D} (n : Nat), DenA K cl ad F v d → DenA K cl ad F (v.drop n) (d.drop n)
  | _, _, 0, h => h
  | _, _, _ + 1, .nil => .nil
  | _, _, n + 1, .cons a b => DenA.drop n b
theorem DenA.reverse : ∀ {v : List V} {d : List D}, DenA K cl ad F v d → DenA K cl ad F v.reverse d.reverse
  | _, _, .nil => .nil
  | _, _, .cons a b => by
    rw [List.reverse_cons, List.reverse_cons]
    exact DenA.append (DenA.reverse b) (.cons a .nil)
end

/-- a slot: nothing known; a value; a list of one's own that may still grow -/
inductive Sl where
  | emp | val (d : D) | own (xs : List D)

def DkOk (H F : Hp) (ad : Ad) (k : Dk) : Prop :=
  F ad.1 = none ∧ F ad.2 = none ∧ ad.1 ≠ ad.2 ∧
  H ad.1 = some (.dK [(Sum.inr (Str.ofString "cells"), .ref ad.2), (Sum.inr (Str.ofString "mixed"), .int k.mixed), (Sum.inr (Str.ofString "turn"), .int k.turn)]) ∧ H ad.2 = some (.lst (k.cells.map V.int))

structure Rel (K : PySem.W.Frag) (cl : Cl) (ad : Ad) (σ : L2.St) (H F : Hp) (s : List Sl) (k : Option Dk) : Prop where
  sub : Same F H
  len : σ.length = s.length
  val : ∀ (i : Nat) (d : D), s[i]? = some (Sl.val d) → ∃ v, σ[i]? = some (some v) ∧ Den K cl ad F v d
  own : ∀ (i : Nat) (xs : List D), s[i]? = some (Sl.own xs) → ∃ b vs, σ[i]? = some (some (.ref b)) ∧ H b = some (.lst vs) ∧ F b = none ∧ (k.isSome = true → b ≠ ad.1 ∧ b ≠ ad.2) ∧ DenA K cl ad F vs xs
  inj : ∀ (i j : Nat) (xs ys : List D) (b : Addr), s[i]? = some (Sl.own xs) → s[j]? = some (Sl.own ys) → σ[i]? = some (some (V.ref b)) → σ[j]? = some (some (V.ref b)) → i = j
  dk : ∀ d, k = some d → DkOk H F ad d

/-- what an expression's evaluation leaves: all that stood, but the deck; nothing of it is frozen -/
structure Ext (ad : Ad) (k k' : Option Dk) (F H F' H' : Hp) : Prop where
  some : k'.isSome = k.isSome
  sub : Same F F'
  keep : ∀ b o, H b = Option.some o → (k.isSome = true → b ≠ ad.1 ∧ b ≠ ad.2) → H' b = Option.some o
  there : ∀ b, H b ≠ none → H' b ≠ none
  nofz : ∀ b, H b ≠ none → F b = none → F' b = none

theorem Ext.refl {ad : Ad} {k : Option Dk} {F H : Hp} : Ext ad k k F H F H := ⟨rfl, Same.refl _, fun _ _ h _ => h, fun _ h => h, fun _ _ h => h⟩
theorem Ext.trans {ad : Ad} {k k1 k2 : Option Dk} {F H F1 H1 F2 H2 : Hp} (a : Ext ad k k1 F H F1 H1) (b : Ext ad k1 k2 F1 H1 F2 H2) : Ext ad k k2 F H F2 H2 :=
  ⟨b.some.trans a.some, a.sub.trans b.sub, fun c o h n => b.keep c o (a.keep c o h n) (fun z => n (a.some ▸ z)), fun c h => b.there c (a.there c h), fun c h n => b.nofz c (a.there c h) (a.nofz c h n)⟩

/-- new frozen objects alone -/
structure New (F H F' H' : Hp) : Prop where
  sub : Same F F'
  keep : Same H H'
  ok : Same F' H'
  fresh : ∀ b, F b = none → F' b ≠ none → H b = none
theorem New.refl {F H : Hp} (h : Same F H) : New F H F H := ⟨Same.refl _, Same.refl _, h, fun _ a b => absurd a b⟩
theorem New.nofz {F H F' H' : Hp} (n : New F H F' H') : ∀ b, H b ≠ none → F b = none → F' b = none := fun b h f => by
  cases q : F' b with
  | none => rfl
  | some o => exact absurd (n.fresh b f (by rw [q]; exact fun z => nomatch z)) h
theorem New.trans {F H F1 H1 F2 H2 : Hp} (a : New F H F1 H1) (b : New F1 H1 F2 H2) : New F H F2 H2 :=
  ⟨a.sub.trans b.sub, a.keep.trans b.keep, b.ok, fun c h1 h2 => by
    cases q : F1 c with
    | some o => exact a.fresh c h1 (by rw [q]; exact fun z => nomatch z)
    | none => exact a.keep.free (b.fresh c q h2)⟩
theorem same_ne {F H : Hp} (h : Same F H) {b : Addr} : F b ≠ none → H b ≠ none := fun n z => by
  cases q : F b with
  | none => exact n q
  | some o => rw [h b o q] at z; cases z
theorem New.ext {ad : Ad} {k : Option Dk} {F H F' H' : Hp} (n : New F H F' H') : Ext ad k k F H F' H' :=
  ⟨rfl, n.sub, fun b o h _ => n.keep b o h, fun b h => same_ne n.keep h, n.nofz⟩
/-- one new object, frozen -/
theorem New.one {F H : Hp} {p : Addr} {o : HO} (h : Same F H) (hp : H p = none) : New F H (upd F p o) (upd H p o) := by
  have hf : F p = none := h.free hp
  refine ⟨fun b u e => ?_, fun b u e => ?_, fun b u e => ?_, fun b h1 h2 => ?_⟩
  · rw [upd_ne (ne_of_none e hf)]; exact e
  · rw [upd_ne (ne_of_none e hp)]; exact e
  · by_cases hb : b = p
    · subst hb; rw [upd_same] at e ⊢; exact e
    · rw [upd_ne hb] at e ⊢; exact h b u e
  · by_cases hb : b = p
    · subst hb; exact hp
    · rw [upd_ne hb] at h2; exact absurd h1 h2

section
variable {K : PySem.W.Frag} {cl : Cl} {ad : Ad} {σ : L2.St} {H F H' F' : Hp} {s : List Sl} {k : Option Dk}
theorem Rel.new (r : Rel K cl ad σ H F s k) (n : New F H F' H') : Rel K cl ad σ H' F' s k where
  sub := n.ok
  len := r.len
  val := fun i d e => let ⟨v, h1, h2⟩ := r.val i d e; ⟨v, h1, h2.mono n.sub⟩
  own := fun i xs e => by
    obtain ⟨b, vs, h1, h2, h3, h4, h5⟩ := r.own i xs e
    exact ⟨b, vs, h1, n.keep _ _ h2, n.nofz b (by rw [h2]; exact fun z => nomatch z) h3, h4, h5.mono n.sub⟩
  inj := r.inj
  dk := fun d e => by
    obtain ⟨h1, h2, h3, h4, h5⟩ := r.dk d e
    exact ⟨n.nofz _ (by rw [h4]; exact fun z => nomatch z) h1, n.nofz _ (by rw [h5]; exact fun z => nomatch z) h2, h3, n.keep _ _ h4, n.keep _ _ h5⟩
end

/-! ### denotations of expressions -/
inductive RE (α : Type) where
  | ok (a : α) (k : Option Dk)
  | ex (c : Str) (fs : List (Str × D)) (k : Option Dk)
  | no
def ME (α : Type) := List Sl → Option Dk → RE α
def eb {α β : Type} (m : ME α) (f : α → ME β) : ME β := fun s k => match m s k with
  | .ok a k' => f a s k'
  | .ex c fs k' => .ex c fs k'
  | .no => .no
def ep {α : Type} (a : α) : ME α := fun _ k => .ok a k
def eo {α : Type} (o : Option α) : ME α := fun _ k => match o with
  | some a => .ok a k
  | none => .no

/-- an exception, as it lies -/
def ExcIs (K : PySem.W.Frag) (cl : Cl) (ad : Ad) (F : Hp) (cls : Value) (dd : Option Addr) (c : Str) (fs : List (Str × D)) : Prop :=
  ∃ C, cl c = some C ∧ cls = .ref C ∧ ((fs = [] ∧ dd = none) ∨ ∃ d vs, dd = some d ∧ F d = some (.xd vs) ∧ DenF K cl ad F vs fs)

def Post {α β : Type} (K : PySem.W.Frag) (cl : Cl) (W : WX) (R : Ad → Hp → β → α → Prop) (ad : Ad) (σ : L2.St) (H F : Hp) (s : List Sl) (k : Option Dk) (r : RE α) (Q : β → Hp → Prop) : Prop :=
  match r with
  | .ok d k' => ∀ v H' F', Rel K cl ad σ H' F' s k' → Ext ad k k' F H F' H' → R ad F' v d → Q v H'
  | .ex c fs k' => ∀ cls dd H' F', Rel K cl ad σ H' F' s k' → Ext ad k k' F H F' H' → ExcIs K cl ad F' cls dd c fs → W cls dd σ H'
  | .no => False
def Sn {α β : Type} (K : PySem.W.Frag) (cl : Cl) (W : WX) (R : Ad → Hp → β → α → Prop) (r : L2.St → Hp → (β → Hp → Prop) → Prop) (t : ME α) : Prop :=
  ∀ ad σ H F s k Q, Rel K cl ad σ H F s k → Post K cl W R ad σ H F s k (t s k) Q → r σ H Q
abbrev RD (K : PySem.W.Frag) (cl : Cl) : Ad → Hp → V → D → Prop := fun ad F v d => Den K cl ad F v d
abbrev RA (K : PySem.W.Frag) (cl : Cl) : Ad → Hp → List V → List D → Prop := fun ad F v d => DenA K cl ad F v d
abbrev RB : Ad → Hp → Bool → Bool → Prop := fun _ _ v d => v = d

section
variable {K : PySem.W.Frag} {cl : Cl} {W : WX} {ad : Ad} {σ : L2.St} {H F H1 F1 : Hp} {s : List Sl} {k k1 : Option Dk} {α β γ δ : Type}
theorem Post.from {R : Ad → Hp → β → α → Prop} {r : RE α} {Q : β → Hp → Prop} (e : Ext ad k k1 F H F1 H1) (p : Post K cl W R ad σ H F s k r Q) : Post K cl W R ad σ H1 F1 s k1 r Q := by
  cases r with
  | ok d k' => exact fun v H' F' r x d => p v H' F' r (e.trans x) d
  | ex c fs k' => exact fun c dd H' F' r x d => p c dd H' F' r (e.trans x) d
  | no => exact p
theorem Sn.bind {R : Ad → Hp → β → α → Prop} {R2 : Ad → Hp → δ → γ → Prop} {r : L2.St → Hp → (β → Hp → Prop) → Prop} {t : ME α} {f : α → ME γ} {Q : δ → Hp → Prop} {G : β → Hp → Prop}
    (h : Sn K cl W R r t) (rel : Rel K cl ad σ H F s k) (p : Post K cl W R2 ad σ H F s k (eb t f s k) Q)
    (g : ∀ v d H1 F1 k1, t s k = .ok d k1 → Rel K cl ad σ H1 F1 s k1 → Ext ad k k1 F H F1 H1 → R ad F1 v d → Post K cl W R2 ad σ H1 F1 s k1 (f d s k1) Q → G v H1) : r σ H G := by
  refine h ad σ H F s k G rel ?_
  unfold eb at p
  cases q : t s k with
  | ok d k1 =>
    rw [q] at p
    exact fun v H1 F1 r1 x1 d1 => g v d H1 F1 k1 q r1 x1 d1 (p.from x1)
  | ex c fs k1 =>
    rw [q] at p
    exact p
  | no =>
    rw [q] at p
    exact p
theorem Post.ep {R : Ad → Hp → β → α → Prop} {a : α} {Q : β → Hp → Prop} {v : β} {H' F' : Hp} (p : Post K cl W R ad σ H F s k (G.ep a s k) Q) (rel : Rel K cl ad σ H F s k) (n : New F H F' H') (d : R ad F' v a) : Q v H' :=
  p v H' F' (rel.new n) n.ext d
theorem Post.eo {R : Ad → Hp → β → α → Prop} {o : Option α} {Q : β → Hp → Prop} (p : Post K cl W R ad σ H F s k (G.eo o s k) Q) : ∃ a, o = some a ∧ Post K cl W R ad σ H F s k (.ok a k) Q := by
  cases o with
  | none => exact False.elim p
  | some a => exact ⟨a, rfl, p⟩
theorem Post.ok {R : Ad → Hp → β → α → Prop} {a : α} {Q : β → Hp → Prop} {v : β} {H' F' : Hp} (p : Post K cl W R ad σ H F s k (.ok a k) Q) (rel : Rel K cl ad σ H F s k) (n : New F H F' H') (d : R ad F' v a) : Q v H' :=
  p v H' F' (rel.new n) n.ext d
theorem Post.ok0 {R : Ad → Hp → β → α → Prop} {a : α} {Q : β → Hp → Prop} {v : β} (p : Post K cl W R ad σ H F s k (.ok a k) Q) (rel : Rel K cl ad σ H F s k) (d : R ad F v a) : Q v H :=
  p v H F rel Ext.refl d
end

/-! ### the judgements -/
def clOf (mg : Str → Option Value) : Cl := fun c => match mg c with
  | some (.ref C) => some C
  | _ => none
abbrev Cx.cl (X : Cx) : Cl := clOf X.mg

structure UE (X : Cx) (W : WX) (r : TE) (t : ME D) (e : Expr) : Prop where
  pe : PE X e r
  sn : Sn X.K (clOf X.mg) W (RD X.K (clOf X.mg)) r t
structure UT (X : Cx) (W : WX) (r : TT) (t : ME Bool) (e : Expr) : Prop where
  pt : PT X e r
  sn : Sn X.K (clOf X.mg) W RB r t
structure UW (X : Cx) (W : WX) (r : TT) (t : ME Bool) (e : Expr) : Prop where
  pw : PW X e r
  sn : Sn X.K (clOf X.mg) W RB r t
structure UA (X : Cx) (W : WX) (r : TA) (t : ME (List D)) (es : List Expr) : Prop where
  pa : PA X es r
  sn : Sn X.K (clOf X.mg) W (RA X.K (clOf X.mg)) r t

section
variable {X : Cx} {W : WX} {a b c : Expr} {ra rb rc : TE} {ta tb tc : ME D} {pos : Pos}

/-! ### names and constants -/
def dVar (i : Nat) : ME D := fun s k => match s[i]? with
  | some (.val d) => .ok d k
  | _ => .no
theorem u_var (i : Nat) {x : Str} (h : PE X (.Name x pos) (tVar i)) : UE X W (tVar i) (dVar i) (.Name x pos) := by
  refine ⟨h, fun ad σ H F s k Q rel p => ?_⟩
  unfold dVar at p
  cases q : s[i]? with
  | none => rw [q] at p; exact False.elim p
  | some z =>
    rw [q] at p
    cases z with
    | emp => exact False.elim p
    | own xs => exact False.elim p
    | val d =>
      obtain ⟨v, h1, h2⟩ := rel.val i d q
      exact ⟨v, h1, p.ok0 rel h2⟩
theorem u_c {v : V} {d : D} {e : Expr} (h : PE X e (tC v)) (hd : ∀ ad F, Den X.K (clOf X.mg) ad F v d) : UE X W (tC v) (ep d) e :=
  ⟨h, fun ad σ H F s k Q rel p => p.ok0 (a := d) rel (hd ad F)⟩
theorem u_int {i : Int} {j} : UE X W (tC (.int i)) (ep (.int i)) (.Constant (.int i) j pos) := u_c pe_int fun _ _ => .int i
theorem u_bl {i : Bool} {j} : UE X W (tC (.bl i)) (ep (.bl i)) (.Constant (.bool i) j pos) := u_c pe_bl fun _ _ => .bl i
theorem u_non {j} : UE X W (tC .non) (ep .non) (.Constant .none j pos) := u_c pe_non fun _ _ => .non
theorem u_str {x j} : UE X W (tC (.str x)) (ep (.str x)) (.Constant (.str x) j pos) := u_c pe_str fun _ _ => .str x
theorem u_globStr {x : Str} {z : Str} {u : Value} (h : PE X (.Name x pos) (tC (.str z))) : UE X W (tC (.str z)) (ep (.str z)) (.Name x pos) := u_c h fun _ _ => .str z

/-! ### operators -/
def dOp (f : D → D → Option D) (ta tb : ME D) : ME D := eb ta fun x => eb tb fun y => eo (f x y)
def OpSn (K : PySem.W.Frag) (cl : Cl) (r : R2) (f : D → D → Option D) : Prop :=
  ∀ ad F H x y d e z Q, Same F H → Den K cl ad F x d → Den K cl ad F y e → f d e = some z → (∀ v H' F', New F H F' H' → Den K cl ad F' v z → Q v H') → r x y H Q
theorem sn_op {r : R2} {f : D → D → Option D} {K : PySem.W.Frag} {cl : Cl} (h : OpSn K cl r f) (ha : Sn K cl W (RD K cl) ra ta) (hb : Sn K cl W (RD K cl) rb tb) : Sn K cl W (RD K cl) (tOp r ra rb) (dOp f ta tb) := by
  intro ad σ H F s k Q rel p
  refine ha.bind rel p fun x d H1 F1 k1 _ r1 x1 d1 p1 => ?_
  refine hb.bind r1 p1 fun y e H2 F2 k2 _ r2 x2 d2 p2 => ?_
  obtain ⟨z, hz, p3⟩ := p2.eo
  exact h ad F2 H2 x y d e z Q r2.sub (d1.mono x2.sub) d2 hz fun v H' F' n dv => p3.ok r2 n dv
theorem u_op {op : Operator} {r : R2} {f : D → D → Option D} (ho : OpR X (binaryOp op) r) (h : OpSn X.K (clOf X.mg) r f) (ha : UE X W ra ta a) (hb : UE X W rb tb b) : UE X W (tOp r ra rb) (dOp f ta tb) (.BinOp a op b pos) :=
  ⟨pe_op ho ha.pe hb.pe, sn_op h ha.sn hb.sn⟩
theorem u_cmp {op : CmpOp} {r : R2} {f : D → D → Option D} (ho : OpR X (compareOp op) r) (h : OpSn X.K (clOf X.mg) r f) (ha : UE X W ra ta a) (hb : UE X W rb tb b) (hm : behindInMarks op b = false) : UE X W (tOp r ra rb) (dOp f ta tb) (.Compare a [op] [b] pos) :=
  ⟨pe_cmpR ho ha.pe hb.pe hm, sn_op h ha.sn hb.sn⟩
/-- a value that is a bool, as a test -/
def dB (t : ME D) : ME Bool := eb t fun x => eo (match x with
  | .bl b => some b
  | _ => none)
theorem sn_test {K : PySem.W.Frag} {cl : Cl} (ha : Sn K cl W (RD K cl) ra ta) : Sn K cl W RB (tTest ra) (dB ta) := by
  intro ad σ H F s k Q rel p
  refine ha.bind rel p fun x d H1 F1 k1 _ r1 x1 d1 p1 => ?_
  obtain ⟨z, hz, p3⟩ := p1.eo
  cases d1 with
  | bl b =>
    cases hz
    exact ⟨_, rfl, p3.ok0 r1 rfl⟩
  | _ => cases hz
theorem ut_cmp {op : CmpOp} {r : R2} {f : D → D → Option D} (ho : OpR X (compareOp op) r) (h : OpSn X.K (clOf X.mg) r f) (ha : UE X W ra ta a) (hb : UE X W rb tb b) (hm : behindInMarks op b = false) : UT X W (tTest (tOp r ra rb)) (dB (dOp f ta tb)) (.Compare a [op] [b] pos) :=
  ⟨pt_cmpR ho ha.pe hb.pe hm, sn_test (sn_op h ha.sn hb.sn)⟩
theorem ut_val {e : Expr} (h : UE X W ra ta e) (he : ∀ whole, isTrue e X.env whole = (do let v ← whole; standAt e.pos; holding [v] (truthy v)) := by intro _; rfl) : UT X W (tB ra) (dB ta) e :=
  ⟨pt_val h.pe he, sn_test h.sn⟩
/-- -x -/
def dUn (f : D → Option D) (ta : ME D) : ME D := eb ta fun x => eo (f x)
theorem u_neg (ha : UE X W ra ta a) : UE X W (tUn (rU fun i => .int (-i)) ra) (dUn (fun x => match x with | .int i => some (.int (-i)) | _ => none) ta) (.UnaryOp .USub a pos) := by
  refine ⟨pe_un un_neg ha.pe, fun ad σ H F s k Q rel p => ?_⟩
  refine ha.sn.bind rel p fun x d H1 F1 k1 _ r1 x1 d1 p1 => ?_
  obtain ⟨z, hz, p3⟩ := p1.eo
  cases d1 with
  | int i => cases hz; exact ⟨i, rfl, p3.ok0 r1 (.int _)⟩
  | _ => cases hz

/-! ### and, or, not -/
def dAndV (ta tb : ME D) : ME D := eb ta fun x => match x with
  | .bl true => tb
  | .bl false => ep (.bl false)
  | _ => fun _ _ => .no
def dOrV (ta tb : ME D) : ME D := eb ta fun x => match x with
  | .bl true => ep (.bl true)
  | .bl false => tb
  | _ => fun _ _ => .no
def dNotV (ta : ME D) : ME D := dUn (fun x => match x with | .bl b => some (.bl (!b)) | _ => none) ta
theorem u_one {op} (h : UE X W ra ta a) : UE X W ra ta (.BoolOp op [a] pos) := ⟨pe_one h.pe, h.sn⟩
theorem u_and {rest : List Expr} (ha : UE X W ra ta a) (hb : UE X W rb tb (.BoolOp .And (b :: rest) pos)) : UE X W (tAndV ra rb) (dAndV ta tb) (.BoolOp .And (a :: b :: rest) pos) := by
  refine ⟨pe_and ha.pe hb.pe, fun ad σ H F s k Q rel p => ?_⟩
  refine ha.sn.bind rel p fun x d H1 F1 k1 _ r1 x1 d1 p1 => ?_
  cases d1 with
  | bl b =>
    refine ⟨b, rfl, ?_⟩
    cases b with
    | true => exact iteT (hb.sn ad σ H1 F1 s k1 Q r1 p1)
    | false => exact iteF (p1.ok0 (a := D.bl false) r1 (.bl false))
  | _ => exact False.elim p1
theorem u_or {rest : List Expr} (ha : UE X W ra ta a) (hb : UE X W rb tb (.BoolOp .Or (b :: rest) pos)) : UE X W (tOrV ra rb) (dOrV ta tb) (.BoolOp .Or (a :: b :: rest) pos) := by
  refine ⟨pe_or ha.pe hb.pe, fun ad σ H F s k Q rel p => ?_⟩
  refine ha.sn.bind rel p fun x d H1 F1 k1 _ r1 x1 d1 p1 => ?_
  cases d1 with
  | bl b =>
    refine ⟨b, rfl, ?_⟩
    cases b with
    | false => exact iteF (hb.sn ad σ H1 F1 s k1 Q r1 p1)
    | true => exact iteT (p1.ok0 (a := D.bl true) r1 (.bl true))
  | _ => exact False.elim p1
theorem u_not (ha : UE X W ra ta a) : UE X W (tNotV ra) (dNotV ta) (.UnaryOp .Not a pos) := by
  refine ⟨pe_not ha.pe, fun ad σ H F s k Q rel p => ?_⟩
  refine ha.sn.bind rel p fun x d H1 F1 k1 _ r1 x1 d1 p1 => ?_
  obtain ⟨z, hz, p3⟩ := p1.eo
  cases d1 with
  | bl b => cases hz; exact ⟨b, rfl, p3.ok0 r1 (.bl _)⟩
  | _ => cases hz
def dAnd (ta tb : ME Bool) : ME Bool := eb ta fun x => if x = true then tb else ep false
def dOr (ta tb : ME Bool) : ME Bool := eb ta fun x => if x = true then ep true else tb
def dNot (ta : ME Bool) : ME Bool := eb ta fun x => ep (!x)
variable {qa qb : TT} {sa sb : ME Bool}
theorem UW.ut {e : Expr} (h : UW X W qa sa e) : UT X W qa sa e := ⟨h.pw.pt, h.sn⟩
theorem uw_and1 (ha : UT X W qa sa a) : UW X W qa sa (.BoolOp .And [a] pos) := ⟨pw_and1 ha.pt, ha.sn⟩
theorem uw_or1 (ha : UT X W qa sa a) : UW X W qa sa (.BoolOp .Or [a] pos) := ⟨pw_or1 ha.pt, ha.sn⟩
theorem uw_and {rest : List Expr} (ha : UT X W qa sa a) (hb : UW X W qb sb (.BoolOp .And (b :: rest) pos)) : UW X W (tAnd qa qb) (dAnd sa sb) (.BoolOp .And (a :: b :: rest) pos) := by
  refine ⟨pw_and ha.pt hb.pw, fun ad σ H F s k Q rel p => ?_⟩
  refine ha.sn.bind rel p fun x d H1 F1 k1 _ r1 x1 d1 p1 => ?_
  cases d1
  cases x with
  | true => exact iteT (hb.sn ad σ H1 F1 s k1 Q r1 p1)
  | false => exact iteF (p1.ok0 (a := false) r1 rfl)
theorem uw_or {rest : List Expr} (ha : UT X W qa sa a) (hb : UW X W qb sb (.BoolOp .Or (b :: rest) pos)) : UW X W (tOr qa qb) (dOr sa sb) (.BoolOp .Or (a :: b :: rest) pos) := by
  refine ⟨pw_or ha.pt hb.pw, fun ad σ H F s k Q rel p => ?_⟩
  refine ha.sn.bind rel p fun x d H1 F1 k1 _ r1 x1 d1 p1 => ?_
  cases d1
  cases x with
  | false => exact iteF (hb.sn ad σ H1 F1 s k1 Q r1 p1)
  | true => exact iteT (p1.ok0 (a := true) r1 rfl)
theorem ut_not (ha : UT X W qa sa a) : UT X W (tNot qa) (dNot sa) (.UnaryOp .Not a pos) := by
  refine ⟨pt_not ha.pt, fun ad σ H F s k Q rel p => ?_⟩
  refine ha.sn.bind rel p fun x d H1 F1 k1 _ r1 x1 d1 p1 => ?_
  cases d1
  exact p1.ok0 (a := !x) r1 rfl
def dIfE (sc : ME Bool) (ta tb : ME D) : ME D := eb sc fun x => if x = true then ta else tb
theorem u_ifExp (hc : UT X W qa sa c) (ha : UE X W ra ta a) (hb : UE X W rb tb b) : UE X W (tIf qa ra rb) (dIfE sa ta tb) (.IfExp c a b pos) := by
  refine ⟨pe_ifExp hc.pt ha.pe hb.pe, fun ad σ H F s k Q rel p => ?_⟩
  refine hc.sn.bind rel p fun x d H1 F1 k1 _ r1 x1 d1 p1 => ?_
  cases d1
  cases x with
  | true => exact iteT (ha.sn ad σ H1 F1 s k1 Q r1 p1)
  | false => exact iteF (hb.sn ad σ H1 F1 s k1 Q r1 p1)

/-! ### argument lists, displays -/
def dNil : ME (List D) := ep []
def dCons (ta : ME D) (tr : ME (List D)) : ME (List D) := eb ta fun x => eb tr fun xs => ep (x :: xs)
variable {es : List Expr} {re : TA} {te : ME (List D)}
theorem ua_nil : UA X W tNil dNil [] := ⟨pa_nil, fun ad σ H F s k Q rel p => p.ok0 (a := []) rel .nil⟩
theorem ua_cons (ha : UE X W ra ta a) (hr : UA X W re te es) (hs : starEach (a :: es) X.env = (false, eval a X.env) :: starEach es X.env := by rfl) : UA X W (tCons ra re) (dCons ta te) (a :: es) := by
  refine ⟨pa_cons ha.pe hr.pa hs, fun ad σ H F s k Q rel p => ?_⟩
  refine ha.sn.bind rel p fun x d H1 F1 k1 _ r1 x1 d1 p1 => ?_
  refine hr.sn.bind r1 p1 fun xs ds H2 F2 k2 _ r2 x2 d2 p2 => ?_
  exact p2.ok0 (a := d :: ds) r2 (.cons (d1.mono x2.sub) d2)
def dTup (te : ME (List D)) : ME D := eb te fun xs => eo (if xs.length ≤ sizeLine then some (.tup xs) else none)
def dLst (te : ME (List D)) : ME D := eb te fun xs => eo (if xs.length ≤ sizeLine then some (.lst xs) else none)
theorem u_tup {x1} (h : UA X W re te es) : UE X W (tTup re) (dTup te) (.Tuple es x1 pos) := by
  refine ⟨pe_tup h.pa, fun ad σ H F s k Q rel p => ?_⟩
  refine h.sn.bind rel p fun xs ds H1 F1 k1 _ r1 x1 d1 p1 => ?_
  obtain ⟨z, hz, p3⟩ := p1.eo
  by_cases hl : ds.length ≤ sizeLine
  · rw [if_pos hl] at hz
    cases hz
    refine ⟨by rw [d1.length]; exact hl, fun q hq => ?_⟩
    have n := New.one (o := .tup xs) r1.sub hq
    exact p3.ok r1 n (.tup (.of upd_same) (d1.mono n.sub))
  · rw [if_neg hl] at hz; cases hz
theorem u_lst (h : UA X W re te es) : UE X W (tLst re) (dLst te) (.List es pos) := by
  refine ⟨pe_lst h.pa, fun ad σ H F s k Q rel p => ?_⟩
  refine h.sn.bind rel p fun xs ds H1 F1 k1 _ r1 x1 d1 p1 => ?_
  obtain ⟨z, hz, p3⟩ := p1.eo
  by_cases hl : ds.length ≤ sizeLine
  · rw [if_pos hl] at hz
    cases hz
    refine ⟨by rw [d1.length]; exact hl, fun q hq => ?_⟩
    have n := New.one (o := .lst xs) r1.sub hq
    exact p3.ok r1 n (.lst upd_same (d1.mono n.sub))
  · rw [if_neg hl] at hz; cases hz

/-! ### built-ins called -/
def CallSn (K : PySem.W.Frag) (cl : Cl) (r : List V → Hp → VK → Prop) (f : List D → Option D) : Prop :=
  ∀ ad F H xs ds z Q, Same F H → DenA K cl ad F xs ds → f ds = some z → (∀ v H' F', New F H F' H' → Den K cl ad F' v z → Q v H') → r xs H Q
def dCallB (f : List D → Option D) (te : ME (List D)) : ME D := eb te fun xs => eo (f xs)
theorem sn_callB {r : List V → Hp → VK → Prop} {f : List D → Option D} {K : PySem.W.Frag} {cl : Cl} (h : CallSn K cl r f) (ha : Sn K cl W (RA K cl) re te) : Sn K cl W (RD K cl) (tCB r re) (dCallB f te) := by
  intro ad σ H F s k Q rel p
  refine ha.bind rel p fun x d H1 F1 k1 _ r1 x1 d1 p1 => ?_
  obtain ⟨z, hz, p3⟩ := p1.eo
  exact h ad F1 H1 x d z Q r1.sub d1 hz fun v H' F' n dv => p3.ok r1 n dv
theorem u_callB {id : String} {x : Str} {p : Pos} {r : List V → Hp → VK → Prop} {f : List D → Option D} (hc : CallR X (.builtin id) r) (h : CallSn X.K (clOf X.mg) r f) (hg : Gl X x) (hm : X.mg x = none) (hv : bootBuiltins x = some (.builtin id)) (ha : UA X W re te (a :: es))
    (hn : x ≠ "__name__" := by decide) (hdb : (x == ("__debug__" : Str)) = false := by decide) (he : starEach (a :: es) X.env = (false, eval a X.env) :: starEach es X.env := by rfl) (hpl : (backTo pos (starEach es X.env)).any (·.1) = false := by rfl) :
    UE X W (tCB r re) (dCallB f te) (.Call (.Name x p) (a :: es) [] pos) :=
  ⟨pe_callB hc hg hm hv ha.pa hn hdb he hpl, sn_callB h ha.sn⟩
theorem u_callTy {T : String} {x : Str} {p : Pos} {r : List V → Hp → VK → Prop} {f : List D → Option D} (hc : CallR X (.type T) r) (h : CallSn X.K (clOf X.mg) r f) (hg : Gl X x) (hm : X.mg x = none) (hv : bootBuiltins x = some (.type T)) (ha : UA X W re te (a :: es))
    (hn : x ≠ "__name__" := by decide) (hdb : (x == ("__debug__" : Str)) = false := by decide) (he : starEach (a :: es) X.env = (false, eval a X.env) :: starEach es X.env := by rfl) (hpl : (backTo pos (starEach es X.env)).any (·.1) = false := by rfl) :
    UE X W (tCB r re) (dCallB f te) (.Call (.Name x p) (a :: es) [] pos) :=
  ⟨pe_callTy hc hg hm hv ha.pa hn hdb he hpl, sn_callB h ha.sn⟩
/-- any expression with such a reading -/
theorem u_cb {e : Expr} {r : List V → Hp → VK → Prop} {f : List D → Option D} (hpe : PE X e (tCB r re)) (h : CallSn X.K (clOf X.mg) r f) (ha : Sn X.K (clOf X.mg) W (RA X.K (clOf X.mg)) re te) : UE X W (tCB r re) (dCallB f te) e :=
  ⟨hpe, sn_callB h ha⟩
end
end G
namespace G
open PySem PySem.Spec PyProof.Rows L2

/-! ### statements -/
inductive RS where
  | nx (s : List Sl) (k : Option Dk) | brk (s : List Sl) (k : Option Dk) | ct (s : List Sl) (k : Option Dk)
  | ret (d : D) (k : Option Dk) | ex (c : Str) (fs : List (Str × D)) (s : List Sl) (k : Option Dk) | no
def MS := List Sl → Option Dk → RS
/-- an expression, then the slots -/
def sb {α : Type} (m : ME α) (f : α → MS) : MS := fun s k => match m s k with
  | .ok a k' => f a s k'
  | .ex c fs k' => .ex c fs s k'
  | .no => .no
def ss (a b : MS) : MS := fun s k => match a s k with
  | .nx s' k' => b s' k'
  | .brk s' k' => .brk s' k'
  | .ct s' k' => .ct s' k'
  | .ret d k' => .ret d k'
  | .ex c fs s' k' => .ex c fs s' k'
  | .no => .no

structure RelS (K : PySem.W.Frag) (cl : Cl) (ad : Ad) (H0 F0 : Hp) (k0 : Option Dk) (σ : L2.St) (H F : Hp) (s : List Sl) (k : Option Dk) : Prop where
  rel : Rel K cl ad σ H F s k
  ext : Ext ad k0 k F0 H0 F H
  fr : ∀ (i : Nat) (xs : List D) (b : Addr), s[i]? = some (Sl.own xs) → σ[i]? = some (some (V.ref b)) → H0 b = none

def PostS (K : PySem.W.Frag) (cl : Cl) (W : WX) (ad : Ad) (H0 F0 : Hp) (k0 : Option Dk) (F : Hp) (r : RS) (E : Ends) : Prop :=
  match r with
  | .nx s' k' => ∀ σ' H' F', RelS K cl ad H0 F0 k0 σ' H' F' s' k' → Same F F' → E.nx σ' H'
  | .brk s' k' => ∀ σ' H' F', RelS K cl ad H0 F0 k0 σ' H' F' s' k' → Same F F' → E.bk σ' H'
  | .ct s' k' => ∀ σ' H' F', RelS K cl ad H0 F0 k0 σ' H' F' s' k' → Same F F' → E.ct σ' H'
  | .ret d k' => ∀ v σ' H' F' s', RelS K cl ad H0 F0 k0 σ' H' F' s' k' → Same F F' → Den K cl ad F' v d → E.rt v H'
  | .ex c fs s' k' => ∀ cls dd σ' H' F', RelS K cl ad H0 F0 k0 σ' H' F' s' k' → Same F F' → ExcIs K cl ad F' cls dd c fs → W cls dd σ' H'
  | .no => False
def SnS (K : PySem.W.Frag) (cl : Cl) (W : WX) (r : TS) (t : MS) : Prop :=
  ∀ ad H0 F0 k0 σ H F s k E, RelS K cl ad H0 F0 k0 σ H F s k → PostS K cl W ad H0 F0 k0 F (t s k) E → r E σ H

section
variable {K : PySem.W.Frag} {cl : Cl} {W : WX} {ad : Ad} {H0 F0 : Hp} {k0 : Option Dk} {σ : L2.St} {H F H1 F1 : Hp} {s : List Sl} {k k1 : Option Dk} {α β γ δ : Type}
theorem PostS.from {r : RS} {E : Ends} (e : Same F F1) (p : PostS K cl W ad H0 F0 k0 F r E) : PostS K cl W ad H0 F0 k0 F1 r E := by
  cases r with
  | nx s' k' => exact fun σ' H' F' r x => p σ' H' F' r (e.trans x)
  | brk s' k' => exact fun σ' H' F' r x => p σ' H' F' r (e.trans x)
  | ct s' k' => exact fun σ' H' F' r x => p σ' H' F' r (e.trans x)
  | ret d k' => exact fun v σ' H' F' s' r x => p v σ' H' F' s' r (e.trans x)
  | ex c fs s' k' => exact fun c dd σ' H' F' r x => p c dd σ' H' F' r (e.trans x)
  | no => exact p
theorem RelS.step (r : RelS K cl ad H0 F0 k0 σ H F s k) (r1 : Rel K cl ad σ H1 F1 s k1) (e : Ext ad k k1 F H F1 H1) : RelS K cl ad H0 F0 k0 σ H1 F1 s k1 :=
  ⟨r1, r.ext.trans e, r.fr⟩
/-- an expression first -/
theorem Sn.sbind {R : Ad → Hp → β → α → Prop} {r : L2.St → Hp → (β → Hp → Prop) → Prop} {t : ME α} {f : α → MS} {E : Ends} {G : β → Hp → Prop}
    (h : Sn K cl W R r t) (rel : RelS K cl ad H0 F0 k0 σ H F s k) (p : PostS K cl W ad H0 F0 k0 F (sb t f s k) E)
    (g : ∀ v d H1 F1 k1, t s k = .ok d k1 → RelS K cl ad H0 F0 k0 σ H1 F1 s k1 → Ext ad k k1 F H F1 H1 → R ad F1 v d → PostS K cl W ad H0 F0 k0 F1 (f d s k1) E → G v H1) : r σ H G := by
  refine h ad σ H F s k G rel.rel ?_
  unfold sb at p
  cases q : t s k with
  | ok d k1 =>
    rw [q] at p
    exact fun v H1 F1 r1 x1 d1 => g v d H1 F1 k1 q (rel.step r1 x1) x1 d1 (p.from x1.sub)
  | ex c fs k1 =>
    rw [q] at p
    exact fun cls dd H1 F1 r1 x1 d1 => p cls dd σ H1 F1 (rel.step r1 x1) x1.sub d1
  | no =>
    rw [q] at p
    exact p
theorem SnS.seq {r1 r2 : TS} {t1 t2 : MS} (h1 : SnS K cl W r1 t1) (h2 : SnS K cl W r2 t2) : SnS K cl W (tSeq r1 r2) (ss t1 t2) := by
  intro ad H0 F0 k0 σ H F s k E rel p
  refine h1 ad H0 F0 k0 σ H F s k _ rel ?_
  unfold ss at p
  cases q : t1 s k with
  | nx s' k' =>
    rw [q] at p
    exact fun σ' H' F' r x => h2 ad H0 F0 k0 σ' H' F' s' k' E r (p.from x)
  | brk s' k' => rw [q] at p; exact p
  | ct s' k' => rw [q] at p; exact p
  | ret d k' => rw [q] at p; exact p
  | ex c fs s' k' => rw [q] at p; exact p
  | no => rw [q] at p; exact p
end

structure US (X : Cx) (W : WX) (r : TS) (t : MS) (st : Stmt) : Prop where
  ps : PS X st r
  sn : SnS X.K (clOf X.mg) W r t
structure USs (X : Cx) (W : WX) (r : TS) (t : MS) (st : List Stmt) : Prop where
  ps : PSs X st r
  sn : SnS X.K (clOf X.mg) W r t

/-- a target: which slots it sets -/
def MG := D → List Sl → Option (List Sl)
def SnG (K : PySem.W.Frag) (cl : Cl) (is : List Nat) (g : TG) (f : MG) : Prop :=
  ∀ ad σ H F s k v d s' (Q : L2.St → Hp → Prop), Rel K cl ad σ H F s k → Den K cl ad F v d → f d s = some s' →
    (∀ σ', Rel K cl ad σ' H F s' k → σ'.length = σ.length → (∀ j : Nat, j ∉ is → σ'[j]? = σ[j]?) → (∀ (i : Nat) xs, s'[i]? = some (Sl.own xs) → s[i]? = some (Sl.own xs) ∧ σ'[i]? = σ[i]?) → Q σ' H) → g v σ H Q
structure UG (X : Cx) (is : List Nat) (g : TG) (f : MG) (tg : Expr) : Prop where
  pg : PG X tg g
  sn : SnG X.K (clOf X.mg) is g f

section
variable {K : PySem.W.Frag} {cl : Cl} {ad : Ad} {σ : L2.St} {H F : Hp} {s : List Sl} {k : Option Dk}
/-- a value is stored in slot i -/
theorem Rel.set (r : Rel K cl ad σ H F s k) (i : Nat) {v : V} {d : D} (hd : Den K cl ad F v d) : Rel K cl ad (σ.set i (some v)) H F (s.set i (.val d)) k where
  sub := r.sub
  len := by rw [List.length_set, List.length_set]; exact r.len
  val := fun j e h => by
    by_cases hj : i = j
    · subst hj
      by_cases hl : i < s.length
      · rw [List.getElem?_set_self hl] at h
        cases h
        exact ⟨v, List.getElem?_set_self (by rw [r.len]; exact hl), hd⟩
      · rw [List.getElem?_eq_none (by simpa using hl)] at h; cases h
    · rw [List.getElem?_set_ne hj] at h ⊢
      exact r.val j e h
  own := fun j xs h => by
    by_cases hj : i = j
    · subst hj
      by_cases hl : i < s.length
      · rw [List.getElem?_set_self hl] at h; cases h
      · rw [List.getElem?_eq_none (by simpa using hl)] at h; cases h
    · rw [List.getElem?_set_ne hj] at h ⊢
      exact r.own j xs h
  inj := fun a b xs ys c h1 h2 h3 h4 => by
    have na : i ≠ a := fun e => by
      subst e
      by_cases hl : i < s.length
      · rw [List.getElem?_set_self hl] at h1; cases h1
      · rw [List.getElem?_eq_none (by simpa using hl)] at h1; cases h1
    have nb : i ≠ b := fun e => by
      subst e
      by_cases hl : i < s.length
      · rw [List.getElem?_set_self hl] at h2; cases h2
      · rw [List.getElem?_eq_none (by simpa using hl)] at h2; cases h2
    rw [List.getElem?_set_ne na] at h1 h3
    rw [List.getElem?_set_ne nb] at h2 h4
    exact r.inj a b xs ys c h1 h2 h3 h4
  dk := r.dk
theorem own_set {i j : Nat} {xs : List D} {d : D} (h : (s.set i (.val d))[j]? = some (Sl.own xs)) : i ≠ j ∧ s[j]? = some (Sl.own xs) := by
  have n : i ≠ j := fun e => by
    subst e
    by_cases hl : i < s.length
    · rw [List.getElem?_set_self hl] at h; cases h
    · rw [List.getElem?_eq_none (by simpa using hl)] at h; cases h
  rw [List.getElem?_set_ne n] at h
  exact ⟨n, h⟩
theorem RelS.set {H0 F0 : Hp} {k0 : Option Dk} (r : RelS K cl ad H0 F0 k0 σ H F s k) (i : Nat) {v : V} {d : D} (hd : Den K cl ad F v d) : RelS K cl ad H0 F0 k0 (σ.set i (some v)) H F (s.set i (.val d)) k :=
  ⟨r.rel.set i hd, r.ext, fun j xs b h1 h2 => by
    obtain ⟨n, h⟩ := own_set h1
    rw [List.getElem?_set_ne n] at h2
    exact r.fr j xs b h h2⟩
end

section
variable {X : Cx} {W : WX} {a b c e : Expr} {ra rb rc : TE} {ta tb tc : ME D} {pos : Pos} {r1 r2 : TS} {t1 t2 : MS} {st : Stmt} {rest : List Stmt} {qa : TT} {sa : ME Bool}

def sNx : MS := fun s k => .nx s k
theorem us_nil : USs X W tNext sNx [] := ⟨pss_nil, fun ad H0 F0 k0 σ H F s k E rel p => p σ H F rel (Same.refl _)⟩
theorem us_cons (h1 : US X W r1 t1 st) (h2 : USs X W r2 t2 rest) : USs X W (tSeq r1 r2) (ss t1 t2) (st :: rest) := ⟨pss_cons h1.ps h2.ps, h1.sn.seq h2.sn⟩
theorem us_one (h1 : US X W r1 t1 st) : USs X W r1 t1 [st] := ⟨pss_one h1.ps, h1.sn⟩
theorem us_pass : US X W tNext sNx (.Pass pos) := ⟨ps_pass, fun ad H0 F0 k0 σ H F s k E rel p => p σ H F rel (Same.refl _)⟩
def sBrk : MS := fun s k => .brk s k
def sCt : MS := fun s k => .ct s k
theorem us_break : US X W tBreak sBrk (.Break pos) := ⟨ps_break, fun ad H0 F0 k0 σ H F s k E rel p => p σ H F rel (Same.refl _)⟩
theorem us_continue : US X W tCont sCt (.Continue pos) := ⟨ps_continue, fun ad H0 F0 k0 σ H F s k E rel p => p σ H F rel (Same.refl _)⟩
def sDrop (t : ME D) : MS := sb t fun _ => sNx
theorem us_expr (h : UE X W ra ta e) (hs : swapsWith e none pos.line X.env = pure false := by rfl) : US X W (tDrop ra) (sDrop ta) (.Expr e pos) :=
  ⟨ps_expr h.pe hs, fun ad H0 F0 k0 σ H F s k E rel p => h.sn.sbind rel p fun v d H1 F1 k1 _ r1 x1 d1 p1 => p1 σ H1 F1 r1 (Same.refl _)⟩
def sRet (t : ME D) : MS := sb t fun d => fun _ k => .ret d k
theorem us_ret (h : UE X W ra ta e) : US X W (tRet ra) (sRet ta) (.Return (some e) pos) :=
  ⟨ps_ret h.pe, fun ad H0 F0 k0 σ H F s k E rel p => h.sn.sbind rel p fun v d H1 F1 k1 _ r1 x1 d1 p1 => p1 v σ H1 F1 s r1 (Same.refl _) d1⟩
def sRetN : MS := fun _ k => .ret .non k
theorem us_retN : US X W tRetN sRetN (.Return none pos) :=
  ⟨ps_retN, fun ad H0 F0 k0 σ H F s k E rel p => p .non σ H F s rel (Same.refl _) .non⟩
def sIf (c : ME Bool) (t u : MS) : MS := sb c fun b => if b = true then t else u
theorem us_if {as bs : List Stmt} (hc : UT X W qa sa c) (h1 : USs X W r1 t1 as) (h2 : USs X W r2 t2 bs) : US X W (tIfS qa r1 r2) (sIf sa t1 t2) (.If c as bs pos) := by
  refine ⟨ps_if hc.pt h1.ps h2.ps, fun ad H0 F0 k0 σ H F s k E rel p => hc.sn.sbind rel p fun v d H1 F1 k1 _ q1 x1 d1 p1 => ?_⟩
  cases d1
  cases v with
  | true => exact iteT (h1.sn ad H0 F0 k0 σ H1 F1 s k1 E q1 p1)
  | false => exact iteF (h2.sn ad H0 F0 k0 σ H1 F1 s k1 E q1 p1)

/-! ### targets, assignments -/
def mName (i : Nat) : MG := fun d s => some (s.set i (.val d))
theorem ug_name {i : Nat} {x : Str} (hN : X.N.Nodup) (hi : X.N[i]? = some x := by rfl) (hx : Loc X.env.scope x := by first | exact .inl rfl | exact .inr rfl) (hf : X.fn x = true ∨ X.env.scope.names.lookup x = some .local := by first | exact .inl rfl | exact .inr rfl) : UG X [i] (gName i) (mName i) (.Name x pos) := by
  refine ⟨pg_name hN hi hx hf, fun ad σ H F s k v d s' Q rel hd e q => ?_⟩
  cases e
  refine q _ (rel.set i hd) (List.length_set ..) (fun j hj => ?_) fun j xs h1 => ?_
  · exact List.getElem?_set_ne (fun e => hj (by rw [e]; exact List.mem_singleton_self _))
  · obtain ⟨n, h⟩ := own_set h1
    exact ⟨h, List.getElem?_set_ne n⟩
def MGs := List D → List Sl → Option (List Sl)
def SnGs (K : PySem.W.Frag) (cl : Cl) (is : List Nat) (g : TGs) (f : MGs) : Prop :=
  ∀ ad σ H F s k v d s' (Q : L2.St → Hp → Prop), Rel K cl ad σ H F s k → DenA K cl ad F v d → f d s = some s' →
    (∀ σ', Rel K cl ad σ' H F s' k → σ'.length = σ.length → (∀ j : Nat, j ∉ is → σ'[j]? = σ[j]?) → (∀ (i : Nat) xs, s'[i]? = some (Sl.own xs) → s[i]? = some (Sl.own xs) ∧ σ'[i]? = σ[i]?) → Q σ' H) → g v σ H Q
structure UGs (X : Cx) (is : List Nat) (g : TGs) (f : MGs) (tg : List Expr) : Prop where
  pg : PGs X tg g
  sn : SnGs X.K (clOf X.mg) is g f
def mNil : MGs := fun d s => match d with
  | [] => some s
  | _ => none
def mCons (f : MG) (g : MGs) : MGs := fun d s => match d with
  | x :: r => match f x s with
    | some s' => g r s'
    | none => none
  | [] => none
theorem ugs_nil : UGs X [] gNil mNil [] := by
  refine ⟨pgs_nil, fun ad σ H F s k v d s' Q rel hd e q => ?_⟩
  cases hd with
  | nil => cases e; exact ⟨rfl, q σ rel rfl (fun _ _ => rfl) fun _ _ h => ⟨h, rfl⟩⟩
  | cons _ _ => cases e
theorem ugs_cons {is js : List Nat} {g : TG} {gs : TGs} {f : MG} {fs : MGs} {es : List Expr} (h1 : UG X is g f e) (h2 : UGs X js gs fs es)
    (hs : (assignEach (e :: es) X.env).map (·.2) = assign e X.env :: (assignEach es X.env).map (·.2) := by rfl) : UGs X (is ++ js) (gCons g gs) (mCons f fs) (e :: es) := by
  refine ⟨pgs_cons h1.pg h2.pg hs, fun ad σ H F s k v d s' Q rel hd e q => ?_⟩
  cases hd with
  | nil => cases e
  | @cons v vs d ds hx hr =>
    refine ⟨v, vs, rfl, ?_⟩
    cases z : f d s with
    | none => simp only [mCons, z] at e; cases e
    | some s1 =>
      simp only [mCons, z] at e
      refine h1.sn ad σ H F s k v d s1 _ rel hx z fun σ1 r1 l1 k1 o1 => ?_
      refine h2.sn ad σ1 H F s1 k vs ds s' _ r1 hr e fun σ2 r2 l2 k2 o2 => ?_
      refine q σ2 r2 (l2.trans l1) (fun j hj => ?_) fun j xs h => ?_
      · rw [k2 j (fun m => hj (List.mem_append_right _ m)), k1 j (fun m => hj (List.mem_append_left _ m))]
      · obtain ⟨a1, a2⟩ := o2 j xs h
        obtain ⟨b1, b2⟩ := o1 j xs a1
        exact ⟨b1, a2.trans b2⟩
def mTup (n : Nat) (f : MGs) : MG := fun d s => match d with
  | .tup xs => if xs.length = n then f xs s else none
  | _ => none
theorem ug_tup {is : List Nat} {gs : TGs} {fs : MGs} {es : List Expr} {kk : Nat} {n : Nat} (hc : X.calm = true) (h : UGs X is gs fs es) (hn : (assignEach es X.env).length = n := by rfl) (hst : (assignEach es X.env).findIdx? (·.1) = none := by rfl) : UG X is (gTup X.K n gs) (mTup n fs) (.Tuple es kk pos) := by
  refine ⟨pg_tup hc h.pg hn hst, fun ad σ H F s k v d s' Q rel hd e q => ?_⟩
  cases hd with
  | tup hs ha =>
    rename_i xs ds
    by_cases hl : ds.length = n
    · simp only [mTup, if_pos hl] at e
      exact ⟨_, _, rfl, sqT_same rel.sub hs, ha.length.trans hl, h.sn ad σ H F s k _ _ s' Q rel ha e q⟩
    · simp only [mTup, if_neg hl] at e; cases e
  | _ => cases e
def sAsg (t : ME D) (g : MG) : MS := sb t fun d => fun s k => match g d s with
  | some s' => .nx s' k
  | none => .no
theorem sn_asg {is : List Nat} {g : TG} {f : MG} {K : PySem.W.Frag} {cl : Cl} (h : Sn K cl W (RD K cl) ra ta) (hg : SnG K cl is g f) : SnS K cl W (tAsg ra g) (sAsg ta f) := by
  intro ad H0 F0 k0 σ H F s k E rel p
  refine h.sbind rel p fun v d H1 F1 k1 _ q1 x1 d1 p1 => ?_
  cases z : f d s with
  | none => simp only [z] at p1; exact False.elim p1
  | some s' =>
    simp only [z] at p1
    refine hg ad σ H1 F1 s k1 v d s' _ q1.rel d1 z fun σ' r' l' k' o' => ?_
    refine p1 σ' H1 F1 ⟨r', q1.ext, fun i xs b h1 h2 => ?_⟩ (Same.refl _)
    obtain ⟨a1, a2⟩ := o' i xs h1
    exact q1.fr i xs b a1 (a2 ▸ h2)
/-- x = e -/
theorem us_set {i : Nat} {x : Str} {pos' : Pos} (hN : X.N.Nodup) (h : UE X W ra ta e) (hi : X.N[i]? = some x := by rfl) (hx : Loc X.env.scope x := by first | exact .inl rfl | exact .inr rfl) (hs : swapsWith e (some (.Name x pos')) pos.line X.env = pure false := by rfl)
    (hf : X.fn x = true ∨ X.env.scope.names.lookup x = some .local := by first | exact .inl rfl | exact .inr rfl) : US X W (tAsg ra (gName i)) (sAsg ta (mName i)) (.Assign [.Name x pos'] e pos) := by
  refine ⟨ps_set hN hi hx h.pe hs hf, sn_asg (is := [i]) h.sn fun ad σ H F s k v d s' Q rel hd e q => ?_⟩
  cases e
  refine q _ (rel.set i hd) (List.length_set ..) (fun j hj => ?_) fun j xs h1 => ?_
  · exact List.getElem?_set_ne (fun e => hj (by rw [e]; exact List.mem_singleton_self _))
  · obtain ⟨n, h⟩ := own_set h1
    exact ⟨h, List.getElem?_set_ne n⟩
/-- target = e -/
theorem us_asg {is : List Nat} {tg : Expr} {g : TG} {f : MG} (h : UE X W ra ta e) (hg : UG X is g f tg) (hs : swapsWithSole [tg] e pos.line X.env = pure false := by rfl) (hw : swappedStores [tg] e X.env = pure none := by rfl)
    (h1 : (assignEach [tg] X.env).map (·.2) = [assign tg X.env] := by rfl) : US X W (tAsg ra g) (sAsg ta f) (.Assign [tg] e pos) :=
  ⟨ps_asg h.pe hg.pg hs hw h1, sn_asg h.sn hg.sn⟩
/-- a, b = x, y -/
def sPar (i j : Nat) (te : ME (List D)) : MS := sb te fun ds => fun s k => match ds with
  | [x, y] => .nx ((s.set i (.val x)).set j (.val y)) k
  | _ => .no
theorem us_par {i j : Nat} {x y : Str} {ea eb' : Expr} {re : TA} {te : ME (List D)} {px py pt : Pos} {kt k2 : Nat} {pt2 : Pos} (hc : X.calm = true) (hN : X.N.Nodup) (h : UA X W re te [ea, eb']) (hi : X.N[i]? = some x := by rfl) (hj : X.N[j]? = some y := by rfl) (hij : i ≠ j := by decide)
    (hx : X.env.scope.names.lookup x = some .local := by rfl) (hy : X.env.scope.names.lookup y = some .local := by rfl)
    (hw : swappedStores [.Tuple [.Name x px, .Name y py] kt pt] (.Tuple [ea, eb'] k2 pt2) X.env = pure (some [x, y]) := by rfl)
    (hs : swapsWithSole [.Tuple [.Name x px, .Name y py] kt pt] (.Tuple [ea, eb'] k2 pt2) pos.line X.env = pure false := by rfl) :
    US X W (tPar i j re) (sPar i j te) (.Assign [.Tuple [.Name x px, .Name y py] kt pt] (.Tuple [ea, eb'] k2 pt2) pos) := by
  refine ⟨ps_par hc hN hi hj hij hx hy h.pa hw hs, fun ad H0 F0 k0 σ H F s k E rel p => h.sn.sbind rel p fun v d H1 F1 k1 _ q1 x1 d1 p1 => ?_⟩
  cases d1 with
  | nil => exact False.elim p1
  | cons h1 r1 =>
    cases r1 with
    | nil => exact False.elim p1
    | cons h2 r2 =>
      cases r2 with
      | cons _ _ => exact False.elim p1
      | nil => exact ⟨_, _, rfl, p1 _ H1 F1 ((q1.set i h1).set j h2) (Same.refl _)⟩
end
end G
namespace G
open PySem PySem.Spec PyProof.Rows L2

/-! ### what is walked -/
def ItOk (K : PySem.W.Frag) (cl : Cl) (ad : Ad) (J : It) (F : Hp) (ds : List D) : Prop :=
  ∀ H2 F2, Same F F2 → Same F2 H2 → (∀ (i : Nat) d, ds[i]? = some d → J.go i H2 ∧ ∀ x H3, J.yld i H2 x H3 → ∃ F3, New F2 H2 F3 H3 ∧ Den K cl ad F3 x d) ∧ ∀ i, ds.length ≤ i → J.stop i H2
abbrev RI (K : PySem.W.Frag) (cl : Cl) : Ad → Hp → It → List D → Prop := fun ad F J ds => ItOk K cl ad J F ds
structure UI (X : Cx) (W : WX) (tg : Expr) (wi : TI) (t : ME (List D)) (iter : Expr) : Prop where
  pi : PI X tg iter wi
  sn : Sn X.K (clOf X.mg) W (RI X.K (clOf X.mg)) wi t

/-- a text of one sign -/
abbrev sgn (c : Nat) : Str := ⟨#[c]⟩
def signs (x : Str) : List D := x.cps.toList.map fun c => D.str (sgn c)
def itemsOf : D → Option (List D)
  | .lst xs => some xs
  | .tup xs => some xs
  | .str x => some (signs x)
  | _ => none
def iAny (K : PySem.W.Frag) (tl : TE) : TI := fun σ H R => tl σ H fun x H1 => (∃ a, x = .ref a ∧ (∃ xs, SqL K H1 a xs) ∧ R (Itl K a) H1) ∨ (∃ a, x = .ref a ∧ (∃ xs, SqT K H1 a xs) ∧ R (Itt K a) H1) ∨ ∃ z, x = .str z ∧ R (Its z) H1
section
variable {X : Cx} {W : WX} {tg e : Expr} {ra : TE} {ta : ME D} {pos : Pos}
theorem pi_any {tl : TE} (hl : PE X e tl) : PI X tg e (iAny X.K tl) := by
  refine ⟨fun pins s σ H R I h => ?_⟩
  refine thn (hl.run pins s σ H _ I h) fun v s1 ⟨x, H1, I1, r1, q1⟩ => ?_
  rcases q1 with ⟨a, e, ⟨xs, hq⟩, q⟩ | ⟨a, e, ⟨xs, hq⟩, q⟩ | ⟨z, e, q⟩
  · subst e
    cases r1
    obtain ⟨its, rv, p, hz⟩ := I1.list hq
    exact wpAny_pyIter_list p.isList (pi_one (tk := s1.toks) I1 _ (turn_list a _) ⟨_, Heap.get?_push_size _ rfl, rfl, rfl⟩ q)
  · subst e
    cases r1
    obtain ⟨its, rv, p, hz⟩ := I1.tuple hq
    exact wpAny_pyIter_tuple (show s1.heap.IsTuple a its.toArray from p) (pi_one (tk := s1.toks) I1 _ (turn_tuple a _) ⟨_, Heap.get?_push_size _ rfl, rfl, rfl⟩ q)
  · subst e
    obtain ⟨t, rfl⟩ := r1
    cases ha : z.cps.all (· < 128)
    · exact wpAny_pyIter_wide ha (pi_one (tk := s1.toks) I1 _ (turn_str _ z t "str_iterator" (.inr rfl)) ⟨_, Heap.get?_push_size _ rfl, rfl, rfl⟩ q)
    · exact wpAny_pyIter_ascii ha (pi_one (tk := s1.toks) I1 _ (turn_str _ z t "str_ascii_iterator" (.inl rfl)) ⟨_, Heap.get?_push_size _ rfl, rfl, rfl⟩ q)
def dItems (t : ME D) : ME (List D) := eb t fun d => eo (itemsOf d)
section
variable {K : PySem.W.Frag} {cl : Cl} {ad : Ad} {F : Hp}
theorem itOk_list {a : Addr} {xs : List V} {ds : List D} (h : SqL K F a xs) (hd : DenA K cl ad F xs ds) : ItOk K cl ad (Itl K a) F ds := fun H2 F2 e1 e2 =>
  ⟨fun i d q => by
    obtain ⟨x, h1, h2⟩ := hd.get q
    refine ⟨⟨xs, x, (e1.trans e2).seq h, h1⟩, fun y H3 ⟨e, z⟩ => ?_⟩
    subst e
    have := (z xs ((e1.trans e2).seq h)).symm.trans h1
    cases this
    exact ⟨F2, New.refl e2, h2.mono e1⟩,
  fun i q => ⟨xs, (e1.trans e2).seq h, by rw [hd.length]; exact q⟩⟩
theorem itOk_tup {a : Addr} {xs : List V} {ds : List D} (h : SqT K F a xs) (hd : DenA K cl ad F xs ds) : ItOk K cl ad (Itt K a) F ds := fun H2 F2 e1 e2 =>
  ⟨fun i d q => by
    obtain ⟨x, h1, h2⟩ := hd.get q
    refine ⟨⟨xs, x, sqT_same (e1.trans e2) h, h1⟩, fun y H3 ⟨e, z⟩ => ?_⟩
    subst e
    have := (z xs (sqT_same (e1.trans e2) h)).symm.trans h1
    cases this
    exact ⟨F2, New.refl e2, h2.mono e1⟩,
  fun i q => ⟨xs, sqT_same (e1.trans e2) h, by rw [hd.length]; exact q⟩⟩
theorem itOk_str {x : Str} : ItOk K cl ad (Its x) F (signs x) := fun H2 F2 e1 e2 =>
  ⟨fun i d q => by
    unfold signs at q
    rw [List.getElem?_map] at q
    cases z : x.cps.toList[i]? with
    | none => rw [z] at q; cases q
    | some c =>
      rw [z] at q
      cases q
      have hi : i < x.cps.toList.length := (List.getElem?_eq_some_iff.mp z).1
      refine ⟨show i < x.cps.size by simpa using hi, fun y H3 ⟨e, c', h1, h2⟩ => ?_⟩
      subst e h2
      have : x.cps.toList[i]? = some c' := by rw [Array.getElem?_toList]; exact h1
      rw [z] at this
      cases this
      exact ⟨F2, New.refl e2, .str _⟩,
  fun i q => by
    unfold signs at q
    rw [List.length_map, Array.length_toList] at q
    exact q⟩
theorem itOk_rng {lo : Int} {n : Nat} : ItOk K cl ad (Itr lo n) F ((List.range n).map fun i => D.int (lo + (i : Nat))) := fun H2 F2 e1 e2 =>
  ⟨fun i d q => (by
    rw [List.getElem?_map] at q
    by_cases hi : i < n
    · rw [List.getElem?_range hi] at q
      cases q
      refine ⟨hi, fun y H3 ⟨e, z⟩ => ?_⟩
      subst e z
      exact ⟨F2, New.refl e2, .int _⟩
    · rw [List.getElem?_eq_none (by simpa using hi)] at q; cases q),
  fun i q => by
    rw [List.length_map, List.length_range] at q
    exact q⟩
end
theorem ui_any (h : UE X W ra ta e) : UI X W tg (iAny X.K ra) (dItems ta) e := by
  refine ⟨pi_any h.pe, fun ad σ H F s k Q rel p => ?_⟩
  refine h.sn.bind rel p fun x d H1 F1 k1 _ r1 x1 d1 p1 => ?_
  obtain ⟨z, hz, p3⟩ := p1.eo
  cases d1 with
  | lst hs ha => cases hz; exact .inl ⟨_, rfl, ⟨_, r1.sub.seq (SqL.of hs)⟩, p3.ok0 r1 (itOk_list (SqL.of hs) ha)⟩
  | tup hs ha => cases hz; exact .inr (.inl ⟨_, rfl, ⟨_, sqT_same r1.sub hs⟩, p3.ok0 r1 (itOk_tup hs ha)⟩)
  | str y => cases hz; exact .inr (.inr ⟨_, rfl, p3.ok0 r1 itOk_str⟩)
  | _ => cases hz
/-- numbers that a range takes -/
def okI (j : Int) : Bool := decide (-(2 ^ 62) ≤ j) && decide (j < 2 ^ 62)
theorem okI_iff {j : Int} : okI j = true ↔ (-(2 ^ 62) ≤ j ∧ j < 2 ^ 62) := by
  unfold okI
  rw [Bool.and_eq_true, decide_eq_true_eq, decide_eq_true_eq]
def rng1 : List D → Option (List D)
  | [.int j] => if okI j = true then some ((List.range j.toNat).map fun i => D.int (0 + (i : Nat))) else none
  | _ => none
def rng2 : List D → Option (List D)
  | [.int i, .int j] => if okI i = true ∧ okI j = true then some ((List.range (j - i).toNat).map fun n => D.int (i + (n : Nat))) else none
  | _ => none
variable {a b : Expr} {re : TA} {te : ME (List D)}
theorem ui_rng1 {p : Pos} (hg : Gl X "range") (hm : X.mg "range" = none) (h : UA X W re te [a]) (hs : starEach [a] X.env = [(false, eval a X.env)] := by rfl) :
    UI X W tg (iRng1 re) (eb te fun ds => eo (rng1 ds)) (.Call (.Name "range" p) [a] [] pos) := by
  refine ⟨pi_range1 hg hm h.pa hs, fun ad σ H F s k Q rel p => ?_⟩
  refine h.sn.bind rel p fun x d H1 F1 k1 _ r1 x1 d1 p1 => ?_
  obtain ⟨z, hz, p3⟩ := p1.eo
  cases d1 with
  | nil => cases hz
  | cons h1 r2 =>
    cases r2 with
    | cons _ _ => cases h1 <;> cases hz
    | nil =>
      cases h1 with
      | int j =>
        unfold rng1 at hz
        by_cases c : okI j = true
        · simp only [if_pos c] at hz
          cases hz
          obtain ⟨c1, c2⟩ := okI_iff.mp c
          exact ⟨j, rfl, c1, c2, p3.ok0 r1 itOk_rng⟩
        · simp only [if_neg c] at hz; cases hz
      | _ => cases hz
theorem ui_rng2 {p : Pos} (hg : Gl X "range") (hm : X.mg "range" = none) (h : UA X W re te [a, b]) (hs : starEach [a, b] X.env = [(false, eval a X.env), (false, eval b X.env)] := by rfl) (hs2 : starEach [b] X.env = [(false, eval b X.env)] := by rfl) :
    UI X W tg (iRng2 re) (eb te fun ds => eo (rng2 ds)) (.Call (.Name "range" p) [a, b] [] pos) := by
  refine ⟨pi_range2 hg hm h.pa hs hs2, fun ad σ H F s k Q rel p => ?_⟩
  refine h.sn.bind rel p fun x d H1 F1 k1 _ r1 x1 d1 p1 => ?_
  obtain ⟨z, hz, p3⟩ := p1.eo
  cases d1 with
  | nil => cases hz
  | cons h1 r2 =>
    cases r2 with
    | nil => cases h1 <;> cases hz
    | cons h2 r3 =>
      cases r3 with
      | cons _ _ => cases h1 <;> cases h2 <;> cases hz
      | nil =>
        cases h1 with
        | int i =>
          cases h2 with
          | int j =>
            unfold rng2 at hz
            by_cases c : okI i = true ∧ okI j = true
            · simp only [if_pos c] at hz
              cases hz
              obtain ⟨c1, c2⟩ := okI_iff.mp c.1
              obtain ⟨c3, c4⟩ := okI_iff.mp c.2
              exact ⟨i, j, rfl, ⟨c1, c2, c3, c4⟩, p3.ok0 r1 itOk_rng⟩
            · simp only [if_neg c] at hz; cases hz
          | _ => cases hz
        | _ => cases hz

/-! ### for -/
def loopS (g : MG) (body : MS) : List D → MS
  | [] => fun s k => .nx s k
  | d :: ds => fun s k => match g d s with
    | none => .no
    | some s1 => match body s1 k with
      | .nx s' k' => loopS g body ds s' k'
      | .ct s' k' => loopS g body ds s' k'
      | .brk s' k' => .nx s' k'
      | .ret d k' => .ret d k'
      | .ex c fs s' k' => .ex c fs s' k'
      | .no => .no
def sFor (ti : ME (List D)) (g : MG) (body : MS) : MS := sb ti fun ds => loopS g body ds
theorem RelS.new {K : PySem.W.Frag} {cl : Cl} {ad : Ad} {H0 F0 H F H' F' : Hp} {k0 k : Option Dk} {σ : L2.St} {s : List Sl} (r : RelS K cl ad H0 F0 k0 σ H F s k) (n : New F H F' H') : RelS K cl ad H0 F0 k0 σ H' F' s k :=
  r.step (r.rel.new n) n.ext
theorem us_for {is : List Nat} {iter : Expr} {body : List Stmt} {wi : TI} {ti : ME (List D)} {g : TG} {f : MG} {tb : TS} {db : MS} (hpass : PassesOwn (model X.prog X.w) X.A X.env X.xe) (hc : X.calm = true) (hi : UI X W tg wi ti iter) (hg : UG X is g f tg) (hb : USs X W tb db body)
    (hs : ∀ x, foldedSetIterable iter X.env x = pure x := by intro _; rfl) : US X W (tFor wi g tb) (sFor ti f db) (.For tg iter body [] pos) := by
  refine ⟨ps_for hpass hc hi.pi hg.pg hb.ps hs, fun ad H0 F0 k0 σ H F s k E rel p => hi.sn.sbind rel p fun J ds H1 F1 k1 _ q1 x1 d1 p1 => ?_⟩
  refine ⟨fun i m σ H => m = ds.length - i ∧ i ≤ ds.length ∧ ∃ F s k, RelS X.K (clOf X.mg) ad H0 F0 k0 σ H F s k ∧ Same F1 F ∧ PostS X.K (clOf X.mg) W ad H0 F0 k0 F (loopS f db (ds.drop i) s k) E,
    ⟨ds.length, by simp, Nat.zero_le _, F1, s, k1, q1, Same.refl _, p1⟩, ?_⟩
  rintro i m σ H ⟨rfl, hi', F2, s2, k2, r2, e2, p2⟩
  obtain ⟨go, stop⟩ := d1 H F2 e2 r2.rel.sub
  by_cases hlt : i < ds.length
  · have hd : ds[i]? = some ds[i] := List.getElem?_eq_getElem hlt
    have hdrop : ds.drop i = ds[i] :: ds.drop (i + 1) := List.drop_eq_getElem_cons hlt
    obtain ⟨g1, g2⟩ := go i _ hd
    rw [hdrop] at p2
    refine .inr ⟨g1, fun σ' H' => ∃ F s k, RelS X.K (clOf X.mg) ad H0 F0 k0 σ' H' F s k ∧ Same F1 F ∧ PostS X.K (clOf X.mg) W ad H0 F0 k0 F (loopS f db (ds.drop (i + 1)) s k) E, fun σ' H' q => ⟨ds.length - (i + 1), by omega, rfl, hlt, q⟩, fun x H' y => ?_⟩
    obtain ⟨F3, n3, d3⟩ := g2 x H' y
    have r3 := r2.new n3
    simp only [loopS] at p2
    cases z : f ds[i] s2 with
    | none => rw [z] at p2; exact False.elim p2
    | some s3 =>
      rw [z] at p2
      refine hg.sn ad σ H' F3 s2 k2 x ds[i] s3 _ r3.rel d3 z fun σ' r' l' k' o' => ?_
      have r4 : RelS X.K (clOf X.mg) ad H0 F0 k0 σ' H' F3 s3 k2 := ⟨r', r3.ext, fun i xs b h1 h2 => by
        obtain ⟨a1, a2⟩ := o' i xs h1
        exact r3.fr i xs b a1 (a2 ▸ h2)⟩
      have p3 := PostS.from (F1 := F3) n3.sub p2
      refine hb.sn ad H0 F0 k0 σ' H' F3 s3 k2 _ r4 ?_
      dsimp only at p3
      cases w : db s3 k2 with
      | nx s' k' => rw [w] at p3; exact fun σ' H' F' r x => ⟨F', s', k', r, (e2.trans n3.sub).trans x, p3.from x⟩
      | ct s' k' => rw [w] at p3; exact fun σ' H' F' r x => ⟨F', s', k', r, (e2.trans n3.sub).trans x, p3.from x⟩
      | brk s' k' => rw [w] at p3; exact fun σ' H' F' r x => p3 σ' H' F' r x
      | ret d k' => rw [w] at p3; exact p3
      | ex c fs s' k' => rw [w] at p3; exact p3
      | no => rw [w] at p3; exact p3
  · have e : i = ds.length := by omega
    subst e
    rw [List.drop_length] at p2
    exact .inl ⟨stop _ (Nat.le_refl _), p2 σ H F2 r2 (Same.refl _)⟩

/-! ### comprehensions -/
def wipeS (s : List Sl) : List Nat → List Sl
  | [] => s
  | v :: vs => (wipeS s vs).set v .emp
def lcL (g : MG) (tt : ME Bool) (te : ME D) (s0 : List Sl) : Nat → List D → Option Dk → RE (List D)
  | _, [], k => .ok [] k
  | n, d :: ds, k => match g d s0 with
    | none => .no
    | some s1 => match tt s1 k with
      | .ok true k1 => match te s1 k1 with
        | .ok y k2 => if n < sizeLine then (match lcL g tt te s0 (n + 1) ds k2 with
          | .ok ys k3 => .ok (y :: ys) k3
          | .ex c fs k3 => .ex c fs k3
          | .no => .no) else .no
        | _ => .no
      | .ok false k1 => lcL g tt te s0 n ds k1
      | _ => .no
def dLc (ti : ME (List D)) (g : MG) (tt : ME Bool) (te : ME D) (vs : List Nat) : ME D := eb ti fun ds => fun s k => match lcL g tt te (wipeS s vs) 0 ds k with
  | .ok ys k' => .ok (.lst ys) k'
  | .ex _ _ _ => .no
  | .no => .no
abbrev W0 : WX := fun _ _ _ _ => False
structure UTs (X : Cx) (W : WX) (r : TT) (t : ME Bool) (es : List Expr) : Prop where
  pt : PTs X es r
  sn : Sn X.K (clOf X.mg) W RB r t
theorem uts_nil : UTs X W tYes (ep true) [] := ⟨pts_nil, fun ad σ H F s k Q rel p => p.ok0 (a := true) rel rfl⟩
theorem uts_one {r : TT} {t : ME Bool} (h : UT X W r t e) : UTs X W r t [e] := ⟨pts_one h.pt, h.sn⟩

section
variable {K : PySem.W.Frag} {cl : Cl} {ad : Ad} {σ : L2.St} {H F H' F' : Hp} {s : List Sl} {k k' : Option Dk}
theorem wipeS_len : ∀ vs : List Nat, (wipeS s vs).length = s.length
  | [] => rfl
  | v :: vs => by unfold wipeS; rw [List.length_set, wipeS_len vs]
theorem wipeS_some {i : Nat} {x : Sl} (hx : x ≠ .emp) : ∀ {vs : List Nat}, (wipeS s vs)[i]? = some x → s[i]? = some x ∧ i ∉ vs
  | [], h => ⟨h, by simp⟩
  | v :: vs, h => by
    unfold wipeS at h
    by_cases hi : v = i
    · subst hi
      by_cases hv : v < (wipeS s vs).length
      · rw [List.getElem?_set_self hv] at h; cases h; exact absurd rfl hx
      · rw [List.getElem?_eq_none (by simpa using hv)] at h; cases h
    · rw [List.getElem?_set_ne hi] at h
      obtain ⟨h1, h2⟩ := wipeS_some hx h
      exact ⟨h1, by simp only [List.mem_cons, not_or]; exact ⟨fun e => hi e.symm, h2⟩⟩
theorem Rel.wipe (r : Rel K cl ad σ H F s k) (vs : List Nat) : Rel K cl ad (L2.wipe σ vs) H F (wipeS s vs) k where
  sub := r.sub
  len := by rw [wipe_length, wipeS_len]; exact r.len
  val := fun i d h => by
    obtain ⟨h1, h2⟩ := wipeS_some (by intro z; cases z) h
    rw [wipe_out h2]
    exact r.val i d h1
  own := fun i d h => by
    obtain ⟨h1, h2⟩ := wipeS_some (by intro z; cases z) h
    rw [wipe_out h2]
    exact r.own i d h1
  inj := fun i j xs ys b h1 h2 h3 h4 => by
    obtain ⟨a1, a2⟩ := wipeS_some (by intro z; cases z) h1
    obtain ⟨b1, b2⟩ := wipeS_some (by intro z; cases z) h2
    rw [wipe_out a2] at h3
    rw [wipe_out b2] at h4
    exact r.inj i j xs ys b a1 b1 h3 h4
  dk := r.dk
theorem Rel.extd (r : Rel K cl ad σ H F s k) (e : Ext ad k k' F H F' H') (sb : Same F' H') (dk : ∀ d, k' = some d → DkOk H' F' ad d) : Rel K cl ad σ H' F' s k' where
  sub := sb
  len := r.len
  val := fun i d h => let ⟨v, h1, h2⟩ := r.val i d h; ⟨v, h1, h2.mono e.sub⟩
  own := fun i xs h => by
    obtain ⟨b, vs, h1, h2, h3, h4, h5⟩ := r.own i xs h
    exact ⟨b, vs, h1, e.keep _ _ h2 h4, e.nofz b (by rw [h2]; exact fun z => nomatch z) h3, fun z => h4 (e.some ▸ z), h5.mono e.sub⟩
  inj := r.inj
  dk := dk
end
theorem wipe_get {σ : L2.St} {i : Nat} : ∀ {vs : List Nat}, i ∈ vs → i < σ.length → (L2.wipe σ vs)[i]? = some none
  | [], h, _ => nomatch h
  | v :: vs, h, hl => by
    unfold L2.wipe
    by_cases hi : v = i
    · subst hi
      rw [List.getElem?_set_self (by rw [wipe_length]; exact hl)]
    · rw [List.getElem?_set_ne hi]
      rcases List.mem_cons.mp h with e | e
      · exact absurd e.symm hi
      · exact wipe_get e hl
theorem wipe_eq {σ τ : L2.St} {vs : List Nat} (hl : τ.length = σ.length) (h : ∀ j : Nat, j ∉ vs → τ[j]? = (L2.wipe σ vs)[j]?) : L2.wipe τ vs = L2.wipe σ vs := by
  apply List.ext_getElem?
  intro i
  by_cases hi : i ∈ vs
  · by_cases hb : i < σ.length
    · rw [wipe_get hi hb, wipe_get hi (by omega)]
    · rw [List.getElem?_eq_none (by rw [wipe_length]; omega), List.getElem?_eq_none (by rw [wipe_length]; omega)]
  · rw [wipe_out hi, h i hi]
theorem Ext.upd {ad : Ad} {k k1 : Option Dk} {F H F1 H1 : Hp} {p : Addr} {o : HO} (e : Ext ad k k1 F H F1 H1) (hp : H p = none) : Ext ad k k1 F H F1 (upd H1 p o) :=
  ⟨e.some, e.sub, fun b u h n => by rw [upd_ne (ne_of_none h hp)]; exact e.keep b u h n, fun b h => by
    have : b ≠ p := fun z => h (z ▸ hp)
    rw [upd_ne this]; exact e.there b h, e.nofz⟩
theorem same_upd' {F H : Hp} {p : Addr} {o : HO} (h : Same F H) (hp : F p = none) : Same F (upd H p o) := fun b u e => by
  rw [upd_ne (ne_of_none e hp)]; exact h b u e
theorem DkOk.upd {H F : Hp} {ad : Ad} {d : Dk} {p : Addr} {o : HO} (h : DkOk H F ad d) (h1 : p ≠ ad.1) (h2 : p ≠ ad.2) : DkOk (upd H p o) F ad d :=
  ⟨h.1, h.2.1, h.2.2.1, by rw [upd_ne h1.symm]; exact h.2.2.2.1, by rw [upd_ne h2.symm]; exact h.2.2.2.2⟩

/-- what stands at a turn's start, of a list D that is being made; H1, F1, k1: ahead of D -/
structure Mk (K : PySem.W.Frag) (cl : Cl) (ad : Ad) (H1 F1 : Hp) (k1 : Option Dk) (D : Addr) (H F : Hp) (k : Option Dk) (acc : List V) (ds : List G.D) : Prop where
  ext : Ext ad k1 k F1 H1 F H
  sub : Same F H
  dk : ∀ d, k = some d → DkOk H F ad d
  nw : H1 D = none
  out : F D = none
  at_ : H D = some (.lst acc)
  den : DenA K cl ad F acc ds
section
variable {K : PySem.W.Frag} {cl : Cl} {ad : Ad} {σ : L2.St} {H1 F1 H F H' F' : Hp} {s : List Sl} {k1 k k' : Option Dk} {D : Addr} {acc : List V} {ds : List G.D}
theorem Mk.rel (m : Mk K cl ad H1 F1 k1 D H F k acc ds) (r : Rel K cl ad σ H1 F1 s k1) : Rel K cl ad σ H F s k := r.extd m.ext m.sub m.dk
theorem Mk.notDeck (m : Mk K cl ad H1 F1 k1 D H F k acc ds) (r : Rel K cl ad σ H1 F1 s k1) : k.isSome = true → D ≠ ad.1 ∧ D ≠ ad.2 := fun z => by
  have z1 : k1.isSome = true := m.ext.some ▸ z
  obtain ⟨d, hd⟩ := Option.isSome_iff_exists.mp z1
  obtain ⟨_, _, _, h4, h5⟩ := r.dk d hd
  exact ⟨fun e => (by rw [← e, m.nw] at h4; cases h4), fun e => (by rw [← e, m.nw] at h5; cases h5)⟩
theorem Mk.go (m : Mk K cl ad H1 F1 k1 D H F k acc ds) (r : Rel K cl ad σ H1 F1 s k1) (e : Ext ad k k' F H F' H') (sb : Same F' H') (dk : ∀ d, k' = some d → DkOk H' F' ad d) : Mk K cl ad H1 F1 k1 D H' F' k' acc ds :=
  ⟨m.ext.trans e, sb, dk, m.nw, e.nofz D (by rw [m.at_]; exact fun z => nomatch z) m.out, e.keep D _ m.at_ (m.notDeck r), m.den.mono e.sub⟩
theorem Mk.app (m : Mk K cl ad H1 F1 k1 D H F k acc ds) (r : Rel K cl ad σ H1 F1 s k1) {y : V} {d : G.D} (hd : Den K cl ad F y d) : Mk K cl ad H1 F1 k1 D (upd H D (.lst (acc ++ [y]))) F k (acc ++ [y]) (ds ++ [d]) :=
  ⟨m.ext.upd m.nw, same_upd' m.sub m.out, fun d e => (m.dk d e).upd (m.notDeck r (by rw [e]; rfl)).1 (m.notDeck r (by rw [e]; rfl)).2, m.nw, m.out, upd_same, m.den.append (.cons hd .nil)⟩
theorem Mk.end_ (m : Mk K cl ad H1 F1 k1 D H F k acc ds) (r : Rel K cl ad σ H1 F1 s k1) : ∃ F', Rel K cl ad σ H F' s k ∧ Ext ad k1 k F1 H1 F' H ∧ Den K cl ad F' (.ref D) (.lst ds) := by
  have sF : Same F (upd F D (.lst acc)) := fun b u e => by rw [upd_ne (ne_of_none e m.out)]; exact e
  have sH : Same (upd F D (.lst acc)) H := fun b u e => by
    by_cases hb : b = D
    · subst hb; rw [upd_same] at e; cases e; exact m.at_
    · rw [upd_ne hb] at e; exact m.sub b u e
  have ex : Ext ad k1 k F1 H1 (upd F D (.lst acc)) H := ⟨m.ext.some, m.ext.sub.trans sF, m.ext.keep, m.ext.there, fun b h n => by
    have : b ≠ D := fun z => h (z ▸ m.nw)
    rw [upd_ne this]; exact m.ext.nofz b h n⟩
  refine ⟨upd F D (.lst acc), r.extd ex sH fun d e => ?_, ex, .lst upd_same (m.den.mono sF)⟩
  obtain ⟨h1, h2, h3, h4, h5⟩ := m.dk d e
  obtain ⟨n1, n2⟩ := m.notDeck r (by rw [e]; rfl)
  exact ⟨by rw [upd_ne n1.symm]; exact h1, by rw [upd_ne n2.symm]; exact h2, h3, h4, h5⟩
theorem Mk.new (r : Rel K cl ad σ H1 F1 s k1) (hD : H1 D = none) : Mk K cl ad H1 F1 k1 D (upd H1 D (.lst [])) F1 k1 [] [] := by
  have hF : F1 D = none := r.sub.free hD
  refine ⟨Ext.refl.upd hD, same_upd' r.sub hF, fun d e => ?_, hD, hF, upd_same, .nil⟩
  have h := r.dk d e
  exact h.upd (fun z => by rw [z, h.2.2.2.1] at hD; cases hD) (fun z => by rw [z, h.2.2.2.2] at hD; cases hD)
end

/-- the rest of a comprehension's items, behind those that are there -/
def more (ds : List D) : RE (List D) → RE D
  | .ok ys k => .ok (.lst (ds ++ ys)) k
  | .ex _ _ _ => .no
  | .no => .no

theorem sn_lc {K : PySem.W.Frag} {cl : Cl} {is vs : List Nat} {wi : TI} {ti : ME (List D)} {g : TG} {f : MG} {tt : TT} {dt : ME Bool} {te : TE} {de : ME D} (hi : Sn K cl W (RI K cl) wi ti) (hg : SnG K cl is g f) (hsub : ∀ i ∈ is, i ∈ vs) (ht : Sn K cl W0 RB tt dt) (he : Sn K cl W0 (RD K cl) te de) :
    Sn K cl W (RD K cl) (tLc wi g tt te vs) (dLc ti f dt de vs) := by
  intro ad σ H F s k Q rel p
  refine hi.bind rel p fun J ds H1 F1 k1 _ r1 x1 d1 p1 => ?_
  intro D hD
  refine ⟨fun i m H => m = ds.length - i ∧ i ≤ ds.length ∧ ∃ F k acc dd, Mk K cl ad H1 F1 k1 D H F k acc dd ∧ Post K cl W (RD K cl) ad σ H1 F1 s k1 (more dd (lcL f dt de (wipeS s vs) dd.length (ds.drop i) k)) Q,
    ⟨ds.length, by simp, Nat.zero_le _, F1, k1, [], [], Mk.new r1 hD, ?_⟩, ?_⟩
  · show Post K cl W (RD K cl) ad σ H1 F1 s k1 (more [] (lcL f dt de (wipeS s vs) 0 ds k1)) Q
    cases q : lcL f dt de (wipeS s vs) 0 ds k1 with
    | ok ys k' => rw [q] at p1; exact p1
    | ex c fs k' => rw [q] at p1; exact p1
    | no => rw [q] at p1; exact p1
  · rintro i m H ⟨rfl, hi', F2, k2, acc, dd, mk, p2⟩
    obtain ⟨go, stop⟩ := d1 H F2 mk.ext.sub mk.sub
    by_cases hlt : i < ds.length
    · have hd : ds[i]? = some ds[i] := List.getElem?_eq_getElem hlt
      have hdrop : ds.drop i = ds[i] :: ds.drop (i + 1) := List.drop_eq_getElem_cons hlt
      obtain ⟨g1, g2⟩ := go i _ hd
      rw [hdrop] at p2
      refine .inr ⟨g1, fun H' => ∃ F k acc dd, Mk K cl ad H1 F1 k1 D H' F k acc dd ∧ Post K cl W (RD K cl) ad σ H1 F1 s k1 (more dd (lcL f dt de (wipeS s vs) dd.length (ds.drop (i + 1)) k)) Q, fun H' q => ⟨ds.length - (i + 1), by omega, rfl, hlt, q⟩, fun x H' y => ?_⟩
      obtain ⟨F3, n3, d3⟩ := g2 x H' y
      have r2 := mk.rel r1
      have r3 := r2.new n3
      have mk3 := mk.go r1 n3.ext n3.ok r3.dk
      simp only [lcL] at p2
      cases z : f ds[i] (wipeS s vs) with
      | none => rw [z] at p2; exact False.elim p2
      | some s3 =>
        rw [z] at p2
        refine hg ad (L2.wipe σ vs) H' F3 (wipeS s vs) k2 x ds[i] s3 _ (r3.wipe vs) d3 z fun σ' r' l' k' o' => ?_
        refine ⟨wipe_eq (l'.trans (wipe_length _ _)) fun j hj => k' j fun m => hj (hsub j m), ?_⟩
        dsimp only at p2
        refine ht ad σ' H' F3 s3 k2 _ r' ?_
        cases w : dt s3 k2 with
        | no => rw [w] at p2; exact False.elim p2
        | ex c fs k3 => rw [w] at p2; exact False.elim p2
        | ok bb k3 =>
          rw [w] at p2
          intro v4 H4 F4 r4 x4 e4
          subst e4
          have mk4 := mk3.go r1 x4 r4.sub r4.dk
          cases v4 with
          | false => exact iteF ⟨F4, k3, acc, dd, mk4, p2⟩
          | true =>
            refine iteT ?_
            dsimp only at p2
            refine he ad σ' H4 F4 s3 k3 _ r4 ?_
            cases u : de s3 k3 with
            | no => rw [u] at p2; exact False.elim p2
            | ex c fs k5 => rw [u] at p2; exact False.elim p2
            | ok yy k5 =>
              rw [u] at p2
              intro v5 H5 F5 r5 x5 e5
              have mk5 := mk4.go r1 x5 r5.sub r5.dk
              dsimp only at p2
              by_cases hn : dd.length < sizeLine
              · rw [if_pos hn] at p2
                refine ⟨acc, mk5.at_, by rw [mk5.den.length]; exact hn, F5, k5, acc ++ [v5], dd ++ [yy], mk5.app r1 e5, ?_⟩
                rw [List.length_append, List.length_singleton]
                cases w2 : lcL f dt de (wipeS s vs) (dd.length + 1) (ds.drop (i + 1)) k5 with
                | ok ys k6 =>
                  rw [w2] at p2
                  simp only [more, List.append_assoc, List.singleton_append] at p2 ⊢
                  exact p2
                | ex c fs k6 => rw [w2] at p2; exact p2
                | no => rw [w2] at p2; exact p2
              · rw [if_neg hn] at p2; exact False.elim p2
    · have e : i = ds.length := by omega
      subst e
      rw [List.drop_length] at p2
      simp only [lcL, more, List.append_nil] at p2
      obtain ⟨F', ra, rb, rc⟩ := mk.end_ r1
      exact .inl ⟨stop _ (Nat.le_refl _), p2 _ H F' ra rb rc⟩

variable {elt iter : Expr} {ifs : List Expr} {scope : Scope} {own : List (Str × Nat)} {is : List Nat} {wi : TI} {ti : ME (List D)} {g : TG} {f : MG} {tt : TT} {dt : ME Bool} {te' : TE} {de : ME D}
/-- the context of a comprehension's block -/
abbrev bk (X : Cx) (scope : Scope) (s : Shared) (H : Hp) (C : Addr) (cl : List (Str × Addr)) (fp : List Addr) : Cx := X.blk s H scope (compEnvC scope cl C X.env) fp
theorem u_lc (hc : X.calm = true) (hN : X.N.Nodup) (hi : UI X W tg wi ti iter) (ok : BlkOk X.N X.env.scope scope own) (hsub : ∀ i ∈ is, i ∈ own.map (·.2))
    (hg : ∀ s H C cl fp, UG (bk X scope s H C cl fp) is g f tg) (ht : ∀ s H C cl fp, UTs (bk X scope s H C cl fp) W0 tt dt ifs) (he : ∀ s H C cl fp, UE (bk X scope s H C cl fp) W0 te' de elt) (hs : ∀ x, foldedSetIterable iter X.env x = pure x := by intro _; rfl) :
    UE X W (tLc wi g tt te' (own.map (·.2))) (dLc ti f dt de (own.map (·.2))) (.ListComp elt [⟨tg, iter, ifs, 0⟩] scope pos) :=
  ⟨pe_lc hc hN hi.pi ok (fun s H C cl fp => (hg s H C cl fp).pg) (fun s H C cl fp => (ht s H C cl fp).pt) (fun s H C cl fp => (he s H C cl fp).pe) hs,
    sn_lc hi.sn (hg X.s_0 (fun _ => none) 0 [] []).sn hsub (ht X.s_0 (fun _ => none) 0 [] []).sn (he X.s_0 (fun _ => none) 0 [] []).sn⟩
theorem us_setLc {i : Nat} {y : Str} {py spos : Pos} (hc : X.calm = true) (hN : X.N.Nodup) (hi : UI X W tg wi ti iter) (ok : BlkOk X.N X.env.scope scope own) (hsub : ∀ i ∈ is, i ∈ own.map (·.2))
    (hg : ∀ s H C cl fp, UG (bk X scope s H C cl fp) is g f tg) (ht : ∀ s H C cl fp, UTs (bk X scope s H C cl fp) W0 tt dt ifs) (he : ∀ s H C cl fp, UE (bk X scope s H C cl fp) W0 te' de elt)
    (hsw : swapsWith (.ListComp elt [⟨tg, iter, ifs, 0⟩] scope pos) (some (.Name y py)) spos.line X.env = pure true) (hy : X.N[i]? = some y := by rfl) (hyl : X.env.scope.names.lookup y = some .local := by rfl) (hs : ∀ x, foldedSetIterable iter X.env x = pure x := by intro _; rfl) :
    US X W (tAsg (tLc wi g tt te' (own.map (·.2))) (gName i)) (sAsg (dLc ti f dt de (own.map (·.2))) (mName i)) (.Assign [.Name y py] (.ListComp elt [⟨tg, iter, ifs, 0⟩] scope pos) spos) := by
  refine ⟨ps_setLc hc hN hy hyl hsw hi.pi ok (fun s H C cl fp => (hg s H C cl fp).pg) (fun s H C cl fp => (ht s H C cl fp).pt) (fun s H C cl fp => (he s H C cl fp).pe) hs, ?_⟩
  refine sn_asg (is := [i]) (sn_lc hi.sn (hg X.s_0 (fun _ => none) 0 [] []).sn hsub (ht X.s_0 (fun _ => none) 0 [] []).sn (he X.s_0 (fun _ => none) 0 [] []).sn) fun ad σ H F s k v d s' Q rel hd e q => ?_
  cases e
  refine q _ (rel.set i hd) (List.length_set ..) (fun j hj => ?_) fun j xs h1 => ?_
  · exact List.getElem?_set_ne (fun e => hj (by rw [e]; exact List.mem_singleton_self _))
  · obtain ⟨n, h⟩ := own_set h1
    exact ⟨h, List.getElem?_set_ne n⟩
end
end G
namespace G
open PySem PySem.Spec PyProof.Rows L2

/-! ### defs and their calls -/
abbrev Fn := List D → Option Dk → RE D
def PostF (K : PySem.W.Frag) (cl : Cl) (ad : Ad) (k : Option Dk) (F H : Hp) (r : RE D) (Q : VK) (E : XK) : Prop :=
  match r with
  | .ok d k' => ∀ v H' F', Same F' H' → (∀ d, k' = some d → DkOk H' F' ad d) → Ext ad k k' F H F' H' → Den K cl ad F' v d → Q v H'
  | .ex c fs k' => ∀ cls dd H' F', Same F' H' → (∀ d, k' = some d → DkOk H' F' ad d) → Ext ad k k' F H F' H' → ExcIs K cl ad F' cls dd c fs → E cls dd H'
  | .no => False
def spD (K : PySem.W.Frag) (cl : Cl) (g : Fn) : Sp := fun vs H Q E => ∃ ad F ds k, Same F H ∧ DenA K cl ad F vs ds ∧ (∀ d, k = some d → DkOk H F ad d) ∧ PostF K cl ad k F H (g ds k) Q E
def fnDen (np nN : Nat) (body : MS) : Fn := fun ds k => if ds.length = np then (match body (ds.map Sl.val ++ List.replicate (nN - ds.length) Sl.emp) k with
  | .nx _ k' => .ok .non k'
  | .ret d k' => .ok d k'
  | .ex c fs _ k' => .ex c fs k'
  | _ => .no) else .no
abbrev WEx (E : XK) : WX := fun cls d _ H => E cls d H

theorem rel_start {K : PySem.W.Frag} {cl : Cl} {ad : Ad} {H F : Hp} {vs : List V} {ds : List D} {k : Option Dk} (N : List Str) (h : Same F H) (hd : DenA K cl ad F vs ds) (dk : ∀ d, k = some d → DkOk H F ad d) :
    RelS K cl ad H F k (L2.start N vs) H F (ds.map Sl.val ++ List.replicate (N.length - ds.length) Sl.emp) k := by
  have noOwn : ∀ (i : Nat) (xs : List D), (ds.map Sl.val ++ List.replicate (N.length - ds.length) Sl.emp)[i]? ≠ some (Sl.own xs) := fun i xs e => by
    have hm := List.mem_of_getElem? e
    rcases List.mem_append.mp hm with z | z
    · obtain ⟨d, _, q⟩ := List.mem_map.mp z; cases q
    · have := List.eq_of_mem_replicate z; cases this
  refine ⟨⟨h, ?_, fun i d e => ?_, fun i xs e => absurd e (noOwn i xs), fun i j xs ys b e => absurd e (noOwn i xs), dk⟩, Ext.refl, fun i xs b e => absurd e (noOwn i xs)⟩
  · unfold L2.start
    rw [List.length_append, List.length_append, List.length_map, List.length_map, List.length_replicate, List.length_replicate, hd.length]
  · by_cases hi : i < ds.length
    · rw [List.getElem?_append_left (by rw [List.length_map]; exact hi), List.getElem?_map] at e
      cases q : ds[i]? with
      | none => rw [q] at e; cases e
      | some y =>
        rw [q] at e
        cases e
        obtain ⟨x, h1, h2⟩ := hd.get q
        refine ⟨x, ?_, h2⟩
        unfold L2.start
        rw [List.getElem?_append_left (by rw [List.length_map, hd.length]; exact hi), List.getElem?_map, h1]
        rfl
    · rw [List.getElem?_append_right (by rw [List.length_map]; omega)] at e
      have := List.eq_of_mem_replicate (List.mem_of_getElem? e)
      cases this

/-- a def's promise, where no repr is under way -/
structure FnG (P : Program) (w : World) (K : PySem.W.Frag) (mg : Str → Option Value) (base : Heap) (k : Nat) (f : Addr) (fd : FuncData) (ps : List Str) (sp : Sp) : Prop where
  len : ∀ vs H Q E, sp vs H Q E → vs.length = ps.length
  run : ∀ (A : Around) (outer : List Env) (s : Shared) (H : Hp) (args : Args) (us : List Value) (vs : List V) (Q : VK) (E : XK), A.guards = some [] → Room k A → Env0 P w K mg base A outer s H → BindsTo s fd args (ps.zip us) → Vals vs us → sp vs H Q E →
    codeAny (model P w) A (.call (.ref f) args) (CR (L2.CX P w) outer P w H s Q E) s
section
variable {P : Program} {w : World} {K : PySem.W.Frag} {mg : Str → Option Value} {base : Heap}
theorem FnG.mono {j k : Nat} {f : Addr} {fd : FuncData} {ps : List Str} {sp : Sp} (F : FnG P w K mg base j f fd ps sp) (h : j ≤ k) : FnG P w K mg base k f fd ps sp :=
  ⟨F.len, fun A outer s H args us vs Q E g hr => F.run A outer s H args us vs Q E g (hr.mono h)⟩
theorem FnG.of {k : Nat} {f : Addr} {fd : FuncData} {ps : List Str} {sp : Sp} (F : FnOk P w K mg base (L2.CX P w) k f fd ps sp) : FnG P w K mg base k f fd ps sp :=
  ⟨F.len, fun A outer s H args us vs Q E _ hr => F.run A outer s H args us vs Q E hr⟩
theorem fn_ofG {x qual : Str} {params : Arguments} {body : List Stmt} {scope : Scope} {dvs : List V} {kws : List (Str × V)} {f : Addr} {fd : FuncData} {N ps : List Str} {k : Nat} {sp : Sp}
    (F : FunD K x qual params body scope dvs kws f fd) (S : FnScope N ps scope) (len : ∀ vs H Q E, sp vs H Q E → vs.length = ps.length)
    (hbody : ∀ (cdv : Value) (A : Around) (outer : List Env) (s : Shared) (H : Hp) (vs : List V) (Q : VK) (E : XK), A.guards = some [] → Room k (A.deeper (envOfC qual scope s.heap.objs.size f cdv)) → sp vs H Q E →
      ∃ t, PSs (cxOf (L2.CX P w) P w K mg base N qual scope f cdv A outer s H E) body t ∧ t { nx := fun _ H' => Q .non H', rt := Q } (L2.start N vs) H) : FnG P w K mg base (k + 1) f fd ps sp := by
  obtain ⟨oc, od, dV, kV, doc, pm, an, cdv, ct, osl, rfl, lk, hcd, _, _⟩ := F.ex
  refine ⟨len, fun A outer s H args us vs Q E gd hr e0 hb r hsp => ?_⟩
  have keep : ∀ b o, base.get? b = some o → s.heap.get? b = some o := fun b o e => (e0.bs b o e).1
  have KX : K.In s.heap := e0.mod.kin.keeps keep
  have kinds : ∀ y ∈ ps.zip us, scope.names.lookup y.1 = some .local ∨ (scope.names.lookup y.1 = some .cell ∧ ((cellsFrom (s.heap.objs.size + 1) scope.names []).lookup y.1).isSome = true) := by
    intro y hy
    obtain ⟨n, v⟩ := y
    cases S.par n (List.of_mem_zip hy).1 with
    | inl q => exact Or.inl q
    | inr q => exact Or.inr ⟨q, PySem.W.cellsFrom_some _ _ _ (Or.inl q)⟩
  obtain ⟨t, ht, hq⟩ := hbody cdv A outer s H vs Q E gd (hr.deeper _) hsp
  refine codeAny_call_function hr.depth (KX _ _ lk) rfl S.co S.gen rfl (PySem.W.codeRec_of KX hcd) (hb _ _ _ _ (wpAny_newFunctionEnv_cells S.kind kinds ?_))
  intro env he s1 x1
  subst he
  refine ⟨(e0.mod.nolimit.keeps keep).keeps x1.toInCall.keep, codeAny_func ?_⟩
  have I : Inv (cxOf (L2.CX P w) P w K mg base N qual scope f cdv A outer s H E) [] (L2.start N vs) H s1 := inv_start S hr.hd e0 (len _ _ _ _ hsp) r x1
  refine wpAny_mono (ht.run [] s1 (L2.start N vs) H _ I hq) ?_ (fun e s' hs => hs)
  intro fl s' hs
  cases fl with
  | ret u =>
    obtain ⟨v, σ', H', J, rv, q⟩ := hs
    exact ⟨v, H', J.os, J.bare, J.base, J.hok, rv, q⟩
  | next =>
    obtain ⟨σ', H', J, q⟩ := hs
    exact ⟨V.non, H', J.os, J.bare, J.base, J.hok, rfl, q⟩
  | brk => exact False.elim hs.choose_spec.choose_spec.2
  | cont => exact False.elim hs.choose_spec.choose_spec.2
theorem fn_okD {x qual : Str} {params : Arguments} {body : List Stmt} {scope : Scope} {kws : List (Str × V)} {f : Addr} {fd : FuncData} {N ps : List Str} {j : Nat} {db : MS}
    (F : FunD K x qual params body scope [] kws f fd) (S : FnScope N ps scope)
    (hbody : ∀ (cdv : Value) (A : Around) (outer : List Env) (s : Shared) (H : Hp) (E : XK), A.guards = some [] → Room j (A.deeper (envOfC qual scope s.heap.objs.size f cdv)) →
      ∃ r, USs (cxOf (L2.CX P w) P w K mg base N qual scope f cdv A outer s H E) (WEx E) r db body) :
    FnG P w K mg base (j + 1) f fd ps (spD K (clOf mg) (fnDen ps.length N.length db)) := by
  refine fn_ofG F S (fun vs H Q E h => ?_) (fun cdv A outer s H vs Q E gd hr h => ?_)
  · obtain ⟨ad, F', ds, k, h1, h2, h3, h4⟩ := h
    by_cases c : ds.length = ps.length
    · rw [h2.length]; exact c
    · unfold fnDen at h4
      rw [if_neg c] at h4
      exact False.elim h4
  · obtain ⟨ad, F', ds, k, h1, h2, h3, h4⟩ := h
    obtain ⟨r, u⟩ := hbody cdv A outer s H E gd hr
    refine ⟨r, u.ps, u.sn ad H F' k (L2.start N vs) H F' _ k _ (rel_start N h1 h2 h3) ?_⟩
    by_cases c : ds.length = ps.length
    · unfold fnDen at h4
      rw [if_pos c] at h4
      cases q : db (ds.map Sl.val ++ List.replicate (N.length - ds.length) Sl.emp) k with
      | nx s' k' => rw [q] at h4; exact fun σ' H' F'' r' x' => h4 .non H' F'' r'.rel.sub r'.rel.dk r'.ext .non
      | ret d k' => rw [q] at h4; exact fun v σ' H' F'' s' r' x' d' => h4 v H' F'' r'.rel.sub r'.rel.dk r'.ext d'
      | ex c fs s' k' => rw [q] at h4; exact fun cls dd σ' H' F'' r' x' e' => h4 cls dd H' F'' r'.rel.sub r'.rel.dk r'.ext e'
      | brk s' k' => rw [q] at h4; exact False.elim h4
      | ct s' k' => rw [q] at h4; exact False.elim h4
      | no => rw [q] at h4; exact False.elim h4
    · unfold fnDen at h4
      rw [if_neg c] at h4
      exact False.elim h4
end

section
variable {X : Cx} {W : WX} {a : Expr} {es : List Expr} {re : TA} {te : ME (List D)} {pos p : Pos} {x : Str} {f : Addr} {fd : FuncData} {ps : List Str} {j : Nat} {g : Fn}
def dCall (g : Fn) (te : ME (List D)) : ME D := eb te fun ds => fun _ k => g ds k
theorem sn_call {K : PySem.W.Frag} {cl : Cl} (ha : Sn K cl W (RA K cl) re te) : Sn K cl W (RD K cl) (tCallS (spD K cl g) (WE W) re) (dCall g te) := by
  intro ad σ H F s k Q rel p
  refine ha.bind rel p fun vs ds H1 F1 k1 _ r1 x1 d1 p1 => ?_
  refine ⟨ad, F1, ds, k1, r1.sub, d1, r1.dk, ?_⟩
  cases q : g ds k1 with
  | ok d k' =>
    simp only [q] at p1
    exact fun v H' F' h1 h2 h3 h4 => p1 v H' F' (r1.extd h3 h1 h2) h3 h4
  | ex c fs k' =>
    simp only [q] at p1
    exact fun cls dd H' F' h1 h2 h3 h4 => p1 cls dd H' F' (r1.extd h3 h1 h2) h3 h4
  | no =>
    simp only [q] at p1
    exact p1
theorem run_fnG {pins : List (Addr × Obj)} {σ : L2.St} {H : Hp} {s : Shared} {Q : VK} {us : List Value} {vs : List V} {sp : Sp} {E : XK} (F : FnG X.prog X.w X.K X.mg X.base j f fd ps sp) (gd : X.A.guards = some []) (hr : Room j X.A) (hb : Binds X.K fd ps []) (hx : PassesAt (L2.CX X.prog X.w) X σ E)
    (I : Inv X pins σ H s) (r : Vals vs us) (h : sp vs H Q E) : wpAny (model X.prog X.w) X.A (call (.ref f) us) (EP X pins σ Q) X.xe s := by
  have hl : us.length = ps.length := r.length.symm.trans (F.len _ _ _ _ h)
  have b := hb s us I.kIn (by rw [List.append_nil]; exact hl)
  rw [List.append_nil] at b
  refine wpAny_call (codeAny_mono (F.run X.A X.stack s H ⟨us, []⟩ us vs Q E gd hr I.env0 b r h) ?_)
  rintro (e | fl) s' hq
  · exact hx pins H s e s' I hq
  · cases fl with
    | ret u => exact I.after hq
    | _ => exact False.elim hq
theorem u_call (F : FnG X.prog X.w X.K X.mg X.base j f fd ps (spD X.K (clOf X.mg) g)) (gd : X.A.guards = some []) (hr : Room j X.A) (hm : X.mg x = some (.ref f)) (hk : PySem.W.keepIn X.K (.ref f) = true) (hb : Binds X.K fd ps []) (tk : Takes X W)
    (ha : UA X W re te (a :: es)) (hg : Gl X x := by rfl) (hdb : (x == ("__debug__" : Str)) = false := by decide) (he : starEach (a :: es) X.env = (false, eval a X.env) :: starEach es X.env := by rfl) (hpl : (backTo pos (starEach es X.env)).any (·.1) = false := by rfl) :
    UE X W (tCallS (spD X.K (clOf X.mg) g) (WE W) re) (dCall g te) (.Call (.Name x p) (a :: es) [] pos) := by
  refine ⟨⟨fun pins s σ H Q I h => ?_⟩, sn_call ha.sn⟩
  refine wpAny_Call_Name_kw (ld_glob I hg hm (PySem.W.callWith_K (h₀ := X.base) I.ok.mod.kin hk (thn (ha.pa.run pos pins s σ H _ I h) ?_) he hpl) hdb)
  rintro us s1 ⟨vs, H1, I1, r, q⟩
  exact ⟨I1.kIn, run_fnG F gd hr hb (passAt tk σ) I1 r q⟩
/-- f() -/
theorem u_call0 (F : FnG X.prog X.w X.K X.mg X.base j f fd ps (spD X.K (clOf X.mg) g)) (gd : X.A.guards = some []) (hr : Room j X.A) (hm : X.mg x = some (.ref f)) (hk : PySem.W.keepIn X.K (.ref f) = true) (hb : Binds X.K fd ps []) (tk : Takes X W)
    (hg : Gl X x := by rfl) (hdb : (x == ("__debug__" : Str)) = false := by decide) : UE X W (tCallS (spD X.K (clOf X.mg) g) (WE W) tNil) (dCall g dNil) (.Call (.Name x p) [] [] pos) := by
  refine ⟨⟨fun pins s σ H Q I h => ?_⟩, sn_call (ua_nil (X := X) (W := W)).sn⟩
  exact wpAny_Call_Name_kw (ld_glob I hg hm (PySem.W.callWith_K0 I.kIn hk (run_fnG (us := []) F gd hr hb (passAt tk σ) I .nil h)) hdb)
/-- keywords -/
structure UK (X : Cx) (W : WX) (r : TA) (t : ME (List D)) (kws : List Keyword) : Prop where
  pk : PK X kws r
  sn : Sn X.K (clOf X.mg) W (RA X.K (clOf X.mg)) r t
variable {kws : List Keyword} {rk : TA} {tk' : ME (List D)}
theorem uk_nil : UK X W tNil dNil [] := ⟨pk_nil, (ua_nil (X := X) (W := W)).sn⟩
theorem uk_cons {ra : TE} {ta : ME D} {nm : Option Str} {kpos : Pos} (ha : UE X W ra ta a) (hr : UK X W rk tk' kws) (h : ∀ ra' : TE, PE X a ra' → ∀ t, PK X kws t → PK X (⟨nm, a, kpos⟩ :: kws) (tCons ra' t) := fun _ h1 _ h2 => pk_cons h1 h2) : UK X W (tCons ra rk) (dCons ta tk') (⟨nm, a, kpos⟩ :: kws) := by
  refine ⟨h _ ha.pe _ hr.pk, fun ad σ H F s k Q rel p => ?_⟩
  refine ha.sn.bind rel p fun x d H1 F1 k1 _ r1 x1 d1 p1 => ?_
  refine hr.sn.bind r1 p1 fun xs ds H2 F2 k2 _ r2 x2 d2 p2 => ?_
  exact p2.ok0 (a := d :: ds) r2 (.cons (d1.mono x2.sub) d2)
/-- a permutation of arguments, of any kind -/
structure Per (gv : List V → List V → List V) (gd : List D → List D → List D) : Prop where
  den : ∀ {K : PySem.W.Frag} {cl : Cl} {ad : Ad} {F : Hp} {vs zs : List V} {ds es : List D}, DenA K cl ad F vs ds → DenA K cl ad F zs es → DenA K cl ad F (gv vs zs) (gd ds es)
def tCallKS (sp : Sp) (gV : List V → List V → List V) (n m : Nat) (E : L2.St → XK) (t tk : TA) : TE := fun σ H Q => t σ H fun vs H1 => tk σ H1 fun zs H2 => vs.length = n ∧ zs.length = m ∧ sp (gV vs zs) H2 Q (E σ)
theorem run_fnKS {ks : List Str} {E : XK} {n : Nat} {gg : List Value → List Value → List Value} {gV : List V → List V → List V} {sp : Sp} {pins : List (Addr × Obj)} {σ : L2.St} {H : Hp} {s : Shared} {Q : VK} {us ws : List Value} {vs zs : List V} (F : FnG X.prog X.w X.K X.mg X.base j f fd ps sp) (gd : X.A.guards = some []) (hr : Room j X.A) (hb : KBn X.K fd ps n ks gg gV) (hx : PassesAt (L2.CX X.prog X.w) X σ E)
    (I : Inv X pins σ H s) (r : Vals vs us) (rz : Vals zs ws) (l1 : vs.length = n) (l2 : zs.length = ks.length) (h : sp (gV vs zs) H Q E) : wpAny (model X.prog X.w) X.A (call (.ref f) us (ks.zip ws)) (EP X pins σ Q) X.xe s := by
  refine wpAny_call (codeAny_mono (F.run X.A X.stack s H ⟨us, ks.zip ws⟩ (gg us ws) (gV vs zs) Q E gd hr I.env0 (hb.to s us ws I.kIn (r.length.symm.trans l1) (rz.length.symm.trans l2)) (hb.rel r rz) h) ?_)
  rintro (e | fl) s' hq
  · exact hx pins H s e s' I hq
  · cases fl with
    | ret u => exact I.after hq
    | _ => exact False.elim hq
def dCallK (g : Fn) (n m : Nat) (gd : List D → List D → List D) (te tk : ME (List D)) : ME D := eb te fun ds => eb tk fun es => fun _ k => if ds.length = n ∧ es.length = m then g (gd ds es) k else .no
theorem sn_callK {K : PySem.W.Frag} {cl : Cl} {n m : Nat} {gv : List V → List V → List V} {gd : List D → List D → List D} (per : Per gv gd) (ha : Sn K cl W (RA K cl) re te) (hk : Sn K cl W (RA K cl) rk tk') :
    Sn K cl W (RD K cl) (tCallKS (spD K cl g) gv n m (WE W) re rk) (dCallK g n m gd te tk') := by
  intro ad σ H F s k Q rel p
  refine ha.bind rel p fun vs ds H1 F1 k1 _ r1 x1 d1 p1 => ?_
  refine hk.bind r1 p1 fun zs es H2 F2 k2 _ r2 x2 d2 p2 => ?_
  by_cases c : ds.length = n ∧ es.length = m
  · simp only [if_pos c] at p2
    refine ⟨d1.length.trans c.1, d2.length.trans c.2, ad, F2, gd ds es, k2, r2.sub, per.den (d1.mono x2.sub) d2, r2.dk, ?_⟩
    cases q : g (gd ds es) k2 with
    | ok d k' =>
      simp only [q] at p2
      exact fun v H' F' h1 h2 h3 h4 => p2 v H' F' (r2.extd h3 h1 h2) h3 h4
    | ex c fs k' =>
      simp only [q] at p2
      exact fun cls dd H' F' h1 h2 h3 h4 => p2 cls dd H' F' (r2.extd h3 h1 h2) h3 h4
    | no =>
      simp only [q] at p2
      exact p2
  · simp only [if_neg c] at p2
    exact False.elim p2
/-- f(k = .., ..) with keywords alone -/
theorem u_callK0 {ks : List Str} {gg : List Value → List Value → List Value} {gv : List V → List V → List V} {gd : List D → List D → List D} (F : FnG X.prog X.w X.K X.mg X.base j f fd ps (spD X.K (clOf X.mg) g)) (hgd : X.A.guards = some []) (hr : Room j X.A) (hm : X.mg x = some (.ref f)) (hkp : PySem.W.keepIn X.K (.ref f) = true)
    (hb : KBn X.K fd ps 0 ks gg gv) (per : Per gv gd) (tk : Takes X W) (hk : UK X W rk tk' kws) (hg : Gl X x := by rfl) (hdb : (x == ("__debug__" : Str)) = false := by decide)
    (hall : (backToKw pos (keywordEach kws X.env)).all (·.1.isSome) = true := by rfl) (hks : (backToKw pos (keywordEach kws X.env)).filterMap (·.1) = ks := by rfl)
    (hpl : (backToKw pos (keywordEach kws X.env)).any (·.1.isNone) = false := by rfl) :
    UE X W (tCallKS (spD X.K (clOf X.mg) g) gv 0 ks.length (WE W) tNil rk) (dCallK g 0 ks.length gd dNil tk') (.Call (.Name x p) [] kws pos) := by
  refine ⟨⟨fun pins s σ H Q I h => ?_⟩, sn_callK per (ua_nil (X := X) (W := W)).sn hk.sn⟩
  refine wpAny_Call_Name_kw (ld_glob I hg hm ?_ hdb)
  refine PySem.W.callWith_KW0 (h₀ := X.base) I.ok.mod.kin hkp hall (thn (hk.pk.run pos pins s σ H _ I h) fun ws s2 ⟨zs, H2, I2, rz, l1, l2, q2⟩ => ⟨I2.kIn, ?_⟩) hpl
  rw [hks]
  exact run_fnKS (us := []) F hgd hr hb (passAt tk σ) I2 .nil rz l1 l2 q2
end
end G
namespace G
open PySem PySem.Spec PyProof.Rows L2

/-! ### data as the library's data -/
def keyPy : Key → PyData
  | .inl i => .int i
  | .inr x => .str x
mutual
def toPy : D → Option PyData
  | .non => some .none
  | .bl b => some (.bool b)
  | .int i => some (.int i)
  | .str x => some (.str x)
  | .tup xs => (toPys xs).map .tuple
  | .lst xs => (toPys xs).map .list
  | .dct kvs => (toPyK kvs).map .dict
  | .ins _ _ => none
  | .ty _ => none
  | .deck => none
  | .scr _ => none
def toPys : List D → Option (List PyData)
  | [] => some []
  | x :: xs => match toPy x, toPys xs with
    | some p, some ps => some (p :: ps)
    | _, _ => none
def toPyK : List (Key × D) → Option (List (PyData × PyData))
  | [] => some []
  | (k, x) :: xs => match toPy x, toPyK xs with
    | some p, some ps => some ((keyPy k, p) :: ps)
    | _, _ => none
end
theorem toPys_cons {x : D} {xs : List D} {ps : List PyData} (h : toPys (x :: xs) = some ps) : ∃ p r, ps = p :: r ∧ toPy x = some p ∧ toPys xs = some r := by
  unfold toPys at h
  cases a : toPy x with
  | none => rw [a] at h; cases h
  | some p =>
    cases b : toPys xs with
    | none => rw [a, b] at h; cases h
    | some r => rw [a, b] at h; cases h; exact ⟨p, r, rfl, rfl, rfl⟩
theorem toPyK_cons {k : Key} {x : D} {xs : List (Key × D)} {ps : List (PyData × PyData)} (h : toPyK ((k, x) :: xs) = some ps) : ∃ p r, ps = (keyPy k, p) :: r ∧ toPy x = some p ∧ toPyK xs = some r := by
  unfold toPyK at h
  cases a : toPy x with
  | none => rw [a] at h; cases h
  | some p =>
    cases b : toPyK xs with
    | none => rw [a, b] at h; cases h
    | some r => rw [a, b] at h; cases h; exact ⟨p, r, rfl, rfl, rfl⟩
mutual
/-- no list within -/
def noList : PyData → Bool
  | .none | .bool _ | .int _ | .str _ => true
  | .list _ => false
  | .tuple xs => noLists xs
  | .dict kvs => noListK kvs
def noLists : List PyData → Bool
  | [] => true
  | x :: xs => noList x && noLists xs
def noListK : List (PyData × PyData) → Bool
  | [] => true
  | (_, x) :: xs => noList x && noListK xs
end
def SysAt (X : Cx) : Prop := ∃ o, X.base.get? sysModules = some o
section
variable {X : Cx} {pins : List (Addr × Obj)} {σ : L2.St} {H F : Hp} {s : Shared} {cl : Cl} {ad : Ad}
theorem pairs_reads {P : Program} {w : World} {h : Heap} : ∀ {es : List DictEntry} {kvs : List (Key × Value)}, Pairs (mixKind P w) es kvs → ReadsAll h (es.map (·.key)) (kvs.map fun p => keyPy p.1) []
  | _, _, .nil => .nil
  | _, _, .cons (e := e) (kv := kv) h1 h2 h3 => by
    have ih := pairs_reads (h := h) h3
    have q : Reads h e.key (keyPy kv.1) [] := by
      rcases keyIs_shape h1 with ⟨i, t, e1, e2⟩ | ⟨x, t, e1, e2⟩
      · rw [e1, e2]; exact .int i t
      · rw [e1, e2]; exact .str x t
    exact ReadsAll.cons (as := []) (bs := []) q ih
theorem pairs_vals {P : Program} {w : World} : ∀ {es : List DictEntry} {kvs : List (Key × Value)}, Pairs (mixKind P w) es kvs → es.map (·.val) = kvs.map (·.2)
  | _, _, .nil => rfl
  | _, _, .cons h1 h2 h3 => by rw [List.map_cons, List.map_cons, h2, pairs_vals h3]
mutual
theorem Den.reads (I : Inv X pins σ H s) (sub : Same F H) : ∀ {d : D} {v : V} {u : Value} {p : PyData}, Den X.K cl ad F v d → RelV v u → toPy d = some p → ∃ as, Reads s.heap u p as ∧ (SysAt X ∨ noList p = true → sysModules ∉ as)
  | .non, _, _, _, .non, r, e => by cases r; cases e; exact ⟨[], .none, fun _ => List.not_mem_nil⟩
  | .bl b, _, _, _, .bl _, r, e => by cases r; cases e; exact ⟨[], .bool _, fun _ => List.not_mem_nil⟩
  | .int i, _, _, _, .int _, r, e => by obtain ⟨t, rfl⟩ := r; cases e; exact ⟨[], .int _ _, fun _ => List.not_mem_nil⟩
  | .str x, _, _, _, .str _, r, e => by obtain ⟨t, rfl⟩ := r; cases e; exact ⟨[], .str _ _, fun _ => List.not_mem_nil⟩
  | .tup ds, _, _, _, .tup h a, r, e => by
    cases r
    obtain ⟨ps, e1, e2⟩ := Option.map_eq_some_iff.mp e
    obtain ⟨its, rv, ⟨o, ho, hc, n, hd⟩, _⟩ := I.tuple (sqT_same sub h)
    obtain ⟨as, hr, c1⟩ := DenA.reads I sub a rv e1
    subst e2
    exact ⟨as, .tuple ho hc hd hr, c1⟩
  | .lst ds, _, _, _, .lst (a := b) h a, r, e => by
    cases r
    obtain ⟨ps, e1, e2⟩ := Option.map_eq_some_iff.mp e
    obtain ⟨its, rv, ⟨o, n, ho, hc, _, hd⟩, _⟩ := I.list (SqL.of (K := X.K) (sub _ _ h))
    obtain ⟨as, hr, c1⟩ := DenA.reads I sub a rv e1
    subst e2
    refine ⟨b :: as, .list ho hc hd hr, fun hs hm => ?_⟩
    rcases hs with ⟨ob, hob⟩ | hs
    · rcases List.mem_cons.mp hm with z | z
      · have n0 := (I.bs _ _ hob).2
        rw [z, sub _ _ h] at n0; cases n0
      · exact c1 (.inl ⟨ob, hob⟩) z
    · cases hs
  | .dct kvs, _, _, _, .dct (a := b) h a, r, e => by
    cases r
    obtain ⟨ps, e1, e2⟩ := Option.map_eq_some_iff.mp e
    obtain ⟨_, hsys, vs, rel, o, es, ep, ho, hx, hd, _, pr, _⟩ := I.hok b _ (sub _ _ h)
    obtain ⟨as, hk, hr, c1⟩ := DenK.reads I sub a rel e1
    subst e2
    have q1 := pairs_reads (h := s.heap) pr
    rw [hk] at q1
    rw [← pairs_vals pr] at hr
    refine ⟨b :: [] ++ as, .dict ho hx.1 hd q1 hr, fun hs hm => ?_⟩
    rcases List.mem_cons.mp (show sysModules ∈ b :: as from hm) with z | z
    · rw [← z] at hsys; simp at hsys
    · exact c1 hs z
theorem DenA.reads (I : Inv X pins σ H s) (sub : Same F H) : ∀ {ds : List D} {vs : List V} {us : List Value} {ps : List PyData}, DenA X.K cl ad F vs ds → Vals vs us → toPys ds = some ps →
    ∃ as, ReadsAll s.heap us ps as ∧ (SysAt X ∨ noLists ps = true → sysModules ∉ as)
  | [], _, _, _, .nil, .nil, e => by cases e; exact ⟨[], .nil, fun _ => List.not_mem_nil⟩
  | d :: ds, _, _, _, .cons h1 h2, .cons r1 r2, e => by
    obtain ⟨p, r, rfl, e1, e2⟩ := toPys_cons e
    obtain ⟨as, q1, c1⟩ := Den.reads I sub h1 r1 e1
    obtain ⟨bs, q2, c2⟩ := DenA.reads I sub h2 r2 e2
    refine ⟨as ++ bs, .cons q1 q2, fun hs hm => ?_⟩
    have hs1 : SysAt X ∨ (noList p = true ∧ noLists r = true) := hs.imp id fun z => by
      unfold noLists at z
      exact (Bool.and_eq_true _ _).mp z
    rcases List.mem_append.mp hm with z | z
    · exact c1 (hs1.imp id And.left) z
    · exact c2 (hs1.imp id And.right) z
theorem DenK.reads (I : Inv X pins σ H s) (sub : Same F H) : ∀ {ds : List (Key × D)} {vs : List (Key × V)} {us : List (Key × Value)} {ps : List (PyData × PyData)}, DenK X.K cl ad F vs ds → KV vs us → toPyK ds = some ps →
    ∃ as, us.map (fun q => keyPy q.1) = ps.map (·.1) ∧ ReadsAll s.heap (us.map (·.2)) (ps.map (·.2)) as ∧ (SysAt X ∨ noListK ps = true → sysModules ∉ as)
  | [], _, _, _, .nil, .nil, e => by cases e; exact ⟨[], rfl, .nil, fun _ => List.not_mem_nil⟩
  | (k, d) :: ds, _, _, _, .cons h1 h2, .cons r1 r2, e => by
    obtain ⟨p, r, rfl, e1, e2⟩ := toPyK_cons e
    obtain ⟨as, q1, c1⟩ := Den.reads I sub h1 r1.2 e1
    obtain ⟨bs, hk, q2, c2⟩ := DenK.reads I sub h2 r2 e2
    refine ⟨as ++ bs, ?_, .cons q1 q2, fun hs hm => ?_⟩
    · rw [List.map_cons, List.map_cons, hk, ← r1.1]
    · have hs1 : SysAt X ∨ (noList p = true ∧ noListK r = true) := hs.imp id fun z => by
        unfold noListK at z
        exact (Bool.and_eq_true _ _).mp z
      rcases List.mem_append.mp hm with z | z
      · exact c1 (hs1.imp id And.left) z
      · exact c2 (hs1.imp id And.right) z
end
end

/-! ### operators -/
def rOr (r r' : R2) : R2 := fun x y H Q => r x y H Q ∨ r' x y H Q
theorem opr_or {X : Cx} {f : Value → Value → Sem Value} {r r' : R2} (a : OpR X f r) (b : OpR X f r') : OpR X f (rOr r r') := fun pins s σ H x y v u Q I rx ry h =>
  h.elim (a pins s σ H x y v u Q I rx ry) (b pins s σ H x y v u Q I rx ry)
abbrev rAddI : R2 := rI0 fun i j => .int (i + j)
abbrev rAddT : R2 := fun x y H Q => ∃ i j, x = .str i ∧ y = .str j ∧ i.length + j.length ≤ sizeLine ∧ Q (.str (i ++ j)) H
def rAdds (K : PySem.W.Frag) : R2 := rOr rAddI (rOr rAddT (rOr rCat (rCatA K)))
theorem op_adds {X : Cx} : OpR X (binaryOp .Add) (rAdds X.K) := opr_or op_add (opr_or op_add_str (opr_or op_cat op_catA))
/-- a value, if a condition holds -/
def chk (c : Bool) (d : D) : Option D := if c = true then some d else none
theorem chk_some {c : Bool} {d z : D} (h : chk c d = some z) : c = true ∧ z = d := by
  unfold chk at h
  by_cases w : c = true
  · rw [if_pos w] at h; cases h; exact ⟨w, rfl⟩
  · rw [if_neg w] at h; cases h
theorem chk_true {d : D} : chk true d = some d := rfl
theorem chk_pos {c : Bool} {d : D} (h : c = true) : chk c d = some d := if_pos h
def addD : D → D → Option D
  | .int i, .int j => some (.int (i + j))
  | .str i, .str j => chk (decide (i.length + j.length ≤ sizeLine)) (.str (i ++ j))
  | .lst xs, .lst ys => chk (decide (xs.length + ys.length ≤ sizeLine)) (.lst (xs ++ ys))
  | .tup xs, .tup ys => chk (decide (xs.length + ys.length ≤ sizeLine)) (.tup (xs ++ ys))
  | _, _ => none
section
variable {K : PySem.W.Frag} {cl : Cl}
theorem sn_add : OpSn K cl (rAdds K) addD := by
  intro ad F H x y d e z Q sub hx hy hz q
  cases hx with
  | int i =>
    cases hy with
    | int j => cases hz; exact .inl ⟨i, j, rfl, rfl, q _ H F (New.refl sub) (.int _)⟩
    | _ => cases hz
  | str i =>
    cases hy with
    | str j =>
      obtain ⟨c, rfl⟩ := chk_some hz
      exact .inr (.inl ⟨i, j, rfl, rfl, of_decide_eq_true c, q _ H F (New.refl sub) (.str _)⟩)
    | _ => cases hz
  | @lst a xs ds h1 a1 =>
    cases hy with
    | @lst b ys es h2 a2 =>
      obtain ⟨c, rfl⟩ := chk_some hz
      refine .inr (.inr (.inl ⟨_, _, _, _, rfl, rfl, sub _ _ h1, sub _ _ h2, by rw [a1.length, a2.length]; exact of_decide_eq_true c, fun p hp => ?_⟩))
      have n := New.one (o := .lst (xs ++ ys)) sub hp
      exact q _ _ _ n (.lst upd_same ((a1.append a2).mono n.sub))
    | _ => cases hz
  | @tup a xs ds h1 a1 =>
    cases hy with
    | @tup b ys es h2 a2 =>
      obtain ⟨c, rfl⟩ := chk_some hz
      refine .inr (.inr (.inr ⟨_, _, _, _, rfl, rfl, sqT_same sub h1, sqT_same sub h2, by rw [a1.length, a2.length]; exact of_decide_eq_true c, fun e => ?_, fun e1 e2 => ?_, fun e1 e2 p hp => ?_⟩))
      · subst e
        cases a1
        exact q _ H F (New.refl sub) (.tup h2 a2)
      · subst e2
        cases a2
        rw [List.append_nil] at q
        exact q _ H F (New.refl sub) (.tup h1 a1)
      · have n := New.one (o := .tup (xs ++ ys)) sub hp
        exact q _ _ _ n (.tup (.of upd_same) ((a1.append a2).mono n.sub))
    | _ => cases hz
  | _ => cases hz
/-- ints alone -/
def iiD (c : Int → Int → Bool) (f : Int → Int → D) : D → D → Option D
  | .int i, .int j => chk (c i j) (f i j)
  | _, _ => none
theorem sn_ii {c : Int → Int → Bool} {C : Int → Int → Prop} {f : Int → Int → D} {g : Int → Int → V} (hc : ∀ i j, c i j = true → C i j) (hg : ∀ ad F i j, Den K cl ad F (g i j) (f i j)) : OpSn K cl (rI C g) (iiD c f) := by
  intro ad F H x y d e z Q sub hx hy hz q
  cases hx with
  | int i =>
    cases hy with
    | int j =>
      obtain ⟨w, rfl⟩ := chk_some hz
      exact ⟨i, j, rfl, rfl, hc i j w, q _ H F (New.refl sub) (hg ad F i j)⟩
    | _ => cases hz
  | _ => cases hz
def iD (f : Int → Int → D) : D → D → Option D
  | .int i, .int j => some (f i j)
  | _, _ => none
theorem sn_i0 {f : Int → Int → D} {g : Int → Int → V} (hg : ∀ ad F i j, Den K cl ad F (g i j) (f i j)) : OpSn K cl (rI0 g) (iD f) := by
  intro ad F H x y d e z Q sub hx hy hz q
  cases hx with
  | int i =>
    cases hy with
    | int j => cases hz; exact ⟨i, j, rfl, rfl, q _ H F (New.refl sub) (hg ad F i j)⟩
    | _ => cases hz
  | _ => cases hz
def subD : D → D → Option D := iD fun i j => .int (i - j)
theorem sn_sub : OpSn K cl (rI0 fun i j => .int (i - j)) subD := sn_i0 fun _ _ _ _ => .int _
/-- * : together below a million bits -/
def okMul (i j : Int) : Bool := decide (i.natAbs.log2 + j.natAbs.log2 < 1000000)
def mulD : D → D → Option D := iiD okMul fun i j => .int (i * j)
theorem sn_mul : OpSn K cl (rI CMulW fun i j => .int (i * j)) mulD := sn_ii (fun i j h => (of_decide_eq_true h : i.natAbs.log2 + j.natAbs.log2 < 1000000)) fun _ _ _ _ => .int _
def okDiv (_ j : Int) : Bool := decide (0 < j) && decide (j.natAbs.log2 < 9000)
def fdivD : D → D → Option D := iiD okDiv fun i j => .int (i / j)
theorem sn_fdiv : OpSn K cl (rI CDivW fun i j => .int (i / j)) fdivD := sn_ii (fun _ _ h => by
  unfold okDiv at h
  rw [Bool.and_eq_true, decide_eq_true_eq, decide_eq_true_eq] at h
  exact h) fun _ _ _ _ => .int _
def modD : D → D → Option D := iiD (fun _ j => decide (0 < j)) fun i j => .int (i % j)
theorem sn_mod : OpSn K cl (rI (fun _ j => 0 < j) fun i j => .int (i % j)) modD := sn_ii (fun _ _ h => of_decide_eq_true h) fun _ _ _ _ => .int _
def okPow (i j : Int) : Bool := decide (0 ≤ j) && decide (j ≤ 1000000) && decide (i.natAbs < 2 ^ 64)
def powD : D → D → Option D := iiD okPow fun i j => .int (i ^ j.toNat)
theorem sn_pow : OpSn K cl (rI CPow fun i j => .int (i ^ j.toNat)) powD := sn_ii (fun _ _ h => by
  unfold okPow at h
  rw [Bool.and_eq_true, Bool.and_eq_true, decide_eq_true_eq, decide_eq_true_eq, decide_eq_true_eq] at h
  exact ⟨h.1.1, h.1.2, h.2⟩) fun _ _ _ _ => .int _

/-! ### comparisons -/
abbrev rLtS : R2 := fun x y H Q => ∃ i j, x = .str i ∧ y = .str j ∧ Q (.bl (decide (i.cps.toList < j.cps.toList))) H
end
/-- == of data: strings at once, all else as the library's data -/
def eqD' (neg : Bool) (d e : D) : Option D := match toPy d, toPy e with
  | some p, some q => chk (SeqAt.shaped p && SeqAt.shaped q) (.bl (neg ^^ PyData.eqv p q))
  | _, _ => none
def eqD (neg : Bool) : D → D → Option D
  | .str x, .str y => some (.bl (neg ^^ decide (x.cps.toList = y.cps.toList)))
  | .int x, .int y => some (.bl (neg ^^ decide (x = y)))
  | d, e => eqD' neg d e
def rEqG' (K : PySem.W.Frag) (cl : Cl) (neg : Bool) : R2 := fun x y H Q => ∃ ad F d e p q, Same F H ∧ Den K cl ad F x d ∧ Den K cl ad F y e ∧ toPy d = some p ∧ toPy e = some q ∧ SeqAt.shaped p = true ∧ SeqAt.shaped q = true ∧ Q (.bl (neg ^^ PyData.eqv p q)) H
def rEqS (neg : Bool) : R2 := fun x y H Q => (∃ i j, x = .str i ∧ y = .str j ∧ Q (.bl (neg ^^ decide (i.cps.toList = j.cps.toList))) H) ∨ ∃ i j, x = .int i ∧ y = .int j ∧ Q (.bl (neg ^^ decide (i = j))) H
def rEqG (K : PySem.W.Frag) (cl : Cl) (neg : Bool) : R2 := rOr (rEqS neg) (rEqG' K cl neg)
theorem str_dec {i j : Str} : decide (V.str i = V.str j) = decide (i.cps.toList = j.cps.toList) := by
  apply decide_eq_decide.mpr
  constructor
  · intro h; cases h; rfl
  · intro h
    cases i with
    | mk a => cases j with
      | mk b =>
        have : a = b := Array.toList_inj.mp h
        rw [this]
theorem int_dec {i j : Int} : decide (V.int i = V.int j) = decide (i = j) := by
  apply decide_eq_decide.mpr
  constructor
  · intro h; cases h; rfl
  · intro h; rw [h]
theorem op_eqSt {X : Cx} : OpR X (compareOp .Eq) (rEqS false) := by
  intro pins s σ H x y v u Q I rx ry h
  rcases h with ⟨i, j, rfl, rfl, h⟩ | ⟨i, j, rfl, rfl, h⟩
  · refine op_eq pins s σ H _ _ v u Q I rx ry ⟨rfl, ?_⟩
    rw [str_dec]; simpa using h
  · refine op_eq pins s σ H _ _ v u Q I rx ry ⟨rfl, ?_⟩
    rw [int_dec]; simpa using h
theorem op_neSt {X : Cx} : OpR X (compareOp .NotEq) (rEqS true) := by
  intro pins s σ H x y v u Q I rx ry h
  rcases h with ⟨i, j, rfl, rfl, h⟩ | ⟨i, j, rfl, rfl, h⟩
  · refine op_ne pins s σ H _ _ v u Q I rx ry ⟨rfl, ?_⟩
    rw [str_dec]; simpa using h
  · refine op_ne pins s σ H _ _ v u Q I rx ry ⟨rfl, ?_⟩
    rw [int_dec]; simpa using h
theorem op_eqG' {X : Cx} (hu : X.A.units + 64 < cLine) : OpR X (compareOp .Eq) (rEqG' X.K (clOf X.mg) false) := by
  intro pins s σ H x y v u Q I rx ry h
  obtain ⟨ad, F, d, e, p, q, sub, hd, he, ep, eq, sp, sq, h⟩ := h
  obtain ⟨as, r1, _⟩ := hd.reads I sub rx ep
  obtain ⟨bs, r2, _⟩ := he.reads I sub ry eq
  exact SeqAt.compareEq_shaped r1 r2 sp sq hu ⟨.bl _, H, I, rfl, by simpa using h⟩
theorem op_neG' {X : Cx} (hu : X.A.units + 64 < cLine) : OpR X (compareOp .NotEq) (rEqG' X.K (clOf X.mg) true) := by
  intro pins s σ H x y v u Q I rx ry h
  obtain ⟨ad, F, d, e, p, q, sub, hd, he, ep, eq, sp, sq, h⟩ := h
  obtain ⟨as, r1, _⟩ := hd.reads I sub rx ep
  obtain ⟨bs, r2, _⟩ := he.reads I sub ry eq
  exact SeqAt.compareNe_shaped r1 r2 sp sq hu ⟨.bl _, H, I, rfl, by simpa using h⟩
theorem op_eqG {X : Cx} (hu : X.A.units + 64 < cLine) : OpR X (compareOp .Eq) (rEqG X.K (clOf X.mg) false) := opr_or op_eqSt (op_eqG' hu)
theorem op_neG {X : Cx} (hu : X.A.units + 64 < cLine) : OpR X (compareOp .NotEq) (rEqG X.K (clOf X.mg) true) := opr_or op_neSt (op_neG' hu)
section
variable {K : PySem.W.Frag} {cl : Cl}
theorem sn_eq {neg : Bool} : OpSn K cl (rEqG K cl neg) (eqD neg) := by
  intro ad F H x y d e z Q sub hx hy hz q
  have go : eqD' neg d e = some z → rEqG K cl neg x y H Q := fun hz => by
    unfold eqD' at hz
    cases h1 : toPy d with
    | none => rw [h1] at hz; cases hz
    | some p =>
      cases h2 : toPy e with
      | none => rw [h1, h2] at hz; cases hz
      | some r =>
        rw [h1, h2] at hz
        obtain ⟨c, rfl⟩ := chk_some hz
        rw [Bool.and_eq_true] at c
        exact .inr ⟨ad, F, d, e, p, r, sub, hx, hy, h1, h2, c.1, c.2, q _ H F (New.refl sub) (.bl _)⟩
  unfold eqD at hz
  split at hz
  · cases hx; cases hy; cases hz
    exact .inl (.inl ⟨_, _, rfl, rfl, q _ H F (New.refl sub) (.bl _)⟩)
  · cases hx; cases hy; cases hz
    exact .inl (.inr ⟨_, _, rfl, rfl, q _ H F (New.refl sub) (.bl _)⟩)
  · exact go hz
end
end G
namespace G
open PySem PySem.Spec PyProof.Rows L2

section
variable {K : PySem.W.Frag} {cl : Cl} {ad : Ad} {F H : Hp}
mutual
theorem Den.dp (sub : Same F H) : ∀ {d : D} {v : V} {p : PyData}, Den K cl ad F v d → toPy d = some p → p.canLay0 = true → Dp K H v p
  | .non, _, _, .non, e, _ => by cases e; exact .non
  | .bl _, _, _, .bl _, e, _ => by cases e; exact .bl _
  | .int _, _, _, .int _, e, _ => by cases e; exact .int _
  | .str _, _, _, .str _, e, _ => by cases e; exact .str _
  | .tup _, _, _, .tup h a, e, c => by
    obtain ⟨ps, e1, e2⟩ := Option.map_eq_some_iff.mp e
    subst e2
    exact .tup (sqT_same sub h) (DenA.dp sub a e1 c)
  | .lst _, _, _, .lst h a, e, c => by
    obtain ⟨ps, e1, e2⟩ := Option.map_eq_some_iff.mp e
    subst e2
    exact .lst (SqL.of (sub _ _ h)) (DenA.dp sub a e1 c)
  | .dct _, _, _, .dct h a, e, c => by
    obtain ⟨ps, e1, e2⟩ := Option.map_eq_some_iff.mp e
    subst e2
    cases c
theorem DenA.dp (sub : Same F H) : ∀ {ds : List D} {vs : List V} {ps : List PyData}, DenA K cl ad F vs ds → toPys ds = some ps → PyData.canLayAll0 ps = true → DpAll K H vs ps
  | [], _, _, .nil, e, _ => by cases e; exact .nil
  | d :: ds, _, _, .cons h1 h2, e, c => by
    obtain ⟨p, r, rfl, e1, e2⟩ := toPys_cons e
    unfold PyData.canLayAll0 at c
    rw [Bool.and_eq_true] at c
    exact .cons (Den.dp sub h1 e1 c.1) (DenA.dp sub h2 e2 c.2)
end
end

/-! ### < <= > >= -/
def rLtTup (K : PySem.W.Frag) (cl : Cl) : R2 := fun x y H Q => ∃ ad F ds es ps qs, Same F H ∧ Den K cl ad F x (.tup ds) ∧ Den K cl ad F y (.tup es) ∧ toPys ds = some ps ∧ toPys es = some qs ∧ PySem.W.alike (.tuple ps) (.tuple qs) = true ∧ (PyData.tuple ps).depth ≤ 60 ∧ Q (.bl (PySem.W.dataLt (.tuple ps) (.tuple qs))) H
theorem op_ltTup {X : Cx} (hu : X.A.units + 64 < cLine) : OpR X (compareOp .Lt) (rLtTup X.K (clOf X.mg)) := by
  intro pins s σ H x y v u Q I rx ry h
  obtain ⟨ad, F, ds, es, ps, qs, sub, hd, he, ep, eq, al, dp, h⟩ := h
  obtain ⟨as, r1, _⟩ := hd.reads (p := .tuple ps) I sub rx (by unfold toPy; rw [ep]; rfl)
  obtain ⟨bs, r2, _⟩ := he.reads (p := .tuple qs) I sub ry (by unfold toPy; rw [eq]; rfl)
  have m : min (PyData.tuple ps).depth (PyData.tuple qs).depth ≤ (PyData.tuple ps).depth := Nat.min_le_left _ _
  exact PySem.W.rcLt_alike _ _ X.A s v u as bs r1 r2 al (fun z => nomatch z) (by omega) X.prog X.w X.xe _ ⟨.bl _, H, I, rfl, h⟩
def ltD : D → D → Option D
  | .int i, .int j => some (.bl (decide (i < j)))
  | .str i, .str j => some (.bl (decide (i.cps.toList < j.cps.toList)))
  | .tup ds, .tup es => match toPys ds, toPys es with
    | some ps, some qs => chk (PySem.W.alike (.tuple ps) (.tuple qs) && decide ((PyData.tuple ps).depth ≤ 60)) (.bl (PySem.W.dataLt (.tuple ps) (.tuple qs)))
    | _, _ => none
  | _, _ => none
abbrev rLtI : R2 := rI0 fun i j => .bl (decide (i < j))
def rLts (K : PySem.W.Frag) (cl : Cl) : R2 := rOr rLtI (rOr rLtS (rLtTup K cl))
theorem op_lts {X : Cx} (hu : X.A.units + 64 < cLine) : OpR X (compareOp .Lt) (rLts X.K (clOf X.mg)) := opr_or op_lt (opr_or op_lt_str (op_ltTup hu))
section
variable {K : PySem.W.Frag} {cl : Cl}
theorem sn_lt : OpSn K cl (rLts K cl) ltD := by
  intro ad F H x y d e z Q sub hx hy hz q
  cases hx with
  | int i =>
    cases hy with
    | int j => cases hz; exact .inl ⟨i, j, rfl, rfl, q _ H F (New.refl sub) (.bl _)⟩
    | _ => cases hz
  | str i =>
    cases hy with
    | str j => cases hz; exact .inr (.inl ⟨i, j, rfl, rfl, q _ H F (New.refl sub) (.bl _)⟩)
    | _ => cases hz
  | @tup a xs ds h1 a1 =>
    cases hy with
    | @tup b ys es h2 a2 =>
      unfold ltD at hz
      cases e1 : toPys ds with
      | none => simp only [e1] at hz; cases hz
      | some ps =>
        cases e2 : toPys es with
        | none => simp only [e1, e2] at hz; cases hz
        | some qs =>
          simp only [e1, e2] at hz
          obtain ⟨c, rfl⟩ := chk_some hz
          rw [Bool.and_eq_true, decide_eq_true_eq] at c
          exact .inr (.inr ⟨ad, F, ds, es, ps, qs, sub, .tup h1 a1, .tup h2 a2, e1, e2, c.1, c.2, q _ H F (New.refl sub) (.bl _)⟩)
    | _ => cases hz
  | _ => cases hz
def leD : D → D → Option D := iD fun i j => .bl (decide (i ≤ j))
theorem sn_le : OpSn K cl (rI0 fun i j => .bl (decide (i ≤ j))) leD := sn_i0 fun _ _ _ _ => .bl _
def gtD : D → D → Option D := iD fun i j => .bl (decide (j < i))
theorem sn_gt : OpSn K cl (rI0 fun i j => .bl (decide (j < i))) gtD := sn_i0 fun _ _ _ _ => .bl _
def geD : D → D → Option D := iD fun i j => .bl (decide (j ≤ i))
theorem sn_ge : OpSn K cl (rI0 fun i j => .bl (decide (j ≤ i))) geD := sn_i0 fun _ _ _ _ => .bl _

/-! ### in, not in -/
/-- a sign in a text; data in a list -/
def rIns (K : PySem.W.Frag) : R2 := rOr rInS (rInD K)
def rNotIns (K : PySem.W.Frag) : R2 := rOr rNotInS (rNotInD K)
def inD (neg : Bool) : D → D → Option D
  | .str x, .str z => match x.cps.toList with
    | [c] => some (.bl (neg ^^ decide (c ∈ z.cps.toList)))
    | _ => none
  | d, .lst es => match toPy d, toPys es with
    | some p, some ps => chk (SeqAt.shaped p && SeqAt.shaped (.list ps)) (.bl (neg ^^ ps.any fun z => PyData.eqv z p))
    | _, _ => none
  | _, _ => none
theorem sgn_of {x : Str} {c : Nat} (h : x.cps.toList = [c]) : x = ⟨#[c]⟩ := by
  cases x with
  | mk a =>
    cases a with
    | mk l => cases h; rfl
theorem inD_list {neg : Bool} {d z : D} {es : List D} (h : inD neg d (.lst es) = some z) : ∃ p ps, toPy d = some p ∧ toPys es = some ps ∧ SeqAt.shaped p = true ∧ SeqAt.shaped (.list ps) = true ∧ z = .bl (neg ^^ ps.any fun z => PyData.eqv z p) := by
  have h' : (match toPy d, toPys es with
    | some p, some ps => chk (SeqAt.shaped p && SeqAt.shaped (.list ps)) (.bl (neg ^^ ps.any fun z => PyData.eqv z p))
    | _, _ => none) = some z := by cases d <;> exact h
  cases e1 : toPy d with
  | none => rw [e1] at h'; cases h'
  | some p =>
    cases e2 : toPys es with
    | none => rw [e1, e2] at h'; cases h'
    | some ps =>
      rw [e1, e2] at h'
      obtain ⟨c, rfl⟩ := chk_some h'
      rw [Bool.and_eq_true] at c
      exact ⟨p, ps, rfl, rfl, c.1, c.2, rfl⟩
theorem inD_str {neg : Bool} {x t : Str} {z : D} (h : inD neg (.str x) (.str t) = some z) : ∃ c, x = ⟨#[c]⟩ ∧ z = .bl (neg ^^ decide (c ∈ t.cps.toList)) := by
  have h' : (match x.cps.toList with
    | [c] => some (D.bl (neg ^^ decide (c ∈ t.cps.toList)))
    | _ => none) = some z := h
  split at h'
  · rename_i c e
    cases h'
    exact ⟨c, sgn_of e, rfl⟩
  · cases h'
theorem sn_in : OpSn K cl (rIns K) (inD false) := by
  intro ad F H x y d e z Q sub hx hy hz q
  cases hy with
  | str t =>
    cases hx with
    | str x =>
      obtain ⟨c, rfl, rfl⟩ := inD_str hz
      exact .inl ⟨c, t, rfl, rfl, by simpa using q (.bl (decide (c ∈ t.cps.toList))) H F (New.refl sub) (by simpa using Den.bl _)⟩
    | _ => cases hz
  | @lst b ys es h2 a2 =>
    obtain ⟨p, ps, e1, e2, s1, s2, rfl⟩ := inD_list hz
    refine .inr ⟨p, ps, hx.dp sub e1 (SeqAt.canLay_of_shaped s1), .lst (SqL.of (sub _ _ h2)) (a2.dp sub e2 (SeqAt.canLay_of_shaped s2)), s1, s2, ?_⟩
    exact by simpa using q (.bl (ps.any fun z => PyData.eqv z p)) H F (New.refl sub) (by simpa using Den.bl _)
  | _ => cases hx <;> cases hz
theorem sn_notIn : OpSn K cl (rNotIns K) (inD true) := by
  intro ad F H x y d e z Q sub hx hy hz q
  cases hy with
  | str t =>
    cases hx with
    | str x =>
      obtain ⟨c, rfl, rfl⟩ := inD_str hz
      exact .inl ⟨c, t, rfl, rfl, by simpa using q (.bl (!decide (c ∈ t.cps.toList))) H F (New.refl sub) (by simpa using Den.bl _)⟩
    | _ => cases hz
  | @lst b ys es h2 a2 =>
    obtain ⟨p, ps, e1, e2, s1, s2, rfl⟩ := inD_list hz
    refine .inr ⟨p, ps, hx.dp sub e1 (SeqAt.canLay_of_shaped s1), .lst (SqL.of (sub _ _ h2)) (a2.dp sub e2 (SeqAt.canLay_of_shaped s2)), s1, s2, ?_⟩
    exact by simpa using q (.bl (!ps.any fun z => PyData.eqv z p)) H F (New.refl sub) (by simpa using Den.bl _)
  | _ => cases hx <;> cases hz
end
theorem op_ins {X : Cx} (hu : X.A.units + 65 < cLine) : OpR X (compareOp .In) (rIns X.K) := opr_or op_inS (op_inD hu)
theorem op_notIns {X : Cx} (hu : X.A.units + 65 < cLine) : OpR X (compareOp .NotIn) (rNotIns X.K) := opr_or op_notInS (op_notInD hu)

/-! ### items, slices -/
def atD (xs : List D) (i : Int) : Option D := atI xs i
def ixD : D → D → Option D
  | .lst xs, .int i => atI xs i
  | .tup xs, .int i => atI xs i
  | .str z, .int i => match atI z.cps.toList i with
    | some c => chk (decide (z.length ≤ sizeLine)) (.str (sgn c))
    | none => none
  | _, _ => none
section
variable {K : PySem.W.Frag} {cl : Cl} {ad : Ad} {F : Hp}
theorem DenA.atI {vs : List V} {ds : List D} {i : Int} {z : D} (h : DenA K cl ad F vs ds) (e : L2.atI ds i = some z) : ∃ v, L2.atI vs i = some v ∧ Den K cl ad F v z := by
  unfold L2.atI at e ⊢
  rw [h.length]
  cases q : ixN ds.length i with
  | none => rw [q] at e; cases e
  | some j =>
    rw [q] at e
    obtain ⟨x, h1, h2⟩ := h.get (i := j) (y := z) e
    exact ⟨x, h1, h2⟩
theorem sn_ix : OpSn K cl (rIx K) ixD := by
  intro ad F H x y d e z Q sub hx hy hz q
  cases hy with
  | int i =>
    cases hx with
    | lst h a =>
      obtain ⟨v, h1, h2⟩ := a.atI hz
      exact .inl ⟨_, _, i, v, rfl, rfl, SqL.of (sub _ _ h), h1, q _ H F (New.refl sub) h2⟩
    | tup h a =>
      obtain ⟨v, h1, h2⟩ := a.atI hz
      exact .inr (.inl ⟨_, _, i, v, rfl, rfl, sqT_same sub h, h1, q _ H F (New.refl sub) h2⟩)
    | str t =>
      unfold ixD at hz
      cases e1 : L2.atI t.cps.toList i with
      | none => simp only [e1] at hz; cases hz
      | some c =>
        simp only [e1] at hz
        obtain ⟨c1, rfl⟩ := chk_some hz
        exact .inr (.inr ⟨t, i, c, rfl, rfl, of_decide_eq_true c1, e1, q _ H F (New.refl sub) (.str _)⟩)
    | _ => cases hz
  | _ => cases hx <;> cases hz
end
section
variable {X : Cx} {W : WX} {a b : Expr} {ra rb : TE} {ta tb : ME D} {pos : Pos}
theorem u_ix (ha : UE X W ra ta a) (hb : UE X W rb tb b) (hs : PlainIx b := by exact fun _ _ => rfl) : UE X W (tOp (rIx X.K) ra rb) (dOp ixD ta tb) (.Subscript a b pos) :=
  ⟨pe_ix ix_seq ha.pe hb.pe hs, sn_op sn_ix ha.sn hb.sn⟩
/-- a part of a slice -/
structure UO (X : Cx) (W : WX) (r : TO) (t : ME (Option Int)) (e : Option Expr) : Prop where
  po : PO X e r
  sn : Sn X.K (clOf X.mg) W (fun _ _ v d => v = d) r t
theorem uo_none : UO X W tNoPart (ep none) none := ⟨po_none, fun ad σ H F s k Q rel p => p.ok0 (a := none) rel rfl⟩
def intOf : D → Option (Option Int)
  | .int i => some (some i)
  | _ => none
theorem uo_some (h : UE X W ra ta a) : UO X W (tPart ra) (eb ta fun d => eo (intOf d)) (some a) := by
  refine ⟨po_some h.pe, fun ad σ H F s k Q rel p => ?_⟩
  refine h.sn.bind rel p fun x d H1 F1 k1 _ r1 x1 d1 p1 => ?_
  obtain ⟨z, hz, p3⟩ := p1.eo
  cases d1 with
  | int i => cases hz; exact ⟨i, rfl, p3.ok0 r1 rfl⟩
  | _ => cases hz
def cutD (xs : List D) (lo hi : Option Int) : List D := (xs.drop (HT.sIx xs.length 0 lo)).take (HT.sIx xs.length xs.length hi - HT.sIx xs.length 0 lo)
def sliceD : D → Option Int → Option Int → Option D
  | .lst xs, lo, hi => some (.lst (cutD xs lo hi))
  | .tup xs, lo, hi => some (.tup (cutD xs lo hi))
  | .str z, lo, hi => chk (decide (z.length ≤ sizeLine)) (.str (cutS z lo hi))
  | .scr ns, lo, hi => some (.lst (cutD (ns.map D.int) lo hi))
  | _, _, _ => none
def rSl (K : PySem.W.Frag) : V → Option Int → Option Int → Hp → VK → Prop := fun x lo hi H Q => rSlL K x lo hi H Q ∨ rSlA K x lo hi H Q ∨ rSlS x lo hi H Q
def dSlice (t : ME D) (lo hi : ME (Option Int)) : ME D := eb t fun d => eb lo fun l => eb hi fun h => eo (sliceD d l h)
theorem cut_den {K : PySem.W.Frag} {cl : Cl} {ad : Ad} {F : Hp} {vs : List V} {ds : List D} (h : DenA K cl ad F vs ds) (lo hi : Option Int) : DenA K cl ad F (cutV vs lo hi) (cutD ds lo hi) := by
  unfold cutV cutD
  rw [h.length]
  exact (h.drop _).take _
theorem ints_den {K : PySem.W.Frag} {cl : Cl} {ad : Ad} {F : Hp} : ∀ ns : List Int, DenA K cl ad F (ns.map V.int) (ns.map D.int)
  | [] => .nil
  | n :: ns => .cons (.int n) (ints_den ns)
theorem u_slice {lo hi : Option Expr} {rl rh : TO} {tl th : ME (Option Int)} {p2 : Pos} (h : UE X W ra ta a) (hl : UO X W rl tl lo) (hh : UO X W rh th hi) : UE X W (tSl (rSl X.K) ra rl rh) (dSlice ta tl th) (.Subscript a (.Slice lo hi none p2) pos) := by
  refine ⟨pe_slice (sl_list.or (sl_tupA.or sl_str)) h.pe hl.po hh.po, fun ad σ H F s k Q rel p => ?_⟩
  refine h.sn.bind rel p fun x d H1 F1 k1 _ r1 x1 d1 p1 => ?_
  refine hl.sn.bind r1 p1 fun l l' H2 F2 k2 _ r2 x2 d2 p2 => ?_
  refine hh.sn.bind r2 p2 fun u u' H3 F3 k3 _ r3 x3 d3 p3 => ?_
  subst d2 d3
  obtain ⟨z, hz, p4⟩ := p3.eo
  have d1' := (d1.mono x2.sub).mono x3.sub
  cases d1' with
  | @lst b xs ds h1 a1 =>
    cases hz
    refine .inl ⟨_, _, rfl, SqL.of (r3.sub _ _ h1), fun q hq => ?_⟩
    have n := New.one (o := .lst (cutV xs l u)) r3.sub hq
    exact p4.ok r3 n (.lst upd_same ((cut_den a1 l u).mono n.sub))
  | @tup b xs ds h1 a1 =>
    cases hz
    refine .inr (.inl ⟨_, _, rfl, sqT_same r3.sub h1, fun c => ?_, fun c q hq => ?_⟩)
    · refine p4.ok0 r3 (.tup h1 ?_)
      have e : cutV xs l u = xs := by
        unfold cutV
        rw [c.1, c.2, List.drop_zero, Nat.sub_zero, List.take_length]
      have := cut_den a1 l u
      rw [e] at this
      exact this
    · have n := New.one (o := .tup (cutV xs l u)) r3.sub hq
      exact p4.ok r3 n (.tup (.of upd_same) ((cut_den a1 l u).mono n.sub))
  | str t =>
    obtain ⟨c, rfl⟩ := chk_some hz
    exact .inr (.inr ⟨t, rfl, of_decide_eq_true c, p4.ok0 r3 (.str _)⟩)
  | @scr b ns h1 =>
    cases hz
    refine .inl ⟨_, _, rfl, r3.sub.seq h1, fun q hq => ?_⟩
    have n := New.one (o := .lst (cutV (ns.map V.int) l u)) r3.sub hq
    exact p4.ok r3 n (.lst upd_same (cut_den (ints_den ns) l u))
  | _ => cases hz
end

/-! ### built-ins -/
section
variable {K : PySem.W.Frag} {cl : Cl}
theorem call1 {r : List V → Hp → VK → Prop} {f : List D → Option D} {g : D → Option D} (hf : ∀ ds z, f ds = some z → ∃ d, ds = [d] ∧ g d = some z)
    (h : ∀ ad F H x d z Q, Same F H → Den K cl ad F x d → g d = some z → (∀ v H' F', New F H F' H' → Den K cl ad F' v z → Q v H') → r [x] H Q) : CallSn K cl r f := by
  intro ad F H xs ds z Q sub hx hz q
  obtain ⟨d, rfl, hg⟩ := hf ds z hz
  cases hx with
  | cons a b => cases b; exact h ad F H _ d z Q sub a hg q
def one (g : D → Option D) : List D → Option D
  | [d] => g d
  | _ => none
theorem one_of {g : D → Option D} : ∀ ds z, one g ds = some z → ∃ d, ds = [d] ∧ g d = some z
  | [d], z, h => ⟨d, rfl, h⟩
  | [], z, h => nomatch h
  | _ :: _ :: _, z, h => nomatch h
/-- len -/
def rLens (K : PySem.W.Frag) : List V → Hp → VK → Prop := fun xs H Q => (∃ p ys, xs = [.ref p] ∧ (SqL K H p ys ∨ SqT K H p ys) ∧ Q (.int ys.length) H) ∨ (∃ z : Str, xs = [.str z] ∧ z.length ≤ sizeLine ∧ Q (.int z.length) H)
theorem call_lens {X : Cx} : CallR X (.builtin "len") (rLens X.K) := fun pins s σ H xs us Q I r h => h.elim (call_len_seq pins s σ H xs us Q I r) (call_len_str pins s σ H xs us Q I r)
def lenD : D → Option D
  | .lst xs => some (.int xs.length)
  | .tup xs => some (.int xs.length)
  | .str z => chk (decide (z.length ≤ sizeLine)) (.int z.length)
  | _ => none
theorem sn_len : CallSn K cl (rLens K) (one lenD) := call1 one_of fun ad F H x d z Q sub hx hz q => by
  cases hx with
  | lst h a => cases hz; refine .inl ⟨_, _, rfl, .inl (SqL.of (sub _ _ h)), ?_⟩; rw [a.length]; exact q _ H F (New.refl sub) (.int _)
  | tup h a => cases hz; refine .inl ⟨_, _, rfl, .inr (sqT_same sub h), ?_⟩; rw [a.length]; exact q _ H F (New.refl sub) (.int _)
  | str t => obtain ⟨c, rfl⟩ := chk_some hz; exact .inr ⟨t, rfl, of_decide_eq_true c, q _ H F (New.refl sub) (.int _)⟩
  | _ => cases hz
/-- int -/
def intD : D → Option D
  | .int i => some (.int i)
  | .bl b => some (.int (if b then 1 else 0))
  | _ => none
theorem sn_int : CallSn K cl (fun xs H Q => (∃ i, xs = [.int i] ∧ Q (.int i) H) ∨ ∃ k, xs = [.bl k] ∧ Q (.int (if k then 1 else 0)) H) (one intD) := call1 one_of fun ad F H x d z Q sub hx hz q => by
  cases hx with
  | int i => cases hz; exact .inl ⟨i, rfl, q _ H F (New.refl sub) (.int _)⟩
  | bl b => cases hz; exact .inr ⟨b, rfl, q _ H F (New.refl sub) (.int _)⟩
  | _ => cases hz
/-- str(n) -/
def strD : D → Option D
  | .int i => chk (decide (i.natAbs.log2 < 1920)) (.str (toString i))
  | _ => none
theorem sn_str : CallSn K cl (fun xs H Q => ∃ i, xs = [.int i] ∧ i.natAbs.log2 < 1920 ∧ Q (.str (toString i)) H) (one strD) := call1 one_of fun ad F H x d z Q sub hx hz q => by
  cases hx with
  | int i => obtain ⟨c, rfl⟩ := chk_some hz; exact ⟨i, rfl, of_decide_eq_true c, q _ H F (New.refl sub) (.str _)⟩
  | _ => cases hz
/-- all, any over lists of bools -/
def bools : List D → Option (List Bool)
  | [] => some []
  | .bl b :: r => (bools r).map (b :: ·)
  | _ => none
theorem bools_den {ad : Ad} {F : Hp} : ∀ {vs : List V} {ds : List D} {bs : List Bool}, DenA K cl ad F vs ds → bools ds = some bs → vs = bs.map V.bl
  | _, _, _, .nil, e => by cases e; rfl
  | _, _, _, .cons h1 h2, e => by
    cases h1 with
    | bl b =>
      obtain ⟨r, e1, e2⟩ := Option.map_eq_some_iff.mp e
      subst e2
      rw [List.map_cons, ← bools_den h2 e1]
    | _ => cases e
def allD : D → Option D
  | .lst ds => (bools ds).map fun bs => .bl (bs.all id)
  | _ => none
def anyD : D → Option D
  | .lst ds => (bools ds).map fun bs => .bl (bs.any id)
  | _ => none
theorem sn_all : CallSn K cl (rAll K) (one allD) := call1 one_of fun ad F H x d z Q sub hx hz q => by
  cases hx with
  | lst h a =>
    obtain ⟨bs, e1, e2⟩ := Option.map_eq_some_iff.mp hz
    subst e2
    refine ⟨_, bs, rfl, ?_, q _ H F (New.refl sub) (.bl _)⟩
    rw [← bools_den a e1]
    exact SqL.of (sub _ _ h)
  | _ => cases hz
theorem sn_any : CallSn K cl (rAny K) (one anyD) := call1 one_of fun ad F H x d z Q sub hx hz q => by
  cases hx with
  | lst h a =>
    obtain ⟨bs, e1, e2⟩ := Option.map_eq_some_iff.mp hz
    subst e2
    refine ⟨_, bs, rfl, ?_, q _ H F (New.refl sub) (.bl _)⟩
    rw [← bools_den a e1]
    exact SqL.of (sub _ _ h)
  | _ => cases hz
/-- tuple(xs) -/
def tupD : D → Option D
  | .lst ds => some (.tup ds)
  | .tup ds => some (.tup ds)
  | _ => none
def rTupOf (K : PySem.W.Frag) : List V → Hp → VK → Prop := fun xs H Q => ∃ p ys, xs = [.ref p] ∧ ((SqL K H p ys ∧ ∀ l, H l = none → Q (.ref l) (upd H l (.tup ys))) ∨ (SqT K H p ys ∧ Q (.ref p) H))
theorem sn_tup : CallSn K cl (rTupOf K) (one tupD) := call1 one_of fun ad F H x d z Q sub hx hz q => by
  cases hx with
  | @lst b xs ds h a =>
    cases hz
    refine ⟨_, _, rfl, .inl ⟨SqL.of (sub _ _ h), fun l hl => ?_⟩⟩
    have n := New.one (o := .tup xs) sub hl
    exact q _ _ _ n (.tup (.of upd_same) (a.mono n.sub))
  | tup h a => cases hz; exact ⟨_, _, rfl, .inr ⟨sqT_same sub h, q _ H F (New.refl sub) (.tup h a)⟩⟩
  | _ => cases hz
/-- list(xs) -/
def lstD : D → Option D
  | .lst ds => some (.lst ds)
  | .tup ds => some (.lst ds)
  | _ => none
def rLstOf (K : PySem.W.Frag) : List V → Hp → VK → Prop := fun xs H Q => ∃ p ys, xs = [.ref p] ∧ (SqL K H p ys ∨ SqT K H p ys) ∧ ∀ l, H l = none → Q (.ref l) (upd H l (.lst ys))
theorem sn_lst : CallSn K cl (rLstOf K) (one lstD) := call1 one_of fun ad F H x d z Q sub hx hz q => by
  cases hx with
  | @lst b xs ds h a =>
    cases hz
    refine ⟨_, _, rfl, .inl (SqL.of (sub _ _ h)), fun l hl => ?_⟩
    have n := New.one (o := .lst xs) sub hl
    exact q _ _ _ n (.lst upd_same (a.mono n.sub))
  | @tup b xs ds h a =>
    cases hz
    refine ⟨_, _, rfl, .inr (sqT_same sub h), fun l hl => ?_⟩
    have n := New.one (o := .lst xs) sub hl
    exact q _ _ _ n (.lst upd_same (a.mono n.sub))
  | _ => cases hz
end
end G
namespace G
open PySem PySem.Spec PyProof.Rows L2

/-! ### isinstance with a built-in class -/
def tyName : D → Option String
  | .non => some "NoneType"
  | .bl _ => some "bool"
  | .int _ => some "int"
  | .str _ => some "str"
  | .tup _ => some "tuple"
  | .lst _ => some "list"
  | .dct _ => some "dict"
  | _ => none
theorem Den.tyX {K : PySem.W.Frag} {cl : Cl} {ad : Ad} {F H : Hp} (sub : Same F H) {v : V} {d : D} {t : String} (h : Den K cl ad F v d) (e : tyName d = some t) : TyX K H v (.type t) := by
  cases h with
  | non => cases e; exact .base .non
  | bl b => cases e; exact .base (.bl b)
  | int i => cases e; exact .base (.int i)
  | str x => cases e; exact .base (.str x)
  | lst h a => cases e; exact .base (.lst (sub _ _ h))
  | tup h a =>
    cases e
    rcases h with (h | ⟨o, h⟩) | ⟨o, its, n, h, hc, _⟩
    · exact .base (.tup (sub _ _ h))
    · exact .fTuple (sub _ _ h)
    · exact .kTuple h hc
  | dct h a => cases e; exact .base (.dK (sub _ _ h))
  | _ => cases e
def isiD : List D → Option D
  | [d, .ty T] => match tyName d with
    | some t => (kitB t T).map D.bl
    | none => none
  | _ => none
theorem sn_isi {K : PySem.W.Frag} {cl : Cl} : CallSn K cl (rIsi K) isiD := by
  intro ad F H xs ds z Q sub hx hz q
  cases hx with
  | nil => cases hz
  | @cons v vs d ds h1 r1 =>
    cases r1 with
    | nil => cases h1 <;> cases hz
    | @cons v2 vs2 d2 ds2 h2 r2 =>
      cases r2 with
      | cons _ _ => cases h1 <;> cases h2 <;> cases hz
      | nil =>
        cases h2 with
        | ty T =>
          have hz' : (match tyName d with
            | some t => (kitB t T).map D.bl
            | none => none) = some z := by cases h1 <;> exact hz
          cases e : tyName d with
          | none => rw [e] at hz'; cases hz'
          | some t =>
            rw [e] at hz'
            obtain ⟨b, e1, e2⟩ := Option.map_eq_some_iff.mp hz'
            subst e2
            exact ⟨v, .ty T, .type t, .type T, b, rfl, .ty T, h1.tyX sub e, kit_ty e1, q _ H F (New.refl sub) (.bl b)⟩
        | _ => cases h1 <;> cases hz
section
variable {X : Cx} {W : WX} {pos : Pos}
theorem u_ty {x : Str} {T : String} (hg : Gl X x) (hm : X.mg x = none) (hv : bootBuiltins x = some (.type T)) (hn : x ≠ "__name__" := by decide) (hd : (x == ("__debug__" : Str)) = false := by decide) : UE X W (tC (.ty T)) (ep (.ty T)) (.Name x pos) :=
  u_c (pe_bltn hg hm hv rfl hn hd) fun _ _ => .ty T

/-! ### repr -/
def reprP (p : PyData) : Bool := p.showable && decide (p.shown.length ≤ sizeLine) && decide (p.depth ≤ 60) && (!p.hasDict || noList p)
def reprD (d : D) : Option D := match toPy d with
  | some p => chk (reprP p) (.str p.shown)
  | none => none
/-- .. where sys.modules stands in the base: lists and dicts in any mix -/
def rRepr (K : PySem.W.Frag) (cl : Cl) : List V → Hp → VK → Prop := fun xs H Q => ∃ ad F x d p, xs = [x] ∧ Same F H ∧ Den K cl ad F x d ∧ toPy d = some p ∧ reprP p = true ∧ Q (.str p.shown) H
theorem call_reprG {k : Nat} (gd : X.A.guards = some []) (hr : Room k X.A) : CallR X (.builtin "repr") (rRepr X.K (clOf X.mg)) := by
  intro pins s σ H xs us Q I r h
  obtain ⟨ad, F, x, d, p, rfl, sub, hd, ep, c, q⟩ := h
  obtain ⟨u, rfl, rx⟩ := vals1 r
  obtain ⟨as, rd, cs⟩ := hd.reads I sub rx ep
  unfold reprP at c
  simp only [Bool.and_eq_true, decide_eq_true_eq, Bool.or_eq_true, Bool.not_eq_true'] at c
  obtain ⟨⟨⟨c1, c2⟩, c3⟩, c4⟩ := c
  have un := hr.un
  have hsm : p.hasDict = true → sysModules ∉ as := fun z => cs (.inr (c4.resolve_left (by rw [z]; exact fun w => nomatch w)))
  have fin : ∀ h' u' tk, (∀ b o, s.heap.get? b = some o → h'.get? b = some o) → EP X pins σ Q (.str p.shown u') { s with heap := h', toks := tk } := fun h' u' tk kp => ⟨.str p.shown, H, I.kept kp, ⟨_, rfl⟩, q⟩
  cases rd with
  | none => exact PySem.P.repr_of_none (fin s.heap _ _ fun _ _ e => e)
  | bool b => exact PySem.P.repr_of_bool (fin s.heap _ _ fun _ _ e => e)
  | int i t => exact PySem.P.repr_of_int (of_decide_eq_true c1) (fin s.heap _ _ fun _ _ e => e)
  | str y t => exact PySem.P.repr_of_str (fin s.heap _ _ fun _ _ e => e) c2
  | list h1 h2 h3 h4 => exact repr_of_reads' (.list h1 h2 h3 h4) c1 hsm gd (by omega) (fun _ _ e => e) fin c2
  | tuple h1 h2 h3 h4 => exact repr_of_reads' (.tuple h1 h2 h3 h4) c1 hsm gd (by omega) (fun _ _ e => e) fin c2
  | dict h1 h2 h3 h4 h5 => exact repr_of_reads' (.dict h1 h2 h3 h4 h5) c1 hsm gd (by omega) (fun _ _ e => e) fin c2
theorem sn_repr {K : PySem.W.Frag} {cl : Cl} : CallSn K cl (rRepr K cl) (one reprD) := call1 one_of fun ad F H x d z Q sub hx hz q => by
  unfold reprD at hz
  cases e : toPy d with
  | none => rw [e] at hz; cases hz
  | some p =>
    rw [e] at hz
    obtain ⟨c, rfl⟩ := chk_some hz
    exact ⟨ad, F, x, d, p, rfl, sub, hx, e, c, q _ H F (New.refl sub) (.str _)⟩

/-! ### list(x) of a text too -/
def rLists (K : PySem.W.Frag) : List V → Hp → VK → Prop := fun xs H Q => rLstOf K xs H Q ∨ ∃ z : Str, xs = [.str z] ∧ z.length ≤ sizeLine ∧ ∀ l, H l = none → Q (.ref l) (upd H l (.lst (z.cps.toList.map fun c => V.str (sgn c))))
theorem call_lists (hc : X.calm = true) : CallR X (.type "list") (rLists X.K) := by
  intro pins s σ H xs us Q I r h
  rcases h with h | ⟨z, rfl, hz, q⟩
  · exact call_list_of pins s σ H xs us Q I r h
  · obtain ⟨u, rfl, rx⟩ := vals1 r
    obtain ⟨t, rfl⟩ := rx
    refine call_list_str (I.ok.hd hc) z t (fun h' tk acc c kp e it => ?_) hz
    refine ⟨.ref s.heap.objs.size, _, I.laid (t' := tk) kp (Nat.le_refl _) (show ObjOk X.prog X.w _ h' _ (.lst (z.cps.toList.map fun c => V.str (sgn c))) from ⟨by rw [List.length_map, Array.length_toList]; exact hz, acc.toList, c, ?_, by rw [Array.toArray_toList]; exact e⟩), rfl, q _ (I.hok.fresh (Nat.le_refl _))⟩
    have key : ∀ (l : List Nat) (vs : List Value), vs.length = l.length → (∀ (j : Nat) v, vs[j]? = some v → ∃ c u, l[j]? = some c ∧ v = .str (sgn c) u) → Vals (l.map fun c => V.str (sgn c)) vs := by
      intro l
      induction l with
      | nil => intro vs hl _; cases vs with
        | nil => exact .nil
        | cons _ _ => cases hl
      | cons c l ih =>
        intro vs hl hv
        cases vs with
        | nil => cases hl
        | cons v vs =>
          obtain ⟨c', u, e1, e2⟩ := hv 0 v rfl
          cases e1
          exact .cons ⟨u, e2⟩ (ih vs (by simpa using hl) fun j w hw => hv (j + 1) w hw)
    refine key _ _ (by rw [Array.length_toList, Array.length_toList]; exact it.1) fun j v hv => ?_
    obtain ⟨c, u, e1, e2⟩ := it.2 j v (by rw [← Array.getElem?_toList]; exact hv)
    exact ⟨c, u, by rw [Array.getElem?_toList]; exact e1, e2⟩
def lstsD : D → Option D
  | .lst ds => some (.lst ds)
  | .tup ds => some (.lst ds)
  | .str z => chk (decide (z.length ≤ sizeLine)) (.lst (signs z))
  | _ => none
theorem signs_den {K : PySem.W.Frag} {cl : Cl} {ad : Ad} {F : Hp} : ∀ l : List Nat, DenA K cl ad F (l.map fun c => V.str (sgn c)) (l.map fun c => D.str (sgn c))
  | [] => .nil
  | c :: l => .cons (.str _) (signs_den l)
theorem sn_lists {K : PySem.W.Frag} {cl : Cl} : CallSn K cl (rLists K) (one lstsD) := call1 one_of fun ad F H x d z Q sub hx hz q => by
  cases hx with
  | @lst b xs ds h a =>
    cases hz
    refine .inl ⟨_, _, rfl, .inl (SqL.of (sub _ _ h)), fun l hl => ?_⟩
    have n := New.one (o := .lst xs) sub hl
    exact q _ _ _ n (.lst upd_same (a.mono n.sub))
  | @tup b xs ds h a =>
    cases hz
    refine .inl ⟨_, _, rfl, .inr (sqT_same sub h), fun l hl => ?_⟩
    have n := New.one (o := .lst xs) sub hl
    exact q _ _ _ n (.lst upd_same (a.mono n.sub))
  | str t =>
    obtain ⟨c, rfl⟩ := chk_some hz
    refine .inr ⟨t, rfl, of_decide_eq_true c, fun l hl => ?_⟩
    have n := New.one (o := .lst (t.cps.toList.map fun c => V.str (sgn c))) sub hl
    exact q _ _ _ n (.lst upd_same (signs_den _))
  | _ => cases hz

/-! ### text[::-1] -/
def revS (z : Str) : Str := ⟨z.cps.toList.reverse.toArray⟩
variable {a b c : Expr} {ra rb rc : TE} {ta tb tc : ME D}
def tRevS (K : PySem.W.Frag) (te : TE) : TE := fun σ H Q => te σ H fun x H1 => (∃ z, x = .str z ∧ z.length ≤ sizeLine ∧ Q (.str (revS z)) H1) ∨ ∃ a xs, x = .ref a ∧ SqL K H1 a xs ∧ ∀ p, H1 p = none → Q (.ref p) (upd H1 p (.lst xs.reverse))
theorem vals_rev : ∀ {xs : List V} {us : List Value}, Vals xs us → Vals xs.reverse us.reverse
  | _, _, .nil => .nil
  | _, _, .cons r t => by
    rw [List.reverse_cons, List.reverse_cons]
    exact (vals_rev t).append (.cons r .nil)
theorem pe_revS {i : Int} {j : Nat} {p1 p2 p3 : Pos} (hi : i = 1) (h : PE X a ra) : PE X (.Subscript a (.Slice none none (some (.UnaryOp .USub (.Constant (.int i) j p1) p2)) p3) pos) (tRevS X.K ra) := by
  subst hi
  refine ⟨fun pins s σ H Q I hw => ?_⟩
  refine Subscript_ (thn (h.run pins s σ H _ I hw) fun v s1 ⟨x, H1, I1, r1, q⟩ => ?_)
  refine wpAny_Slice ?_
  rw [evalPart_none]
  refine wpAny_pure (wpAny_pure ?_)
  rw [evalPart_some]
  have hstep : PE X (.UnaryOp .USub (.Constant (.int 1) j p1) p2) (tUn (rU fun i => .int (-i)) (tC (.int 1))) := pe_un un_neg pe_int
  refine thn (hstep.run pins s1 σ H1 (fun v H' => v = .int (-1) ∧ H' = H1) I1 ⟨1, rfl, rfl, rfl⟩) fun w s2 ⟨v2, H2, I2, r2, e2, e3⟩ => ?_
  subst e2 e3
  obtain ⟨t2, rfl⟩ := r2
  have I3 : Inv X pins σ H2 { s2 with heap := s2.heap.push { cls := .type "slice", data := .fields #[.none, .none, .int (-1) t2] } } := I2.kept (t' := s2.toks) fun b ob q => Heap.get?_push_of_some _ q
  rcases q with ⟨z, ez, hz, q⟩ | ⟨l, xs, ez, hq, q⟩
  · subst ez
    obtain ⟨t, rfl⟩ := r1
    have key : slicePicked z none none (some (-1, t2)) = (List.range z.length).reverse := by
      show Builtin.Str.strSliceIndices none none (-1) z.length = _
      rw [← PySem.W.krv_range, ← PySem.W.krv_sliceRange]
      rfl
    refine tail_any (T := "str") (ops := [.ref s2.heap.objs.size, .str z t]) (typeIs_str _ _ _) PySem.F.slot_str_getitem.lookup (wpAny_getItem_str_slice (l := none) (u := none) (st := some (-1, t2)) ⟨_, Heap.get?_push_size _ rfl, rfl, rfl⟩ rfl ?_) (by with_unfolding_all rfl)
    have hne : (((some ((-1 : Int), t2)).map (·.1)).getD 1 == 1 && (slicePicked z none none (some (-1, t2))).length == z.length) = false := by
      rw [Bool.and_eq_false_iff]; exact .inl rfl
    unfold sliceMade
    rw [if_neg (by rw [hne]; exact Bool.false_ne_true), key]
    have e : ((List.range z.length).reverse.filterMap (z.cps[·]?)) = z.cps.toList.reverse := by
      rw [List.filterMap_reverse]
      exact congrArg List.reverse (PySem.W.krv_all z.cps)
    rw [e]
    refine ⟨?_, .str (revS z), H2, I3.tok _, ⟨_, rfl⟩, q⟩
    show (z.cps.toList.reverse.toArray).size ≤ sizeLine
    rw [List.size_toArray, List.length_reverse, Array.length_toList]
    exact hz
  · subst ez
    cases r1
    obtain ⟨its, rv, pl, hz⟩ := I3.list hq
    have hn := rv.length
    refine tail_any (T := "list") (ops := [.ref l, .ref s2.heap.objs.size]) pl.isList.typeIs PySem.F.slot_list_getitem.lookup (wpAny_getItem_list_slice (lo := none) (hi := none) (st := some (-1)) pl.isList (Heap.IsSliceOf.new ..) .none .none (.int _ _) (by decide) ?_ (by rw [List.size_toArray]; omega)) (by with_unfolding_all rfl)
    rw [PySem.W.krv_pick]
    refine ⟨.ref _, _, I3.laid (t' := s2.toks) (fun b o e => Heap.get?_push_of_some _ e) (Nat.le_refl _) (show ObjOk X.prog X.w _ _ _ (.lst xs.reverse) from ⟨by rw [List.length_reverse]; exact hz, its.reverse, 0, vals_rev rv, Heap.get?_push_size _ rfl⟩), rfl, q _ (I3.hok.fresh (Nat.le_refl _))⟩
def revD : D → Option D
  | .str z => chk (decide (z.length ≤ sizeLine)) (.str (revS z))
  | .lst xs => some (.lst xs.reverse)
  | _ => none
theorem u_revS {i : Int} {j : Nat} {p1 p2 p3 : Pos} (h : UE X W ra ta a) (hi : i = 1 := by rfl) : UE X W (tRevS X.K ra) (dUn revD ta) (.Subscript a (.Slice none none (some (.UnaryOp .USub (.Constant (.int i) j p1) p2)) p3) pos) := by
  refine ⟨pe_revS hi h.pe, fun ad σ H F s k Q rel p => ?_⟩
  refine h.sn.bind rel p fun x d H1 F1 k1 _ r1 x1 d1 p1 => ?_
  obtain ⟨z, hz, p3⟩ := p1.eo
  cases d1 with
  | str t => obtain ⟨c, rfl⟩ := chk_some hz; exact .inl ⟨t, rfl, of_decide_eq_true c, p3.ok0 r1 (.str _)⟩
  | @lst b xs ds h a =>
    cases hz
    refine .inr ⟨b, xs, rfl, SqL.of (r1.sub _ _ h), fun q hq => ?_⟩
    have n := New.one (o := .lst xs.reverse) r1.sub hq
    exact p3.ok r1 n (.lst upd_same (a.reverse.mono n.sub))
  | _ => cases hz

/-! ### a <= b <= c -/
def dChain (f g : D → D → Option D) (ta tb tc : ME D) : ME D := eb ta fun x => eb tb fun y => eb (eo (f x y)) fun z => match z with
  | .bl true => eb tc fun w => eo (g y w)
  | .bl false => ep (.bl false)
  | _ => fun _ _ => .no
theorem sn_chain {K : PySem.W.Frag} {cl : Cl} {r r' : R2} {f g : D → D → Option D} (hf : OpSn K cl r f) (hg : OpSn K cl r' g) (ha : Sn K cl W (RD K cl) ra ta) (hb : Sn K cl W (RD K cl) rb tb) (hc : Sn K cl W (RD K cl) rc tc) :
    Sn K cl W (RD K cl) (tChain r r' ra rb rc) (dChain f g ta tb tc) := by
  intro ad σ H F s k Q rel p
  refine ha.bind rel p fun x d H1 F1 k1 _ r1 x1 d1 p1 => ?_
  refine hb.bind r1 p1 fun y e H2 F2 k2 _ r2 x2 d2 p2 => ?_
  cases q : f d e with
  | none => simp only [eb, eo, q] at p2; exact False.elim p2
  | some z =>
    simp only [eb, eo, q] at p2
    refine hf ad F2 H2 x y d e z _ r2.sub (d1.mono x2.sub) d2 q fun v H' F' n dv => ?_
    have r3 := r2.new n
    cases dv with
    | bl bb =>
      refine ⟨bb, rfl, ?_⟩
      cases bb with
      | false => exact iteF ((Post.from n.ext p2).ok0 (a := D.bl false) r3 (.bl false))
      | true =>
        refine iteT ?_
        have p3 : Post K cl W (RD K cl) ad σ H' F' s k2 (eb tc (fun w => eo (g e w)) s k2) Q := Post.from n.ext p2
        refine hc.bind r3 p3 fun w dw H4 F4 k4 _ r4 x4 d4 p4 => ?_
        obtain ⟨z2, hz2, p5⟩ := p4.eo
        exact hg ad F4 H4 y w e dw z2 Q r4.sub ((d2.mono n.sub).mono x4.sub) d4 hz2 fun v H' F' n dv => p5.ok r4 n dv
    | _ => exact False.elim p2
theorem u_chain {op op' : CmpOp} {r r' : R2} {f g : D → D → Option D} (ho : OpR X (compareOp op) r) (ho' : OpR X (compareOp op') r') (hf : OpSn X.K (clOf X.mg) r f) (hg : OpSn X.K (clOf X.mg) r' g) (ha : UE X W ra ta a) (hb : UE X W rb tb b) (hc : UE X W rc tc c)
    (hm : lastMarks [op, op'] [b, c] = false := by with_unfolding_all rfl) : UE X W (tChain r r' ra rb rc) (dChain f g ta tb tc) (.Compare a [op, op'] [b, c] pos) :=
  ⟨pe_chain ho ho' ha.pe hb.pe hc.pe hm, sn_chain hf hg ha.sn hb.sn hc.sn⟩

/-! ### methods -/
def MtSn (K : PySem.W.Frag) (cl : Cl) (T : String) (r : V → List V → Hp → VK → Prop) (f : D → List D → Option D) : Prop :=
  ∀ ad F H x xs d ds z Q, Same F H → Den K cl ad F x d → DenA K cl ad F xs ds → f d ds = some z → tyV K T x H ∧ ((∀ v H' F', New F H F' H' → Den K cl ad F' v z → Q v H') → r x xs H Q)
def dMeth (f : D → List D → Option D) (to : ME D) (te : ME (List D)) : ME D := eb to fun x => eb te fun xs => eo (f x xs)
/-- a receiver of this type -/
def okTy (T : String) : D → Bool
  | .str _ => T == "str"
  | .lst _ => T == "list"
  | .dct _ => T == "dict"
  | _ => false
def dMethT (T : String) (f : D → List D → Option D) (to : ME D) (te : ME (List D)) : ME D := eb to fun x => match okTy T x with
  | true => eb te fun xs => eo (f x xs)
  | false => fun _ _ => .no
theorem tyV_of {K : PySem.W.Frag} {cl : Cl} {ad : Ad} {F H : Hp} {T : String} {x : V} {d : D} (sub : Same F H) (h : Den K cl ad F x d) (c : okTy T d = true) : tyV K T x H := by
  cases h with
  | str z => exact beq_iff_eq.mp c
  | lst h a => exact .inl ⟨beq_iff_eq.mp c, _, SqL.of (sub _ _ h)⟩
  | dct h a => exact .inr (.inr (.inl ⟨beq_iff_eq.mp c, .inl ⟨_, sub _ _ h⟩⟩))
  | _ => cases c
def MtS (K : PySem.W.Frag) (cl : Cl) (r : V → List V → Hp → VK → Prop) (f : D → List D → Option D) : Prop :=
  ∀ ad F H x xs d ds z Q, Same F H → Den K cl ad F x d → DenA K cl ad F xs ds → f d ds = some z → (∀ v H' F', New F H F' H' → Den K cl ad F' v z → Q v H') → r x xs H Q
variable {es : List Expr} {re : TA} {te : ME (List D)}
theorem sn_meth {K : PySem.W.Frag} {cl : Cl} {T : String} {r : V → List V → Hp → VK → Prop} {f : D → List D → Option D} (h : MtS K cl r f) (ho : Sn K cl W (RD K cl) ra ta) (ha : Sn K cl W (RA K cl) re te) : Sn K cl W (RD K cl) (tBM K T r ra re) (dMethT T f ta te) := by
  intro ad σ H F s k Q rel p
  refine ho.bind rel p fun x d H1 F1 k1 _ r1 x1 d1 p1 => ?_
  cases c : okTy T d with
  | true =>
    rw [c] at p1
    refine ⟨tyV_of r1.sub d1 c, ha.bind r1 p1 fun xs ds H2 F2 k2 _ r2 x2 d2 p2 => ?_⟩
    obtain ⟨z, hz, p3⟩ := p2.eo
    exact h ad F2 H2 x xs d ds z Q r2.sub (d1.mono x2.sub) d2 hz fun v H' F' n dv => p3.ok r2 n dv
  | false => rw [c] at p1; exact False.elim p1
theorem u_meth {o : Expr} {name : Str} {apos cpos : Pos} {T id : String} {r : V → List V → Hp → VK → Prop} {f : D → List D → Option D} (pa : PlainAttrs T) (slot : Slot T name id) (hty : typeOf (.builtin id) = pure (.type "method_descriptor")) (hm : MtR X id r) (hs' : MtS X.K (clOf X.mg) r f) (ho : UE X W ra ta o) (ha : UA X W re te (a :: es))
    (hbase : attributeBase o name X.env (eval o X.env) = eval o X.env := by rfl)
    (hfew : ((backTo cpos (starEach (a :: es) X.env)).all (fun x => !x.1) && (backToKw cpos (keywordEach [] X.env)).all (fun x => x.1.isSome)
      && decide ((a :: es).length + ([] : List Keyword).length + (if ([] : List Keyword).isEmpty then 0 else 1) < 30)) = true := by rfl)
    (hline : (apos.endLine == cpos.line) = true := by rfl) (hs : starEach (a :: es) X.env = (false, eval a X.env) :: starEach es X.env := by rfl) (hplain : (backTo cpos (starEach es X.env)).any (·.1) = false := by rfl) :
    UE X W (tBM X.K T r ra re) (dMethT T f ta te) (.Call (.Attribute o name apos) (a :: es) [] cpos) :=
  ⟨pe_bm pa slot hty hm ho.pe ha.pa hbase hfew hline hs hplain, sn_meth hs' ho.sn ha.sn⟩
/-- sep.join(xs) -/
def strsOf : List D → Option (List Str)
  | [] => some []
  | .str b :: r => (strsOf r).map (b :: ·)
  | _ => none
theorem strs_den {K : PySem.W.Frag} {cl : Cl} {ad : Ad} {F : Hp} : ∀ {vs : List V} {ds : List D} {bs : List Str}, DenA K cl ad F vs ds → strsOf ds = some bs → vs = bs.map V.str
  | _, _, _, .nil, e => by cases e; rfl
  | _, _, _, .cons h1 h2, e => by
    cases h1 with
    | str b =>
      obtain ⟨r, e1, e2⟩ := Option.map_eq_some_iff.mp e
      subst e2
      rw [List.map_cons, ← strs_den h2 e1]
    | _ => cases e
def joinOf (a : Str) (ds : List D) : Option D := match strsOf ds with
  | some ys => chk (decide ((ys.map (·.length)).sum + ys.length * a.length ≤ 16777216)) (.str (Txt.join a ys))
  | none => none
def joinD : D → List D → Option D
  | .str a, [.lst ds] => joinOf a ds
  | .str a, [.tup ds] => joinOf a ds
  | _, _ => none
def rJoin (K : PySem.W.Frag) : V → List V → Hp → VK → Prop := fun x xs H Q => ∃ a p, ∃ ys : List Str, x = .str a ∧ xs = [.ref p] ∧ (SqL K H p (ys.map V.str) ∨ SqT K H p (ys.map V.str)) ∧
    (ys.map (·.length)).sum + ys.length * a.length ≤ 16777216 ∧ Q (.str (Txt.join a ys)) H
theorem sn_join {K : PySem.W.Frag} {cl : Cl} : MtS K cl (rJoin K) joinD := by
  intro ad F H x xs d ds z Q sub hx hxs hz q
  cases hx with
  | str t =>
    cases hxs with
    | nil => cases hz
    | cons h1 r1 =>
      cases r1 with
      | cons _ _ => cases h1 <;> cases hz
      | nil =>
        cases h1 with
        | @lst b vs es h a =>
          have hz' : joinOf t es = some z := hz
          unfold joinOf at hz'
          cases e : strsOf es with
          | none => rw [e] at hz'; cases hz'
          | some ys =>
            rw [e] at hz'
            obtain ⟨c, rfl⟩ := chk_some hz'
            refine ⟨t, b, ys, rfl, rfl, .inl ?_, of_decide_eq_true c, q _ H F (New.refl sub) (.str _)⟩
            rw [← strs_den a e]; exact SqL.of (sub _ _ h)
        | @tup b vs es h a =>
          have hz' : joinOf t es = some z := hz
          unfold joinOf at hz'
          cases e : strsOf es with
          | none => rw [e] at hz'; cases hz'
          | some ys =>
            rw [e] at hz'
            obtain ⟨c, rfl⟩ := chk_some hz'
            refine ⟨t, b, ys, rfl, rfl, .inr ?_, of_decide_eq_true c, q _ H F (New.refl sub) (.str _)⟩
            rw [← strs_den a e]; exact sqT_same sub h
        | _ => cases hz
  | _ => cases hz
/-- xs.index(x), x there -/
def firstAt (p : PyData) : List PyData → Nat → Option Nat
  | [], _ => none
  | q :: qs, n => if PyData.eqv q p = true then some n else firstAt p qs (n + 1)
def indexD : D → List D → Option D
  | .lst es, [d] => match toPy d, toPys es with
    | some p, some ps => match firstAt p ps 0 with
      | some j => chk (SeqAt.shaped p && SeqAt.shaped (.list ps)) (.int (j : Nat))
      | none => none
    | _, _ => none
  | _, _ => none
theorem firstAt_spec {p : PyData} : ∀ {qs : List PyData} {n j : Nat}, firstAt p qs n = some j → ∃ i z, j = n + i ∧ qs[i]? = some z ∧ PyData.eqv z p = true ∧ ∀ (m : Nat) z', m < i → qs[m]? = some z' → PyData.eqv z' p = false
  | [], n, j, h => nomatch h
  | q :: qs, n, j, h => by
    unfold firstAt at h
    by_cases c : PyData.eqv q p = true
    · rw [if_pos c] at h
      cases h
      exact ⟨0, q, rfl, rfl, c, fun m _ hm => absurd hm (Nat.not_lt_zero m)⟩
    · rw [if_neg c] at h
      obtain ⟨i, z, e1, e2, e3, e4⟩ := firstAt_spec h
      refine ⟨i + 1, z, by omega, e2, e3, fun m z' hm hz => ?_⟩
      cases m with
      | zero => cases hz; exact Bool.not_eq_true _ ▸ c
      | succ m => exact e4 m z' (by omega) hz
theorem sn_index {K : PySem.W.Frag} {cl : Cl} : MtS K cl (rIndexD K) indexD := by
  intro ad F H x xs d ds z Q sub hx hxs hz q
  cases hx with
  | @lst b vs es h a =>
    cases hxs with
    | nil => cases hz
    | @cons y ys d2 ds2 h1 r1 =>
      cases r1 with
      | cons _ _ => cases hz
      | nil =>
        unfold indexD at hz
        cases e1 : toPy d2 with
        | none => simp only [e1] at hz; cases hz
        | some p =>
          cases e2 : toPys es with
          | none => simp only [e1, e2] at hz; cases hz
          | some ps =>
            cases e3 : firstAt p ps 0 with
            | none => simp only [e1, e2, e3] at hz; cases hz
            | some j =>
              simp only [e1, e2, e3] at hz
              obtain ⟨c, rfl⟩ := chk_some hz
              rw [Bool.and_eq_true] at c
              obtain ⟨i, w, e4, e5, e6, e7⟩ := firstAt_spec e3
              rw [Nat.zero_add] at e4
              subst e4
              exact ⟨b, y, p, ps, j, w, rfl, rfl, .lst (SqL.of (sub _ _ h)) (a.dp sub e2 (SeqAt.canLay_of_shaped c.2)), h1.dp sub e1 (SeqAt.canLay_of_shaped c.1), c.2, c.1, e5, e6, e7, q _ H F (New.refl sub) (.int _)⟩
  | _ => cases hz

/-! ### lists of one's own -/
/-- x = [..], x to grow -/
theorem RelS.setOwn {K : PySem.W.Frag} {cl : Cl} {ad : Ad} {H0 F0 : Hp} {k0 : Option Dk} {σ : L2.St} {H F : Hp} {s : List Sl} {k : Option Dk} (r : RelS K cl ad H0 F0 k0 σ H F s k) (i : Nat) {p : Addr} {vs : List V} {ds : List D} (hp : H p = none) (hd : DenA K cl ad F vs ds) :
    RelS K cl ad H0 F0 k0 (σ.set i (some (.ref p))) (upd H p (.lst vs)) F (s.set i (.own ds)) k := by
  have hF : F p = none := r.rel.sub.free hp
  have h0 : H0 p = none := by
    cases q : H0 p with
    | none => rfl
    | some o => exact absurd hp (r.ext.there p (by rw [q]; exact fun z => nomatch z))
  have hdk : ∀ d, k = some d → p ≠ ad.1 ∧ p ≠ ad.2 := fun d e => by
    obtain ⟨_, _, _, h4, h5⟩ := r.rel.dk d e
    exact ⟨fun z => (by rw [← z, hp] at h4; cases h4), fun z => (by rw [← z, hp] at h5; cases h5)⟩
  have ne : ∀ (j : Nat) xs b, s[j]? = some (Sl.own xs) → σ[j]? = some (some (V.ref b)) → b ≠ p := fun j xs b h1 h2 e => by
    obtain ⟨b', vs', a1, a2, _⟩ := r.rel.own j xs h1
    rw [h2] at a1; cases a1
    rw [e, hp] at a2; cases a2
  have other : ∀ {j : Nat} {xs : List D}, (s.set i (.own ds))[j]? = some (Sl.own xs) → (i = j ∧ xs = ds) ∨ (i ≠ j ∧ s[j]? = some (Sl.own xs)) := fun {j xs} h => by
    by_cases e : i = j
    · subst e
      by_cases hl : i < s.length
      · rw [List.getElem?_set_self hl] at h; cases h; exact .inl ⟨rfl, rfl⟩
      · rw [List.getElem?_eq_none (by simpa using hl)] at h; cases h
    · rw [List.getElem?_set_ne e] at h; exact .inr ⟨e, h⟩
  have lt : ∀ {xs : List D}, (s.set i (.own ds))[i]? = some (Sl.own xs) → i < σ.length := fun {xs} h => by
    have := (List.getElem?_eq_some_iff.mp h).1
    rw [List.length_set] at this
    rw [r.rel.len]; exact this
  refine ⟨⟨same_upd' r.rel.sub hF, by rw [List.length_set, List.length_set]; exact r.rel.len, fun j d h => ?_, fun j xs h => ?_, fun j1 j2 xs ys b h1 h2 h3 h4 => ?_, fun d e => (r.rel.dk d e).upd (hdk d e).1 (hdk d e).2⟩, ⟨r.ext.some, r.ext.sub, fun b o e n => ?_, fun b e => ?_, r.ext.nofz⟩, fun j xs b h1 h2 => ?_⟩
  · by_cases e : i = j
    · subst e
      by_cases hl : i < s.length
      · rw [List.getElem?_set_self hl] at h; cases h
      · rw [List.getElem?_eq_none (by simpa using hl)] at h; cases h
    · rw [List.getElem?_set_ne e] at h ⊢; exact r.rel.val j d h
  · rcases other h with ⟨e, rfl⟩ | ⟨e, h'⟩
    · subst e
      exact ⟨p, vs, List.getElem?_set_self (lt h), upd_same, hF, fun z => (by obtain ⟨d, hd⟩ := Option.isSome_iff_exists.mp z; exact hdk d hd), hd⟩
    · obtain ⟨b, vs', a1, a2, a3, a4, a5⟩ := r.rel.own j xs h'
      refine ⟨b, vs', by rw [List.getElem?_set_ne e]; exact a1, by rw [upd_ne (ne j xs b h' a1)]; exact a2, a3, a4, a5⟩
  · rcases other h1 with ⟨e1, _⟩ | ⟨e1, q1⟩
    · rcases other h2 with ⟨e2, _⟩ | ⟨e2, q2⟩
      · rw [← e1, ← e2]
      · subst e1
        rw [List.getElem?_set_self (lt h1)] at h3
        rw [List.getElem?_set_ne e2] at h4
        cases h3
        exact absurd rfl (ne j2 ys p q2 h4)
    · rcases other h2 with ⟨e2, _⟩ | ⟨e2, q2⟩
      · subst e2
        rw [List.getElem?_set_self (lt h2)] at h4
        rw [List.getElem?_set_ne e1] at h3
        cases h4
        exact absurd rfl (ne j1 xs p q1 h3)
      · rw [List.getElem?_set_ne e1] at h3
        rw [List.getElem?_set_ne e2] at h4
        exact r.rel.inj j1 j2 xs ys b q1 q2 h3 h4
  · rw [upd_ne (ne_of_none e h0)]; exact r.ext.keep b o e n
  · have : b ≠ p := fun z => e (z ▸ h0)
    rw [upd_ne this]; exact r.ext.there b e
  · rcases other h1 with ⟨e1, _⟩ | ⟨e1, q1⟩
    · subst e1
      rw [List.getElem?_set_self (lt h1)] at h2
      cases h2
      exact h0
    · rw [List.getElem?_set_ne e1] at h2
      exact r.fr j xs b q1 h2
def sOwn (i : Nat) (te : ME (List D)) : MS := sb te fun ds => fun s k => if ds.length ≤ sizeLine then .nx (s.set i (.own ds)) k else .no
theorem us_own {i : Nat} {x : Str} {pos' lp : Pos} (hN : X.N.Nodup) (h : UA X W re te es) (hi : X.N[i]? = some x := by rfl) (hx : Loc X.env.scope x := by first | exact .inl rfl | exact .inr rfl) (hs : swapsWith (.List es lp) (some (.Name x pos')) pos.line X.env = pure false := by rfl)
    (hf : X.fn x = true ∨ X.env.scope.names.lookup x = some .local := by first | exact .inl rfl | exact .inr rfl) : US X W (tAsg (tLst re) (gName i)) (sOwn i te) (.Assign [.Name x pos'] (.List es lp) pos) := by
  refine ⟨ps_set hN hi hx (pe_lst h.pa) hs hf, fun ad H0 F0 k0 σ H F s k E rel p => ?_⟩
  refine h.sn.sbind rel p fun vs ds H1 F1 k1 _ r1 x1 d1 p1 => ?_
  by_cases c : ds.length ≤ sizeLine
  · simp only [if_pos c] at p1
    refine ⟨by rw [d1.length]; exact c, fun q hq => ?_⟩
    exact p1 _ _ F1 (r1.setOwn i hq d1) (Same.refl _)
  · simp only [if_neg c] at p1; exact False.elim p1
/-- a ghost: the list stops growing -/
def frz (i : Nat) : List Sl → List Sl := fun s => match s[i]? with
  | some (.own xs) => s.set i (.val (.lst xs))
  | _ => s
theorem RelS.frz {K : PySem.W.Frag} {cl : Cl} {ad : Ad} {H0 F0 : Hp} {k0 : Option Dk} {σ : L2.St} {H F : Hp} {s : List Sl} {k : Option Dk} (r : RelS K cl ad H0 F0 k0 σ H F s k) (i : Nat) : ∃ F', RelS K cl ad H0 F0 k0 σ H F' (G.frz i s) k ∧ Same F F' := by
  unfold G.frz
  cases q : s[i]? with
  | none => exact ⟨F, r, Same.refl _⟩
  | some z =>
    cases z with
    | emp => exact ⟨F, r, Same.refl _⟩
    | val d => exact ⟨F, r, Same.refl _⟩
    | own xs =>
      obtain ⟨b, vs, a1, a2, a3, a4, a5⟩ := r.rel.own i xs q
      have sF : Same F (upd F b (.lst vs)) := fun c u e => by rw [upd_ne (ne_of_none e a3)]; exact e
      have sH : Same (upd F b (.lst vs)) H := fun c u e => by
        by_cases hb : c = b
        · subst hb; rw [upd_same] at e; cases e; exact a2
        · rw [upd_ne hb] at e; exact r.rel.sub c u e
      have hl : i < s.length := (List.getElem?_eq_some_iff.mp q).1
      refine ⟨upd F b (.lst vs), ⟨⟨sH, by rw [List.length_set]; exact r.rel.len, fun j d h => ?_, fun j ys h => ?_, fun j1 j2 xs' ys c h1 h2 h3 h4 => ?_, fun d e => ?_⟩, ⟨r.ext.some, r.ext.sub.trans sF, r.ext.keep, r.ext.there, fun c h n => ?_⟩, fun j ys c h1 h2 => ?_⟩, sF⟩
      · by_cases e : i = j
        · subst e
          rw [List.getElem?_set_self hl] at h
          cases h
          exact ⟨.ref b, a1, .lst upd_same (a5.mono sF)⟩
        · rw [List.getElem?_set_ne e] at h
          obtain ⟨v, b1, b2⟩ := r.rel.val j d h
          exact ⟨v, b1, b2.mono sF⟩
      · obtain ⟨e, h'⟩ := own_set h
        obtain ⟨b', vs', b1, b2, b3, b4, b5⟩ := r.rel.own j ys h'
        have nb : b' ≠ b := fun z => e (r.rel.inj i j xs ys b q h' a1 (z ▸ b1))
        exact ⟨b', vs', b1, b2, by rw [upd_ne nb]; exact b3, b4, b5.mono sF⟩
      · obtain ⟨_, q1⟩ := own_set h1
        obtain ⟨_, q2⟩ := own_set h2
        exact r.rel.inj j1 j2 xs' ys c q1 q2 h3 h4
      · obtain ⟨c1, c2, c3, c4, c5⟩ := r.rel.dk d e
        obtain ⟨n1, n2⟩ := a4 (by rw [e]; rfl)
        exact ⟨by rw [upd_ne n1.symm]; exact c1, by rw [upd_ne n2.symm]; exact c2, c3, c4, c5⟩
      · have nb : c ≠ b := fun z => h (z ▸ r.fr i xs b q a1)
        rw [upd_ne nb]; exact r.ext.nofz c h n
      · obtain ⟨_, h'⟩ := own_set h1
        exact r.fr j ys c h' h2
def sFrz (i : Nat) (t : MS) : MS := fun s k => t (frz i s) k
theorem us_frz {st : List Stmt} {r : TS} {t : MS} (i : Nat) (h : USs X W r t st) : USs X W r (sFrz i t) st :=
  ⟨h.ps, fun ad H0 F0 k0 σ H F s k E rel p => by
    obtain ⟨F', r', e⟩ := rel.frz i
    exact h.sn ad H0 F0 k0 σ H F' _ k E r' (p.from e)⟩
end
end G
namespace G
open PySem PySem.Spec PyProof.Rows L2

/-! ### an own list grows -/
theorem RelS.grow {K : PySem.W.Frag} {cl : Cl} {ad : Ad} {H0 F0 : Hp} {k0 : Option Dk} {σ : L2.St} {H F : Hp} {s : List Sl} {k : Option Dk} (r : RelS K cl ad H0 F0 k0 σ H F s k) {i : Nat} {xs ys : List D} {b : Addr} {ws : List V} (q : s[i]? = some (Sl.own xs)) (hb : σ[i]? = some (some (V.ref b))) (hd : DenA K cl ad F ws ys) :
    RelS K cl ad H0 F0 k0 σ (upd H b (.lst ws)) F (s.set i (.own ys)) k := by
  obtain ⟨b', vs, a1, a2, a3, a4, a5⟩ := r.rel.own i xs q
  rw [hb] at a1
  cases a1
  have hl : i < s.length := (List.getElem?_eq_some_iff.mp q).1
  have h0 : H0 b = none := r.fr i xs b q hb
  have other : ∀ {j : Nat} {zs : List D}, (s.set i (.own ys))[j]? = some (Sl.own zs) → (i = j ∧ zs = ys) ∨ (i ≠ j ∧ s[j]? = some (Sl.own zs)) := fun {j zs} h => by
    by_cases e : i = j
    · subst e; rw [List.getElem?_set_self hl] at h; cases h; exact .inl ⟨rfl, rfl⟩
    · rw [List.getElem?_set_ne e] at h; exact .inr ⟨e, h⟩
  have was : ∀ {j : Nat} {zs : List D}, (s.set i (.own ys))[j]? = some (Sl.own zs) → ∃ zs', s[j]? = some (Sl.own zs') := fun {j zs} h => by
    rcases other h with ⟨e, _⟩ | ⟨_, h'⟩
    · subst e; exact ⟨_, q⟩
    · exact ⟨_, h'⟩
  refine ⟨⟨same_upd' r.rel.sub a3, by rw [List.length_set]; exact r.rel.len, fun j d h => ?_, fun j zs h => ?_, fun j1 j2 zs ws' c h1 h2 h3 h4 => ?_, fun d e => (r.rel.dk d e).upd (a4 (by rw [e]; rfl)).1 (a4 (by rw [e]; rfl)).2⟩, r.ext.upd h0, fun j zs c h1 h2 => ?_⟩
  · by_cases e : i = j
    · subst e; rw [List.getElem?_set_self hl] at h; cases h
    · rw [List.getElem?_set_ne e] at h; exact r.rel.val j d h
  · rcases other h with ⟨e, rfl⟩ | ⟨e, h'⟩
    · subst e; exact ⟨b, ws, hb, upd_same, a3, a4, hd⟩
    · obtain ⟨c, vs', b1, b2, b3, b4, b5⟩ := r.rel.own j zs h'
      have nb : c ≠ b := fun z => e (r.rel.inj i j xs zs b q h' hb (z ▸ b1))
      exact ⟨c, vs', b1, by rw [upd_ne nb]; exact b2, b3, b4, b5⟩
  · obtain ⟨u1, q1⟩ := was h1
    obtain ⟨u2, q2⟩ := was h2
    exact r.rel.inj j1 j2 u1 u2 c q1 q2 h3 h4
  · obtain ⟨u1, q1⟩ := was h1
    exact r.fr j u1 c q1 h2
section
variable {X : Cx} {W : WX} {pos : Pos} {a b c : Expr} {ra rb rc : TE} {ta tb tc : ME D}
/-- x.append(e), x a list of one's own -/
def sGrow (f : List D → D → Option (List D)) (i : Nat) (t : ME D) : MS := fun s k => match s[i]? with
  | some (.own xs) => sb t (fun d => fun s k => match f xs d with
    | some ys => .nx (s.set i (.own ys)) k
    | none => .no) s k
  | _ => .no
/-- the reading of such a statement, by the list's method r -/
def tGrow (K : PySem.W.Frag) (r : V → List V → Hp → VK → Prop) (i : Nat) (ra : TE) : TS := tDrop (tBM K "list" r (tVar i) (tCons ra tNil))
def GrSn (K : PySem.W.Frag) (cl : Cl) (r : V → List V → Hp → VK → Prop) (f : List D → D → Option (List D)) : Prop :=
  ∀ ad F H b vs xs y d ys (Q : VK), Same F H → F b = none → H b = some (.lst vs) → DenA K cl ad F vs xs → Den K cl ad F y d → f xs d = some ys → (∀ ws, DenA K cl ad F ws ys → Q .non (upd H b (.lst ws))) → r (.ref b) [y] H Q
theorem sn_grow {K : PySem.W.Frag} {cl : Cl} {r : V → List V → Hp → VK → Prop} {f : List D → D → Option (List D)} {i : Nat} (hr : GrSn K cl r f) (h : Sn K cl W (RD K cl) ra ta) : SnS K cl W (tGrow K r i ra) (sGrow f i ta) := by
  intro ad H0 F0 k0 σ H F s k E rel p
  unfold sGrow at p
  cases y : s[i]? with
  | none => rw [y] at p; exact False.elim p
  | some sl =>
    rw [y] at p
    cases sl with
    | emp => exact False.elim p
    | val _ => exact False.elim p
    | own xs =>
      obtain ⟨b, vs, a1, a2, a3, a4, a5⟩ := rel.rel.own i xs y
      refine ⟨.ref b, a1, .inl ⟨rfl, vs, SqL.of a2⟩, ?_⟩
      refine h.sbind rel p fun v d H1 F1 k1 _ r1 x1 d1 p1 => ?_
      obtain ⟨b', vs', c1, c2, c3, c4, c5⟩ := r1.rel.own i xs y
      rw [a1] at c1
      cases c1
      cases z : f xs d with
      | none => simp only [z] at p1; exact False.elim p1
      | some ys =>
        simp only [z] at p1
        exact hr ad F1 H1 b vs' xs v d ys _ r1.rel.sub c3 c2 c5 d1 z fun ws hw => p1 σ _ F1 (r1.grow y a1 hw) (Same.refl _)
def appF (xs : List D) (d : D) : Option (List D) := if xs.length < sizeLine then some (xs ++ [d]) else none
def extF (xs : List D) : D → Option (List D)
  | .lst ys => if xs.length + ys.length ≤ sizeLine then some (xs ++ ys) else none
  | _ => none
theorem gr_append {K : PySem.W.Frag} {cl : Cl} : GrSn K cl rAppend appF := by
  intro ad F H b vs xs y d ys Q sub hF hb hv hy e q
  unfold appF at e
  by_cases c : xs.length < sizeLine
  · rw [if_pos c] at e
    cases e
    exact ⟨b, vs, y, rfl, rfl, hb, by rw [hv.length]; exact c, q _ (hv.append (.cons hy .nil))⟩
  · rw [if_neg c] at e; cases e
theorem gr_extend {K : PySem.W.Frag} {cl : Cl} : GrSn K cl rExtend extF := by
  intro ad F H b vs xs y d ys Q sub hF hb hv hy e q
  cases hy with
  | @lst b2 ws es h a =>
    have e' : (if xs.length + es.length ≤ sizeLine then some (xs ++ es) else none) = some ys := e
    by_cases c : xs.length + es.length ≤ sizeLine
    · rw [if_pos c] at e'
      cases e'
      exact ⟨b, b2, vs, ws, rfl, rfl, hb, sub _ _ h, by rw [hv.length, a.length]; exact c, q _ (hv.append a)⟩
    · rw [if_neg c] at e'; cases e'
  | _ => cases e
theorem us_append {i : Nat} {x : Str} {xp apos cpos : Pos} (h : UE X W ra ta a) (hv : PE X (.Name x xp) (tVar i)) (hs : swapsWith (.Call (.Attribute (.Name x xp) "append" apos) [a] [] cpos) none pos.line X.env = pure false := by rfl)
    (hbase : attributeBase (.Name x xp) "append" X.env (eval (.Name x xp) X.env) = eval (.Name x xp) X.env := by rfl)
    (hfew : ((backTo cpos (starEach [a] X.env)).all (fun x => !x.1) && (backToKw cpos (keywordEach [] X.env)).all (fun x => x.1.isSome)
      && decide ([a].length + ([] : List Keyword).length + (if ([] : List Keyword).isEmpty then 0 else 1) < 30)) = true := by rfl)
    (hline : (apos.endLine == cpos.line) = true := by rfl) (hst : starEach [a] X.env = (false, eval a X.env) :: starEach [] X.env := by rfl) (hplain : (backTo cpos (starEach [] X.env)).any (·.1) = false := by rfl) :
    US X W (tGrow X.K rAppend i ra) (sGrow appF i ta) (.Expr (.Call (.Attribute (.Name x xp) "append" apos) [a] [] cpos) pos) :=
  ⟨ps_expr (pe_bm PySem.F.plainAttrs_list PySem.F.slot_list_append PySem.F.type_list_append mt_append hv (pa_cons h.pe pa_nil hst) hbase hfew hline hst hplain) hs, sn_grow gr_append h.sn⟩
theorem us_extend {i : Nat} {x : Str} {xp apos cpos : Pos} (h : UE X W ra ta a) (hv : PE X (.Name x xp) (tVar i)) (hs : swapsWith (.Call (.Attribute (.Name x xp) "extend" apos) [a] [] cpos) none pos.line X.env = pure false := by rfl)
    (hbase : attributeBase (.Name x xp) "extend" X.env (eval (.Name x xp) X.env) = eval (.Name x xp) X.env := by rfl)
    (hfew : ((backTo cpos (starEach [a] X.env)).all (fun x => !x.1) && (backToKw cpos (keywordEach [] X.env)).all (fun x => x.1.isSome)
      && decide ([a].length + ([] : List Keyword).length + (if ([] : List Keyword).isEmpty then 0 else 1) < 30)) = true := by rfl)
    (hline : (apos.endLine == cpos.line) = true := by rfl) (hst : starEach [a] X.env = (false, eval a X.env) :: starEach [] X.env := by rfl) (hplain : (backTo cpos (starEach [] X.env)).any (·.1) = false := by rfl) :
    US X W (tGrow X.K rExtend i ra) (sGrow extF i ta) (.Expr (.Call (.Attribute (.Name x xp) "extend" apos) [a] [] cpos) pos) :=
  ⟨ps_expr (pe_bm PySem.F.plainAttrs_list PySem.F.slot_list_extend PySem.F.type_list_extend mt_extend hv (pa_cons h.pe pa_nil hst) hbase hfew hline hst hplain) hs, sn_grow gr_extend h.sn⟩

/-! ### two fors in a comprehension -/
def consR (y : D) : RE (List D) → RE (List D)
  | .ok ys k => .ok (y :: ys) k
  | .ex c fs k => .ex c fs k
  | .no => .no
def lcK (g : MG) (tt : ME Bool) (te : ME D) (s0 : List Sl) : List D → (Nat → Option Dk → RE (List D)) → Nat → Option Dk → RE (List D)
  | [], cont, n, k => cont n k
  | d :: ds, cont, n, k => match g d s0 with
    | none => .no
    | some s1 => match tt s1 k with
      | .ok true k1 => match te s1 k1 with
        | .ok y k2 => if n < sizeLine then consR y (lcK g tt te s0 ds cont (n + 1) k2) else .no
        | _ => .no
      | .ok false k1 => lcK g tt te s0 ds cont n k1
      | _ => .no
def lc2L (g : MG) (tt : ME Bool) (ti1 : ME (List D)) (g1 : MG) (tt1 : ME Bool) (te : ME D) (s0 : List Sl) (vs1 : List Nat) : List D → Nat → Option Dk → RE (List D)
  | [], _, k => .ok [] k
  | d :: ds, n, k => match g d s0 with
    | none => .no
    | some s1 => match tt s1 k with
      | .ok true k1 => match ti1 s1 k1 with
        | .ok es k2 => lcK g1 tt1 te (wipeS s1 vs1) es (lc2L g tt ti1 g1 tt1 te s0 vs1 ds) n k2
        | _ => .no
      | .ok false k1 => lc2L g tt ti1 g1 tt1 te s0 vs1 ds n k1
      | _ => .no
def dLc2 (ti : ME (List D)) (g : MG) (tt : ME Bool) (ti1 : ME (List D)) (g1 : MG) (tt1 : ME Bool) (te : ME D) (vs vs1 : List Nat) : ME D := eb ti fun ds => fun s k => more [] (lc2L g tt ti1 g1 tt1 te (wipeS s vs) vs1 ds 0 k)
theorem more_cons {dd : List D} {y : D} {r : RE (List D)} : more dd (consR y r) = more (dd ++ [y]) r := by
  cases r with
  | ok ys k => simp only [more, consR, List.append_assoc, List.singleton_append]
  | ex c fs k => rfl
  | no => rfl
theorem Rel.reuse {K : PySem.W.Frag} {cl : Cl} {ad : Ad} {σ τ : L2.St} {H F H4 F4 : Hp} {s s1 : List Sl} {k k4 : Option Dk} (r : Rel K cl ad σ H F s k) (r2 : Rel K cl ad τ H4 F4 s1 k4) (e : Same F4 F) (o : ∀ (i : Nat) xs, s1[i]? = some (Sl.own xs) → s[i]? = some (Sl.own xs) ∧ τ[i]? = σ[i]?) : Rel K cl ad τ H F s1 k where
  sub := r.sub
  len := r2.len
  val := fun i d h => let ⟨v, h1, h2⟩ := r2.val i d h; ⟨v, h1, h2.mono e⟩
  own := fun i xs h => by
    obtain ⟨h1, h2⟩ := o i xs h
    obtain ⟨b, vs, a1, a2⟩ := r.own i xs h1
    exact ⟨b, vs, by rw [h2]; exact a1, a2⟩
  inj := fun i j xs ys b h1 h2 h3 h4 => by
    obtain ⟨q1, e1⟩ := o i xs h1
    obtain ⟨q2, e2⟩ := o j ys h2
    exact r.inj i j xs ys b q1 q2 (by rw [← e1]; exact h3) (by rw [← e2]; exact h4)
  dk := r.dk
theorem sn_lc2 {K : PySem.W.Frag} {cl : Cl} {is is1 vs vs1 : List Nat} {wi wi1 : TI} {ti ti1 : ME (List D)} {g g1 : TG} {f f1 : MG} {tt tt1 : TT} {dt dt1 : ME Bool} {te : TE} {de : ME D} (hi : Sn K cl W (RI K cl) wi ti) (hg : SnG K cl is g f) (hsub : ∀ i ∈ is, i ∈ vs) (ht : Sn K cl W0 RB tt dt)
    (hi1 : Sn K cl W0 (RI K cl) wi1 ti1) (hg1 : SnG K cl is1 g1 f1) (hsub1 : ∀ i ∈ is1, i ∈ vs1) (ht1 : Sn K cl W0 RB tt1 dt1) (he : Sn K cl W0 (RD K cl) te de) :
    Sn K cl W (RD K cl) (tLc2 wi g tt wi1 g1 tt1 te vs vs1) (dLc2 ti f dt ti1 f1 dt1 de vs vs1) := by
  intro ad σ H F s k Q rel p
  refine hi.bind rel p fun J ds H1 F1 k1 _ r1 x1 d1 p1 => ?_
  intro D hD
  refine ⟨fun i m H => m = ds.length - i ∧ i ≤ ds.length ∧ ∃ F k acc dd, Mk K cl ad H1 F1 k1 D H F k acc dd ∧ Post K cl W (RD K cl) ad σ H1 F1 s k1 (more dd (lc2L f dt ti1 f1 dt1 de (wipeS s vs) vs1 (ds.drop i) dd.length k)) Q,
    ⟨ds.length, by simp, Nat.zero_le _, F1, k1, [], [], Mk.new r1 hD, p1⟩, ?_⟩
  rintro i m H ⟨rfl, hi', F2, k2, acc, dd, mk, p2⟩
  obtain ⟨go, stop⟩ := d1 H F2 mk.ext.sub mk.sub
  by_cases hlt : i < ds.length
  · have hd : ds[i]? = some ds[i] := List.getElem?_eq_getElem hlt
    have hdrop : ds.drop i = ds[i] :: ds.drop (i + 1) := List.drop_eq_getElem_cons hlt
    obtain ⟨g2, g3⟩ := go i _ hd
    rw [hdrop] at p2
    refine .inr ⟨g2, fun H' => ∃ F k acc dd, Mk K cl ad H1 F1 k1 D H' F k acc dd ∧ Post K cl W (RD K cl) ad σ H1 F1 s k1 (more dd (lc2L f dt ti1 f1 dt1 de (wipeS s vs) vs1 (ds.drop (i + 1)) dd.length k)) Q, fun H' q => ⟨ds.length - (i + 1), by omega, rfl, hlt, q⟩, fun x H' y => ?_⟩
    obtain ⟨F3, n3, d3⟩ := g3 x H' y
    have r3 := (mk.rel r1).new n3
    have mk3 := mk.go r1 n3.ext n3.ok r3.dk
    simp only [lc2L] at p2
    cases z : f ds[i] (wipeS s vs) with
    | none => rw [z] at p2; exact False.elim p2
    | some s3 =>
      rw [z] at p2
      refine hg ad (L2.wipe σ vs) H' F3 (wipeS s vs) k2 x ds[i] s3 _ (r3.wipe vs) d3 z fun σ' r' l' k' o' => ?_
      refine ⟨wipe_eq (l'.trans (wipe_length _ _)) fun j hj => k' j fun m => hj (hsub j m), ?_⟩
      have own3 : ∀ (i : Nat) xs, s3[i]? = some (Sl.own xs) → s[i]? = some (Sl.own xs) ∧ σ'[i]? = σ[i]? := fun i xs h => by
        obtain ⟨a1, a2⟩ := o' i xs h
        obtain ⟨b1, b2⟩ := wipeS_some (by intro z; cases z) a1
        exact ⟨b1, by rw [a2, wipe_out b2]⟩
      dsimp only at p2
      refine ht ad σ' H' F3 s3 k2 _ r' ?_
      cases w : dt s3 k2 with
      | no => rw [w] at p2; exact False.elim p2
      | ex c fs k3 => rw [w] at p2; exact False.elim p2
      | ok bb k3 =>
        rw [w] at p2
        intro v4 H4 F4 r4 x4 e4
        subst e4
        have mk4 := mk3.go r1 x4 r4.sub r4.dk
        cases v4 with
        | false => exact iteF ⟨F4, k3, acc, dd, mk4, p2⟩
        | true =>
          refine iteT ?_
          dsimp only at p2
          refine hi1 ad σ' H4 F4 s3 k3 _ r4 ?_
          cases u : ti1 s3 k3 with
          | no => rw [u] at p2; exact False.elim p2
          | ex c fs k5 => rw [u] at p2; exact False.elim p2
          | ok es k5 =>
            rw [u] at p2
            intro J1 H5 F5 r5 x5 it5
            have mk5 := mk4.go r1 x5 r5.sub r5.dk
            dsimp only at p2
            refine ⟨fun j m H => m = es.length - j ∧ j ≤ es.length ∧ ∃ F k acc dd, Mk K cl ad H1 F1 k1 D H F k acc dd ∧ Same F5 F ∧ Post K cl W (RD K cl) ad σ H1 F1 s k1 (more dd (lcK f1 dt1 de (wipeS s3 vs1) (es.drop j) (lc2L f dt ti1 f1 dt1 de (wipeS s vs) vs1 (ds.drop (i + 1))) dd.length k)) Q,
              ⟨es.length, by simp, Nat.zero_le _, F5, k5, acc, dd, mk5, Same.refl _, p2⟩, ?_⟩
            rintro j m H ⟨rfl, hj', F6, k6, acc6, dd6, mk6, sF6, p6⟩
            obtain ⟨go1, stop1⟩ := it5 H F6 sF6 mk6.sub
            by_cases hlt1 : j < es.length
            · have hdj : es[j]? = some es[j] := List.getElem?_eq_getElem hlt1
              have hdropj : es.drop j = es[j] :: es.drop (j + 1) := List.drop_eq_getElem_cons hlt1
              obtain ⟨g6, g7⟩ := go1 j _ hdj
              rw [hdropj] at p6
              refine .inr ⟨g6, fun H' => ∃ F k acc dd, Mk K cl ad H1 F1 k1 D H' F k acc dd ∧ Same F5 F ∧ Post K cl W (RD K cl) ad σ H1 F1 s k1 (more dd (lcK f1 dt1 de (wipeS s3 vs1) (es.drop (j + 1)) (lc2L f dt ti1 f1 dt1 de (wipeS s vs) vs1 (ds.drop (i + 1))) dd.length k)) Q, fun H' q => ⟨es.length - (j + 1), by omega, rfl, hlt1, q⟩, fun x7 H7 y7 => ?_⟩
              obtain ⟨F7, n7, d7⟩ := g7 x7 H7 y7
              have ra7 := (mk6.rel r1).new n7
              have mk7 := mk6.go r1 n7.ext n7.ok ra7.dk
              have r7 : Rel K cl ad σ' H7 F7 s3 k6 := ra7.reuse r5 (sF6.trans n7.sub) own3
              simp only [lcK] at p6
              cases z8 : f1 es[j] (wipeS s3 vs1) with
              | none => rw [z8] at p6; exact False.elim p6
              | some s8 =>
                rw [z8] at p6
                refine hg1 ad (L2.wipe σ' vs1) H7 F7 (wipeS s3 vs1) k6 x7 es[j] s8 _ (r7.wipe vs1) d7 z8 fun σ8 r8 l8 k8 o8 => ?_
                refine ⟨wipe_eq (l8.trans (wipe_length _ _)) fun j hj => k8 j fun m => hj (hsub1 j m), ?_⟩
                dsimp only at p6
                refine ht1 ad σ8 H7 F7 s8 k6 _ r8 ?_
                cases w9 : dt1 s8 k6 with
                | no => rw [w9] at p6; exact False.elim p6
                | ex c fs k3 => rw [w9] at p6; exact False.elim p6
                | ok b9 k9 =>
                  rw [w9] at p6
                  intro v9 H9 F9 r9 x9 e9
                  subst e9
                  have mk9 := mk7.go r1 x9 r9.sub r9.dk
                  cases v9 with
                  | false => exact iteF ⟨F9, k9, acc6, dd6, mk9, (sF6.trans n7.sub).trans x9.sub, p6⟩
                  | true =>
                    refine iteT ?_
                    dsimp only at p6
                    refine he ad σ8 H9 F9 s8 k9 _ r9 ?_
                    cases ue : de s8 k9 with
                    | no => rw [ue] at p6; exact False.elim p6
                    | ex c fs k3 => rw [ue] at p6; exact False.elim p6
                    | ok yy ke =>
                      rw [ue] at p6
                      intro vA HA FA rA xA eA
                      have mkA := mk9.go r1 xA rA.sub rA.dk
                      dsimp only at p6
                      by_cases hn : dd6.length < sizeLine
                      · rw [if_pos hn, more_cons] at p6
                        refine ⟨acc6, mkA.at_, by rw [mkA.den.length]; exact hn, FA, ke, acc6 ++ [vA], dd6 ++ [yy], mkA.app r1 eA, ((sF6.trans n7.sub).trans x9.sub).trans xA.sub, ?_⟩
                        rw [List.length_append, List.length_singleton]
                        exact p6
                      · rw [if_neg hn] at p6; exact False.elim p6
            · have ej : j = es.length := by omega
              subst ej
              rw [List.drop_length] at p6
              exact .inl ⟨stop1 _ (Nat.le_refl _), F6, k6, acc6, dd6, mk6, p6⟩
  · have e : i = ds.length := by omega
    subst e
    rw [List.drop_length] at p2
    simp only [lc2L, more, List.append_nil] at p2
    obtain ⟨F', qa, qb, qc⟩ := mk.end_ r1
    exact .inl ⟨stop _ (Nat.le_refl _), p2 _ H F' qa qb qc⟩
variable {tg tg1 elt iter iter1 : Expr} {ifs ifs1 : List Expr} {scope : Scope} {own : List (Str × Nat)} {is is1 vs1 : List Nat} {wi wi1 : TI} {ti ti1 : ME (List D)} {g g1 : TG} {f f1 : MG} {tt tt1 : TT} {dt dt1 : ME Bool} {te' : TE} {de : ME D}
theorem u_lc2 (hc : X.calm = true) (hN : X.N.Nodup) (hi : UI X W tg wi ti iter) (ok : BlkOk X.N X.env.scope scope own) (hv : ∀ i ∈ vs1, i ∈ own.map (·.2)) (hsub : ∀ i ∈ is, i ∈ own.map (·.2)) (hsub1 : ∀ i ∈ is1, i ∈ vs1)
    (hg : ∀ s H C cl fp, UG (bk X scope s H C cl fp) is g f tg) (ht : ∀ s H C cl fp, UTs (bk X scope s H C cl fp) W0 tt dt ifs) (hi1 : ∀ s H C cl fp, UI (bk X scope s H C cl fp) W0 tg1 wi1 ti1 iter1) (hg1 : ∀ s H C cl fp, UG (bk X scope s H C cl fp) is1 g1 f1 tg1) (ht1 : ∀ s H C cl fp, UTs (bk X scope s H C cl fp) W0 tt1 dt1 ifs1)
    (he : ∀ s H C cl fp, UE (bk X scope s H C cl fp) W0 te' de elt) (hs : ∀ x, foldedSetIterable iter X.env x = pure x := by intro _; rfl) (hs1 : ∀ env x, foldedSetIterable iter1 env x = pure x := by intro _ _; rfl) :
    UE X W (tLc2 wi g tt wi1 g1 tt1 te' (own.map (·.2)) vs1) (dLc2 ti f dt ti1 f1 dt1 de (own.map (·.2)) vs1) (.ListComp elt [⟨tg, iter, ifs, 0⟩, ⟨tg1, iter1, ifs1, 0⟩] scope pos) :=
  ⟨pe_lc2 hc hN hi.pi ok hv (fun s H C cl fp => (hg s H C cl fp).pg) (fun s H C cl fp => (ht s H C cl fp).pt) (fun s H C cl fp => (hi1 s H C cl fp).pi) (fun s H C cl fp => (hg1 s H C cl fp).pg) (fun s H C cl fp => (ht1 s H C cl fp).pt) (fun s H C cl fp => (he s H C cl fp).pe) hs hs1,
    sn_lc2 hi.sn (hg X.s_0 (fun _ => none) 0 [] []).sn hsub (ht X.s_0 (fun _ => none) 0 [] []).sn (hi1 X.s_0 (fun _ => none) 0 [] []).sn (hg1 X.s_0 (fun _ => none) 0 [] []).sn hsub1 (ht1 X.s_0 (fun _ => none) 0 [] []).sn (he X.s_0 (fun _ => none) 0 [] []).sn⟩
theorem us_setLc2 {i : Nat} {y : Str} {py spos : Pos} (hc : X.calm = true) (hN : X.N.Nodup) (hi : UI X W tg wi ti iter) (ok : BlkOk X.N X.env.scope scope own) (hv : ∀ i ∈ vs1, i ∈ own.map (·.2)) (hsub : ∀ i ∈ is, i ∈ own.map (·.2)) (hsub1 : ∀ i ∈ is1, i ∈ vs1)
    (hg : ∀ s H C cl fp, UG (bk X scope s H C cl fp) is g f tg) (ht : ∀ s H C cl fp, UTs (bk X scope s H C cl fp) W0 tt dt ifs) (hi1 : ∀ s H C cl fp, UI (bk X scope s H C cl fp) W0 tg1 wi1 ti1 iter1) (hg1 : ∀ s H C cl fp, UG (bk X scope s H C cl fp) is1 g1 f1 tg1) (ht1 : ∀ s H C cl fp, UTs (bk X scope s H C cl fp) W0 tt1 dt1 ifs1)
    (he : ∀ s H C cl fp, UE (bk X scope s H C cl fp) W0 te' de elt) (hsw : swapsWith (.ListComp elt [⟨tg, iter, ifs, 0⟩, ⟨tg1, iter1, ifs1, 0⟩] scope pos) (some (.Name y py)) spos.line X.env = pure true) (hy : X.N[i]? = some y := by rfl) (hyl : X.env.scope.names.lookup y = some .local := by rfl)
    (hs : ∀ x, foldedSetIterable iter X.env x = pure x := by intro _; rfl) (hs1 : ∀ env x, foldedSetIterable iter1 env x = pure x := by intro _ _; rfl) :
    US X W (tAsg (tLc2 wi g tt wi1 g1 tt1 te' (own.map (·.2)) vs1) (gName i)) (sAsg (dLc2 ti f dt ti1 f1 dt1 de (own.map (·.2)) vs1) (mName i)) (.Assign [.Name y py] (.ListComp elt [⟨tg, iter, ifs, 0⟩, ⟨tg1, iter1, ifs1, 0⟩] scope pos) spos) := by
  refine ⟨ps_setLc2 hc hN hy hyl hsw hi.pi ok hv (fun s H C cl fp => (hg s H C cl fp).pg) (fun s H C cl fp => (ht s H C cl fp).pt) (fun s H C cl fp => (hi1 s H C cl fp).pi) (fun s H C cl fp => (hg1 s H C cl fp).pg) (fun s H C cl fp => (ht1 s H C cl fp).pt) (fun s H C cl fp => (he s H C cl fp).pe) hs hs1, ?_⟩
  refine sn_asg (is := [i]) (sn_lc2 hi.sn (hg X.s_0 (fun _ => none) 0 [] []).sn hsub (ht X.s_0 (fun _ => none) 0 [] []).sn (hi1 X.s_0 (fun _ => none) 0 [] []).sn (hg1 X.s_0 (fun _ => none) 0 [] []).sn hsub1 (ht1 X.s_0 (fun _ => none) 0 [] []).sn (he X.s_0 (fun _ => none) 0 [] []).sn) fun ad σ H F s k v d s' Q rel hd e q => ?_
  cases e
  refine q _ (rel.set i hd) (List.length_set ..) (fun j hj => ?_) fun j xs h1 => ?_
  · exact List.getElem?_set_ne (fun e => hj (by rw [e]; exact List.mem_singleton_self _))
  · obtain ⟨n, h⟩ := own_set h1
    exact ⟨h, List.getElem?_set_ne n⟩
end
end G
namespace G
open PySem PySem.Spec PyProof.Rows L2

/-! ### {k: v, ..} -/
abbrev RP (K : PySem.W.Frag) (cl : Cl) : Ad → Hp → List (V × V) → List (D × D) → Prop := fun ad F ps ds => DenA K cl ad F (ps.map (·.1)) (ds.map (·.1)) ∧ DenA K cl ad F (ps.map (·.2)) (ds.map (·.2))
structure UPs (X : Cx) (W : WX) (pos : Pos) (trs : List (TE × TE)) (t : ME (List (D × D))) (ks : List (Option Expr)) (vs : List Expr) : Prop where
  pp : PPs X pos ks vs trs
  sn : Sn X.K (clOf X.mg) W (RP X.K (clOf X.mg)) (tPairs trs) t
section
variable {X : Cx} {W : WX} {pos : Pos} {a b : Expr} {ra rb : TE} {ta tb : ME D} {trs : List (TE × TE)} {tp : ME (List (D × D))} {ks : List (Option Expr)} {vs : List Expr}
theorem ups_nil : UPs X W pos [] (ep []) [] [] := ⟨pps_nil, fun ad σ H F s k Q rel p => p.ok0 (a := []) rel ⟨.nil, .nil⟩⟩
def dPair (ta tb : ME D) (tp : ME (List (D × D))) : ME (List (D × D)) := eb ta fun x => eb tb fun y => eb tp fun r => ep ((x, y) :: r)
theorem ups_cons (ha : UE X W ra ta a) (hb : UE X W rb tb b) (hr : UPs X W pos trs tp ks vs) : UPs X W pos ((ra, rb) :: trs) (dPair ta tb tp) (some a :: ks) (b :: vs) := by
  refine ⟨pps_cons ha.pe hb.pe hr.pp, fun ad σ H F s k Q rel p => ?_⟩
  refine ha.sn.bind rel p fun x d H1 F1 k1 _ r1 x1 d1 p1 => ?_
  refine hb.sn.bind r1 p1 fun y e H2 F2 k2 _ r2 x2 d2 p2 => ?_
  refine hr.sn.bind r2 p2 fun ps ds H3 F3 k3 _ r3 x3 d3 p3 => ?_
  exact p3.ok0 (a := (d, e) :: ds) r3 ⟨.cons ((d1.mono x2.sub).mono x3.sub) d3.1, .cons (d2.mono x3.sub) d3.2⟩
def keysOf : List (D × D) → Option (List (Key × D))
  | [] => some []
  | (.int i, y) :: r => (keysOf r).map ((Sum.inl i, y) :: ·)
  | (.str x, y) :: r => (keysOf r).map ((Sum.inr x, y) :: ·)
  | _ => none
theorem keys_den {K : PySem.W.Frag} {cl : Cl} {ad : Ad} {F : Hp} : ∀ {ps : List (V × V)} {ds : List (D × D)} {es : List (Key × D)}, DenA K cl ad F (ps.map (·.1)) (ds.map (·.1)) → DenA K cl ad F (ps.map (·.2)) (ds.map (·.2)) → keysOf ds = some es →
    ∃ kvs : List (Key × V), ps = kvs.map (fun kv => (kV kv.1, kv.2)) ∧ DenK K cl ad F kvs es
  | [], [], es, _, _, e => by cases e; exact ⟨[], rfl, .nil⟩
  | [], _ :: _, _, h, _, _ => nomatch h
  | _ :: _, [], _, h, _, _ => nomatch h
  | (x, y) :: ps, (d, e') :: ds, es, .cons h1 h2, .cons h3 h4, e => by
    cases h1 with
    | int i =>
      obtain ⟨r, e1, e2⟩ := Option.map_eq_some_iff.mp e
      subst e2
      obtain ⟨kvs, q1, q2⟩ := keys_den h2 h4 e1
      exact ⟨(Sum.inl i, y) :: kvs, by rw [q1]; rfl, .cons h3 q2⟩
    | str x =>
      obtain ⟨r, e1, e2⟩ := Option.map_eq_some_iff.mp e
      subst e2
      obtain ⟨kvs, q1, q2⟩ := keys_den h2 h4 e1
      exact ⟨(Sum.inr x, y) :: kvs, by rw [q1]; rfl, .cons h3 q2⟩
    | _ => cases e
theorem denK_keys {K : PySem.W.Frag} {cl : Cl} {ad : Ad} {F : Hp} : ∀ {kvs : List (Key × V)} {es : List (Key × D)}, DenK K cl ad F kvs es → kvs.map (·.1) = es.map (·.1)
  | _, _, .nil => rfl
  | _, _, .cons _ h => by rw [List.map_cons, List.map_cons, denK_keys h]
theorem merge_nodup : ∀ (more acc : List (Key × V)), ((acc ++ more).map (·.1)).Nodup → mergeK acc more = acc ++ more
  | [], acc, _ => by rw [List.append_nil]; rfl
  | (k, v) :: r, acc, h => by
    have hk : (acc.any fun kv => decide (kv.1 = k)) = false := by
      rw [List.any_eq_false]
      intro p hp
      have h' := h
      rw [List.map_append, List.nodup_append] at h'
      have := h'.2.2 p.1 (List.mem_map_of_mem hp) k (by simp)
      simpa using this
    have e : putK acc k v = acc ++ [(k, v)] := by
      unfold putK
      rw [hk]
      rfl
    show mergeK (putK acc k v) r = _
    rw [e, merge_nodup r (acc ++ [(k, v)]) (by rw [List.append_assoc]; exact h), List.append_assoc]
    rfl
def dctOf (ds : List (D × D)) : Option D := match keysOf ds with
  | some es => chk (decide ((es.map (·.1)).Nodup) && decide (es.length ≤ 15)) (.dct es)
  | none => none
def dDict (tp : ME (List (D × D))) : ME D := eb tp fun ds => eo (dctOf ds)
theorem u_dict (h : UPs X W pos trs tp ks vs) (hall : ks.all (·.isSome) = true := by rfl) (hl : ks.length = vs.length := by rfl) (h0 : ks ≠ [] := by exact fun z => nomatch z) (h15 : ks.length ≤ 15 := by decide) : UE X W (tDisp trs) (dDict tp) (.Dict ks vs pos) := by
  refine ⟨pe_disp h.pp hall hl h0 h15, fun ad σ H F s k Q rel p q hq => ?_⟩
  have hF : F q = none := rel.sub.free hq
  have nd : ∀ d, k = some d → q ≠ ad.1 ∧ q ≠ ad.2 := fun d e => by
    obtain ⟨_, _, _, h4, h5⟩ := rel.dk d e
    exact ⟨fun z => (by rw [← z, hq] at h4; cases h4), fun z => (by rw [← z, hq] at h5; cases h5)⟩
  have r0 : Rel X.K (clOf X.mg) ad σ (upd H q (.dK [])) F s k := rel.extd (Ext.refl.upd hq) (same_upd' rel.sub hF) fun d e => (rel.dk d e).upd (nd d e).1 (nd d e).2
  have p0 : Post X.K (clOf X.mg) W (RD X.K (clOf X.mg)) ad σ H F s k (eb tp (fun ds => eo (dctOf ds)) s k) Q := p
  refine h.sn ad σ _ F s k _ r0 ?_
  unfold eb at p0
  cases w : tp s k with
  | no => rw [w] at p0; exact p0
  | ex c fs k1 =>
    rw [w] at p0
    exact fun cls dd H' F' r' x' e' => p0 cls dd H' F' r' ⟨x'.some, x'.sub, fun b o h n => x'.keep b o (by rw [upd_ne (ne_of_none h hq)]; exact h) n, fun b h => x'.there b (by
      have : b ≠ q := fun z => h (z ▸ hq)
      rw [upd_ne this]; exact h), fun b h n => x'.nofz b (by
      have : b ≠ q := fun z => h (z ▸ hq)
      rw [upd_ne this]; exact h) n⟩ e'
  | ok ds k1 =>
    rw [w] at p0
    intro ps H2 F2 r2 x2 d2
    have hq2 : H2 q = some (.dK []) := x2.keep q _ upd_same fun z => by
      obtain ⟨d, hd⟩ := Option.isSome_iff_exists.mp z
      exact nd d hd
    have hF2 : F2 q = none := x2.nofz q (by rw [upd_same]; exact fun z => nomatch z) hF
    refine ⟨hq2, ?_⟩
    obtain ⟨z, hz, p3⟩ : ∃ z, dctOf ds = some z ∧ Post X.K (clOf X.mg) W (RD X.K (clOf X.mg)) ad σ H F s k (.ok z k1) Q := by
      dsimp only [eo] at p0
      cases h : dctOf ds with
      | none => rw [h] at p0; exact False.elim p0
      | some z => rw [h] at p0; exact ⟨z, rfl, p0⟩
    unfold dctOf at hz
    cases e1 : keysOf ds with
    | none => rw [e1] at hz; cases hz
    | some es =>
      rw [e1] at hz
      obtain ⟨c, rfl⟩ := chk_some hz
      rw [Bool.and_eq_true, decide_eq_true_eq, decide_eq_true_eq] at c
      obtain ⟨kvs, q1, q2⟩ := keys_den d2.1 d2.2 e1
      have hkeys := denK_keys q2
      have hlen : kvs.length = es.length := by
        have := congrArg List.length hkeys
        rwa [List.length_map, List.length_map] at this
      refine ⟨kvs, q1, by rw [hlen]; exact c.2, ?_⟩
      have hm : mergeK [] kvs = kvs := merge_nodup kvs [] (by rw [List.nil_append, hkeys]; exact c.1)
      rw [hm]
      have sF : Same F2 (upd F2 q (.dK kvs)) := fun b u e => by rw [upd_ne (ne_of_none e hF2)]; exact e
      have sH : Same (upd F2 q (.dK kvs)) (upd H2 q (.dK kvs)) := fun b u e => by
        by_cases hb : b = q
        · subst hb; rw [upd_same] at e ⊢; exact e
        · rw [upd_ne hb] at e ⊢; exact r2.sub b u e
      have ex : Ext ad k k1 F H (upd F2 q (.dK kvs)) (upd H2 q (.dK kvs)) := ⟨x2.some, x2.sub.trans sF, fun b o h n => by
          have nb : b ≠ q := ne_of_none h hq
          rw [upd_ne nb]
          exact x2.keep b o (by rw [upd_ne nb]; exact h) n, fun b h => by
          have nb : b ≠ q := fun z => h (z ▸ hq)
          rw [upd_ne nb]
          exact x2.there b (by rw [upd_ne nb]; exact h), fun b h n => by
          have nb : b ≠ q := fun z => h (z ▸ hq)
          rw [upd_ne nb]
          exact x2.nofz b (by rw [upd_ne nb]; exact h) n⟩
      refine p3 _ _ _ (rel.extd ex sH fun d e => ?_) ex (.dct upd_same (q2.mono sF))
      have n1 : q ≠ ad.1 ∧ q ≠ ad.2 := by
        have : k.isSome = true := by rw [← x2.some, e]; rfl
        obtain ⟨d', hd'⟩ := Option.isSome_iff_exists.mp this
        exact nd d' hd'
      obtain ⟨c1, c2, c3, c4, c5⟩ := r2.dk d e
      exact ⟨by rw [upd_ne n1.1.symm]; exact c1, by rw [upd_ne n1.2.symm]; exact c2, c3, by rw [upd_ne n1.1.symm]; exact c4, by rw [upd_ne n1.2.symm]; exact c5⟩
theorem u_dict0 : UE X W tDNewK (ep (.dct [])) (.Dict [] [] pos) := by
  refine ⟨pe_dnewK, fun ad σ H F s k Q rel p q hq => ?_⟩
  have n := New.one (o := .dK []) rel.sub hq
  exact p.ok (a := D.dct []) rel n (.dct upd_same .nil)
end

/-! ### text * n -/
def repS (x : Str) (n : Nat) : Str := ⟨(List.replicate n x.cps).foldl (· ++ ·) #[]⟩
abbrev rMulT : R2 := fun x y H Q => ∃ (z : Str) (n : Int), x = .str z ∧ y = .int n ∧ 2 ≤ n ∧ z.length ≠ 0 ∧ z.length * n.toNat ≤ sizeLine ∧ Q (.str (repS z n.toNat)) H
theorem op_mulT {X : Cx} : OpR X (binaryOp .Mult) rMulT := by
  intro pins s σ H x y v u Q I rx ry h
  obtain ⟨z, n, rfl, rfl, h2, h0, hl, q⟩ := h
  obtain ⟨t, rfl⟩ := rx
  obtain ⟨t', rfl⟩ := ry
  have hs := sizeLine_eq
  have h1 : n.toNat ≤ sizeLine := Nat.le_trans (by
    have : 1 * n.toNat ≤ z.length * n.toNat := Nat.mul_le_mul_right _ (by omega)
    omega) hl
  have c1 : (n == 1 || z.length == 0) = false := by
    rw [Bool.or_eq_false_iff]
    exact ⟨by simp; omega, by simpa using h0⟩
  refine PySem.P.mul_str ?_ (fun _ _ => ?_) (fun _ _ => ?_) ?_
  · rw [Bool.or_eq_false_iff, decide_eq_false_iff_not, decide_eq_false_iff_not]
    constructor <;> omega
  · have h3 : (z.length : Int) ≤ 16777216 := by
      have : z.length * 1 ≤ z.length * n.toNat := Nat.mul_le_mul_left _ (by omega)
      omega
    have h4 : (16777216 : Int) ≤ (2 ^ 63 - 1) / n := by
      rw [Int.le_ediv_iff_mul_le (by omega)]
      omega
    omega
  · show decide (_ > sizeLine) = false
    rw [decide_eq_false_iff_not]; omega
  · rw [if_neg (by omega), if_neg (by rw [c1]; exact Bool.false_ne_true)]
    refine ⟨?_, .str (repS z n.toNat), H, I.tok _, ⟨_, rfl⟩, q⟩
    have hlen : ∀ (m : Nat) (acc : Array Nat), ((List.replicate m z.cps).foldl (· ++ ·) acc).size = acc.size + m * z.cps.size := by
      intro m
      induction m with
      | zero => intro acc; simp
      | succ m ih =>
        intro acc
        rw [List.replicate_succ, List.foldl_cons, ih, Array.size_append, Nat.succ_mul]
        omega
    show (repS z n.toNat).cps.size ≤ sizeLine
    unfold repS
    rw [hlen]
    have e : z.length = z.cps.size := rfl
    rw [Nat.mul_comm, ← e]
    simp only [List.size_toArray, List.length_nil, Nat.zero_add]
    exact hl
def rMuls : R2 := rOr (rI CMulW fun i j => .int (i * j)) rMulT
theorem op_muls {X : Cx} : OpR X (binaryOp .Mult) rMuls := opr_or op_mulW op_mulT
def mulsD : D → D → Option D
  | .int i, .int j => chk (okMul i j) (.int (i * j))
  | .str z, .int n => chk (decide (2 ≤ n) && decide (z.length ≠ 0) && decide (z.length * n.toNat ≤ sizeLine)) (.str (repS z n.toNat))
  | _, _ => none
theorem sn_muls {K : PySem.W.Frag} {cl : Cl} : OpSn K cl rMuls mulsD := by
  intro ad F H x y d e z Q sub hx hy hz q
  cases hx with
  | int i =>
    cases hy with
    | int j =>
      obtain ⟨c, rfl⟩ := chk_some hz
      exact .inl ⟨i, j, rfl, rfl, (of_decide_eq_true c : i.natAbs.log2 + j.natAbs.log2 < 1000000), q _ H F (New.refl sub) (.int _)⟩
    | _ => cases hz
  | str t =>
    cases hy with
    | int n =>
      obtain ⟨c, rfl⟩ := chk_some hz
      rw [Bool.and_eq_true, Bool.and_eq_true, decide_eq_true_eq, decide_eq_true_eq, decide_eq_true_eq] at c
      exact .inr ⟨t, n, rfl, rfl, c.1.1, c.1.2, c.2, q _ H F (New.refl sub) (.str _)⟩
    | _ => cases hz
  | _ => cases hz

/-! ### the deck's own def: a draw -/
structure Dp0 where
  a : Int
  b : Int
  c : Int
  d : Int
/-- what a draw gives, and the deck behind it -/
def drawV (p : Dp0) (many fig turn : Int) : Int :=
  let f1 := (fig % 2147483579 + p.b) * 48271 % 2147483647
  let f2 := (f1 * f1 + p.c * turn + p.d) % 2147483563
  f2 * 40692 % 2147483587 / 64 % many
def drawD (p : Dp0) (many : Int) (k : Dk) : Int × Dk :=
  let turn := k.turn + 1
  let fig := k.mixed + p.a * turn * turn
  match k.cells.getLast? with
  | some cell => if 10 ^ 18 ≤ cell then (cell % many, ⟨k.cells.dropLast ++ [cell / many], k.mixed, turn⟩) else (drawV p many (fig + cell) turn, ⟨k.cells.dropLast, k.mixed, turn⟩)
  | none => (drawV p many fig turn, ⟨k.cells, k.mixed, turn⟩)
def okDraw (many : Int) (k : Dk) : Bool := decide (0 < many) && decide (many ≤ 1000000000) && decide (0 ≤ k.turn) && decide (k.turn < 1000000000000) && decide (k.cells.length ≤ 1000)
def drawF (p : Dp0) : Fn := fun ds k => match ds, k with
  | [.deck, .int many], some k => if okDraw many k = true then .ok (.int (drawD p many k).1) (some (drawD p many k).2) else .no
  | _, _ => .no
theorem drawV_range {p : Dp0} {many fig turn : Int} (h : 0 < many) : 0 ≤ drawV p many fig turn ∧ drawV p many fig turn < many := by
  unfold drawV
  exact ⟨Int.emod_nonneg _ (by omega), Int.emod_lt_of_pos _ h⟩
theorem draw_range {p : Dp0} {many : Int} {k : Dk} (h : 0 < many) : 0 ≤ (drawD p many k).1 ∧ (drawD p many k).1 < many := by
  unfold drawD
  dsimp only
  split
  · split
    · exact ⟨Int.emod_nonneg _ (by omega), Int.emod_lt_of_pos _ h⟩
    · exact drawV_range h
  · exact drawV_range h
theorem draw_turn {p : Dp0} {many : Int} {k : Dk} : (drawD p many k).2.turn = k.turn + 1 := by
  unfold drawD
  dsimp only
  split
  · split <;> rfl
  · rfl
theorem draw_cells {p : Dp0} {many : Int} {k : Dk} : (drawD p many k).2.cells.length ≤ k.cells.length := by
  unfold drawD
  dsimp only
  split
  · rename_i cell e
    have : 0 < k.cells.length := by
      cases h : k.cells with
      | nil => rw [h] at e; cases e
      | cons _ _ => simp
    split
    · simp only [List.length_append, List.length_dropLast, List.length_singleton]; omega
    · simp only [List.length_dropLast]; omega
  · exact Nat.le_refl _
end G
namespace G
open PySem PySem.Spec PyProof.Rows L2

/-! ### the law's end -/
/-- what is asked of the law's def -/
def spL (K : PySem.W.Frag) (n : Nat) : Sp := fun vs H Q _ => ∃ (a : Addr) (ns : List Int), vs = [.ref a] ∧ ns.length ≤ n ∧ Only H ∧ SqL K H a (ns.map V.int) ∧ ∀ H', Q (.bl true) H'

/-- from an abstract heap that has the script alone -/
theorem end_core {P : Program} {w : World} {K : PySem.W.Frag} {mg mb : Str → Option Value} {k n : Nat} {fa a : Addr} {fd : FuncData} {x : Str} {s : Shared} {vs : List Value} {ns : List Int} {H : Hp}
    (KX : K.In s.heap) (hg : s.heap.Ns mainGlobals mg) (hb : s.heap.Ns builtinsNs mb) (hbb : ∀ x : Str, x ≠ "__name__" → mb x = bootBuiltins x) (hlim : s.heap.NoLimit) (hgens : s.gens = #[])
    (ha : s.heap.get? a = some { cls := .type "list", data := .seq vs.toArray }) (hl : ns.length ≤ n) (hr : Room k callerA)
    (F : ∀ base : Heap, K.In base → base.Ns mainGlobals mg → FnG P w K mg base k fa fd [x] (spL K n)) (hbind : ∀ (s : Shared) (u : Value), BindsTo s fd ⟨[u], []⟩ [(x, u)])
    (hO : Only H) (hS : SqL K H a (ns.map V.int)) (hok : HOk P w H s.heap) (alone : ∀ b o, H b = some o → b = a) (notK : ∀ o, H a = some o → K.lookup a = none) :
    codeAny (model P w) callerA (.call (.ref fa) ⟨[.ref a], []⟩) (fun r s' => r = .ok (.ret (.bool true)) ∧ OldK s.heap s'.heap ∧ s'.os = s.os ∧ AllBare s'.gens) s := by
  have free : ∀ b o, s.heap.get? b = some o → (∀ vs n, o.data ≠ .seq vs n) → H b = none := fun b o e nd => by
    cases q : H b with
    | none => rfl
    | some u =>
      have := alone b u q
      subst this
      rw [ha] at e
      cases e
      exact absurd rfl (nd _ _)
  have up : ∀ b o, s.heap.get? b = some o → H b = none → (hidT s.heap H).get? b = some o := fun b o e z => hidT_get e z
  have nsUp : ∀ b m, s.heap.Ns b m → (hidT s.heap H).Ns b m := fun b m h => by
    obtain ⟨o, es, ep, e, d, r⟩ := h
    exact ⟨o, es, ep, up b o e (free b o e fun vs n z => by rw [d] at z; cases z), d, r⟩
  have kUp : K.In (hidT s.heap H) := fun b o e => up b o (KX b o e) (by
    cases q : H b with
    | none => rfl
    | some u =>
      have := alone b u q
      subst this
      rw [notK u q] at e; cases e)
  have mod : Mod K mg (hidT s.heap H) := ⟨kUp, nsUp _ _ hg, ⟨mb, nsUp _ _ hb, hbb⟩, by
    obtain ⟨mc, h1, h2⟩ := hlim
    exact ⟨mc, nsUp _ _ h1, h2⟩⟩
  have e0 : Env0 P w K mg (hidT s.heap H) callerA [] s H := {
    frames := rfl
    mod := mod
    bs := fun b o e => of_hidT e
    bsz := Nat.le_of_eq (hidT_size _ _)
    funs := trivial
    frf := fun b h => absurd h List.not_mem_nil
    hok := hok
    bare := .of_eq hgens }
  have run := (F _ kUp (nsUp _ _ hg)).run callerA [] s H ⟨[.ref a], []⟩ [.ref a] [.ref a] (fun v _ => v = .bl true) (fun _ _ _ => False) rfl hr e0 (hbind s (.ref a)) (.cons rfl .nil) ⟨a, ns, rfl, hl, hO, hS, fun _ => rfl⟩
  refine codeAny_mono run ?_
  rintro (e | fl) s' h
  · obtain ⟨_, _, _, _, _, _, _, _, _, _, _, _, z⟩ := h
    exact z.elim
  · cases fl with
    | ret u =>
      obtain ⟨v, H', os, bare, un, hok', rv, q⟩ := h
      cases q
      obtain rfl : u = Value.bool true := rv
      refine ⟨rfl, OldK.of_keep fun b o e => ?_, os, bare⟩
      cases q : H b with
      | none => exact un.keep b o e q List.not_mem_nil List.not_mem_nil
      | some u =>
        rcases hO b with z | ⟨ob, xs, z⟩
        · rw [z] at q; cases q
        · have e1 := (hok b _ z).1
          have e2 := (hok' b _ (un.frzs b ob _ z)).1
          rw [e1] at e
          cases e
          exact e2
    | _ => exact False.elim h
theorem walk_ofG {l : PySem.W.OpenLaw} {n k : Nat} {q : Program} {loose : List Str} {XP : (Str → Option Value) → Heap → Prop} {YP : World → Heap → Prop} {d : DefRec} {x : Str}
    (hn : l.most = some n) (hn2 : n ≤ sizeLine) (hdf : d.params.defaults = []) (hr : Room k callerA)
    (F : ∀ (w : World) (mg : Str → Option Value) (fa : Addr) (h : Heap), YP w h → h.Ns mainGlobals mg → mg d.name = some (.ref fa) →
      ∃ (K : PySem.W.Frag) (fd : FuncData), K.In h ∧ (∀ (s : Shared) (u : Value), BindsTo s fd ⟨[u], []⟩ [(x, u)]) ∧ ∀ base : Heap, K.In base → base.Ns mainGlobals mg → FnG l.prog w K mg base k fa fd [x] (spL K n)) :
    PySem.W.WalkO q loose XP YP l.row.toRowW d [] (fun f vs => PySem.call f vs) := by
  refine Att.attach_call hn hdf ?_
  intro w s₀ s₁ mg mb fa o pm cd doc a vs ns Gr Y ho hd hcd hmg hobj hints hlen hg
  obtain ⟨K, fd, KX, hb, hF⟩ := F w mg fa _ Y Gr.T.g hmg
  have rv := vals_ints hints
  have len := hints.length
  have hl : ns.length ≤ sizeLine := Nat.le_trans hlen hn2
  cases hk : K.lookup a with
  | some ob =>
    have e := KX a ob hk
    rw [hobj] at e
    cases e
    refine end_core (H := fun _ => none) KX Gr.T.g Gr.T.b Gr.T.builtins Gr.T.nolimit hg hobj hlen hr hF hb (fun _ => .inl rfl) (.inr ⟨_, vs.toArray, _, hk, rfl, rfl, rfl, ?_, ?_⟩) (fun b u z => nomatch z) (fun b u z => nomatch z) (fun u z => nomatch z)
    · rw [List.size_toArray, len]; exact hl
    · simpa using rv
  | none =>
    have at_a : upd (fun _ => none) a (.frz { cls := .type "list", data := .seq vs.toArray } (.lst (ns.map V.int))) a = some (.frz { cls := .type "list", data := .seq vs.toArray } (.lst (ns.map V.int))) := upd_same
    have off : ∀ b u, upd (fun _ => none) a (.frz { cls := .type "list", data := .seq vs.toArray } (.lst (ns.map V.int))) b = some u → b = a := fun b u z => by
      by_cases e : b = a
      · exact e
      · rw [upd_ne e] at z; cases z
    refine end_core KX Gr.T.g Gr.T.b Gr.T.builtins Gr.T.nolimit hg hobj hlen hr hF hb (fun b => ?_) (.inl (.inr ⟨_, at_a⟩)) (fun b u z => ?_) off fun _ _ => hk
    · by_cases e : b = a
      · subst e; exact .inr ⟨_, _, at_a⟩
      · exact .inl (upd_ne e)
    · have e := off b u z
      subst e
      rw [at_a] at z
      cases z
      exact ⟨hobj, by rw [List.length_map]; exact hl, vs, _, rv, hobj⟩

/-! ### the law's def: its first row makes the deck -/
def deckD (cs : List Int) (m t : Int) : D := .dct [(Sum.inr (Str.ofString "cells"), .lst (cs.map D.int)), (Sum.inr (Str.ofString "mixed"), .int m), (Sum.inr (Str.ofString "turn"), .int t)]
section
variable {P : Program} {w : World} {K : PySem.W.Frag} {mg : Str → Option Value} {base : Heap}
theorem fn_law {x qual x2 : Str} {params : Arguments} {body : List Stmt} {scope : Scope} {kws : List (Str × V)} {f : Addr} {fd : FuncData} {rest : List Str} {j n : Nat} {st : Stmt} {stmts : List Stmt} {ta : ME D} {db : MS}
    (F : FunD K x qual params body scope [] kws f fd) (S : FnScope (x2 :: rest) [x2] scope) (hb : body = st :: stmts)
    (h1 : ∀ (cdv : Value) (A : Around) (outer : List Env) (s : Shared) (H : Hp) (E : XK), A.guards = some [] → Room j (A.deeper (envOfC qual scope s.heap.objs.size f cdv)) →
      ∃ r, US (cxOf (L2.CX P w) P w K mg base (x2 :: rest) qual scope f cdv A outer s H E) (WEx E) (tAsg r (gName 1)) (sAsg ta (mName 1)) st ∧ Sn K (clOf mg) (WEx E) (RD K (clOf mg)) r ta)
    (h2 : ∀ (cdv : Value) (A : Around) (outer : List Env) (s : Shared) (H : Hp) (E : XK), A.guards = some [] → Room j (A.deeper (envOfC qual scope s.heap.objs.size f cdv)) →
      ∃ r, USs (cxOf (L2.CX P w) P w K mg base (x2 :: rest) qual scope f cdv A outer s H E) (WEx E) r db stmts)
    (hlen : 1 ≤ rest.length)
    (law : ∀ ns : List Int, ns.length ≤ n → ∃ cs m t, ta (.val (.scr ns) :: List.replicate rest.length .emp) none = .ok (deckD cs m t) none ∧ ∃ k', db (.val (.scr ns) :: .val .deck :: List.replicate (rest.length - 1) .emp) (some ⟨cs, m, t⟩) = .ret (.bl true) k') :
    FnG P w K mg base (j + 1) f fd [x2] (spL K n) := by
  refine fn_ofG F S (fun vs H Q E h => ?_) (fun cdv A outer s H vs Q E gd hr h => ?_)
  · obtain ⟨a, ns, rfl, _⟩ := h
    rfl
  · obtain ⟨a, ns, rfl, hl, hO, hS, q⟩ := h
    obtain ⟨ra, u1, sa⟩ := h1 cdv A outer s H E gd hr
    obtain ⟨rb, u2⟩ := h2 cdv A outer s H E gd hr
    obtain ⟨cs, m, t, e1, k', e2⟩ := law ns hl
    subst hb
    refine ⟨_, pss_cons u1.ps u2.ps, ?_⟩
    have hst : L2.start (x2 :: rest) [V.ref a] = some (V.ref a) :: List.replicate rest.length none := by
      unfold L2.start
      simp
    rw [hst]
    have r0 : Rel K (clOf mg) (0, 0) (some (V.ref a) :: List.replicate rest.length none) H H (.val (.scr ns) :: List.replicate rest.length .emp) none := by
      refine ⟨Same.refl _, by simp, fun i d h => ?_, fun i xs h => ?_, fun i i' xs ys b h => ?_, fun d h => nomatch h⟩
      · cases i with
        | zero => cases h; exact ⟨.ref a, rfl, .scr hS⟩
        | succ i =>
          have := List.eq_of_mem_replicate (List.mem_of_getElem? (show (List.replicate rest.length Sl.emp)[i]? = some (.val d) from h))
          cases this
      · cases i with
        | zero => cases h
        | succ i =>
          have := List.eq_of_mem_replicate (List.mem_of_getElem? (show (List.replicate rest.length Sl.emp)[i]? = some (.own xs) from h))
          cases this
      · cases i with
        | zero => cases h
        | succ i =>
          have := List.eq_of_mem_replicate (List.mem_of_getElem? (show (List.replicate rest.length Sl.emp)[i]? = some (.own xs) from h))
          cases this
    refine sa (0, 0) _ H H _ none _ r0 ?_
    rw [e1]
    intro v H' F' r1 x1 d1
    obtain ⟨n', hn'⟩ : ∃ n', rest.length = n' + 1 := ⟨rest.length - 1, by omega⟩
    rw [hn'] at e2 ⊢
    rw [Nat.add_sub_cancel] at e2
    show rb _ ((some (V.ref a) :: List.replicate (n' + 1) none).set 1 (some v)) H'
    have hset : (some (V.ref a) :: List.replicate (n' + 1) none).set 1 (some v) = some (V.ref a) :: some v :: List.replicate n' none := rfl
    rw [hset]
    -- the deck
    cases d1 with
    | @dct p kvs ds hp hk =>
    cases hk with
    | cons hc hk2 =>
    cases hk2 with
    | cons hm hk3 =>
    cases hk3 with
    | cons ht hk4 =>
    cases hk4
    cases hm
    cases ht
    cases hc with
    | @lst c xs ds hcl hca =>
    have exs : ∀ (cs : List Int) (xs : List V), DenA K (clOf mg) (0, 0) F' xs (cs.map D.int) → xs = cs.map V.int := by
      intro cs
      induction cs with
      | nil => intro xs h; cases h; rfl
      | cons z cs ih =>
        intro xs h
        cases h with
        | cons h1 h2 => cases h1; rw [ih _ h2]; rfl
    have exs := exs cs xs hca
    subst exs
    have npc : p ≠ c := fun z => by
      rw [z, hcl] at hp; cases hp
    obtain ⟨F2, g1, g2, g3, g4⟩ : ∃ F2 : Hp, SqL K F2 a (ns.map V.int) ∧ F2 p = none ∧ F2 c = none ∧ Same F2 H' := by
      rcases hS with hS | hS
      · obtain ⟨o, w⟩ : ∃ o : HO, H a = some o := by
          rcases hS with w | ⟨o, w⟩
          · exact ⟨_, w⟩
          · exact ⟨_, w⟩
        obtain ⟨ob, ys, w'⟩ : ∃ ob ys, H a = some (.frz ob (.lst ys)) := by
          rcases hO a with z | z
          · rw [z] at w; cases w
          · exact z
        have wF := x1.sub a _ w'
        have npa : p ≠ a := fun z => by rw [z, wF] at hp; cases hp
        have nca : c ≠ a := fun z => by rw [z, wF] at hcl; cases hcl
        refine ⟨fun b => if b = a then F' a else none, .inl ?_, if_neg npa, if_neg nca, fun b o e => ?_⟩
        · rcases hS with z | ⟨o, z⟩
          · exact .inl ((if_pos rfl).trans (x1.sub a _ z))
          · exact .inr ⟨o, (if_pos rfl).trans (x1.sub a _ z)⟩
        · by_cases h : b = a
          · dsimp only at e
            rw [if_pos h] at e; rw [h]; exact r1.sub a o e
          · dsimp only at e
            rw [if_neg h] at e; cases e
      · exact ⟨fun _ => none, .inr hS, rfl, rfl, fun b o e => nomatch e⟩
    refine u2.sn (p, c) H' F2 (some ⟨cs, m, t⟩) (some (V.ref a) :: some (V.ref p) :: List.replicate n' none) H' F2 (.val (.scr ns) :: .val .deck :: List.replicate n' .emp) (some ⟨cs, m, t⟩) _ ?_ ?_
    · refine ⟨⟨g4, by simp, fun i d h => ?_, fun i xs h => ?_, fun i i' xs ys b h => ?_, fun d h => ?_⟩, Ext.refl, fun i xs b h => ?_⟩
      · match i, h with
        | 0, h => cases h; exact ⟨.ref a, rfl, .scr g1⟩
        | 1, h => cases h; exact ⟨.ref p, rfl, .deck⟩
        | i + 2, h =>
          have := List.eq_of_mem_replicate (List.mem_of_getElem? (show (List.replicate n' Sl.emp)[i]? = some (.val d) from h))
          cases this
      · match i, h with
        | 0, h => cases h
        | 1, h => cases h
        | i + 2, h =>
          have := List.eq_of_mem_replicate (List.mem_of_getElem? (show (List.replicate n' Sl.emp)[i]? = some (.own xs) from h))
          cases this
      · match i, h with
        | 0, h => cases h
        | 1, h => cases h
        | i + 2, h =>
          have := List.eq_of_mem_replicate (List.mem_of_getElem? (show (List.replicate n' Sl.emp)[i]? = some (.own xs) from h))
          cases this
      · cases h
        exact ⟨g2, g3, npc, r1.sub _ _ hp, r1.sub _ _ hcl⟩
      · match i, h with
        | 0, h => cases h
        | 1, h => cases h
        | i + 2, h =>
          have := List.eq_of_mem_replicate (List.mem_of_getElem? (show (List.replicate n' Sl.emp)[i]? = some (.own xs) from h))
          cases this
    · rw [e2]
      intro v σ' H'' F'' s' r'' x'' d''
      cases d''
      exact q _
end
end G
namespace G
open PySem PySem.Spec PyProof.Rows L2
section
variable {X : Cx} {W : WX} {a b c : Expr} {ra rb rc : TE} {ta tb tc : ME D} {pos : Pos}
def negD : D → Option D
  | .int i => some (.int (-i))
  | _ => none
theorem u_neg' (ha : UE X W ra ta a) : UE X W (tUn (rU fun i => .int (-i)) ra) (dUn negD ta) (.UnaryOp .USub a pos) := u_neg ha
theorem ut_chain {op op' : CmpOp} {r r' : R2} {f g : D → D → Option D} (ho : OpR X (compareOp op) r) (ho' : OpR X (compareOp op') r') (hf : OpSn X.K (clOf X.mg) r f) (hg : OpSn X.K (clOf X.mg) r' g) (ha : UE X W ra ta a) (hb : UE X W rb tb b) (hc : UE X W rc tc c)
    (hm : lastMarks [op, op'] [b, c] = false := by with_unfolding_all rfl) : UT X W (tTest (tChain r r' ra rb rc)) (dB (dChain f g ta tb tc)) (.Compare a [op, op'] [b, c] pos) :=
  ⟨pt_chain ho ho' ha.pe hb.pe hc.pe hm, sn_test (sn_chain hf hg ha.sn hb.sn hc.sn)⟩
theorem hu65 {j : Nat} {A : Around} (hr : Room j A) : A.units + 65 < cLine := by
  have := hr.un
  omega
end
/-- the arguments in the parameters' order -/
def perm (is : List Nat) (ds es : List D) : List D := is.map fun i => (ds ++ es).getD i .non
def permV (is : List Nat) (ds es : List V) : List V := is.map fun i => (ds ++ es).getD i .non
def permU (is : List Nat) (ds es : List Value) : List Value := is.map fun i => (ds ++ es).getD i .none
theorem DenA.app {K : PySem.W.Frag} {cl : Cl} {ad : Ad} {F : Hp} : ∀ {vs zs : List V} {ds es : List D}, DenA K cl ad F vs ds → DenA K cl ad F zs es → DenA K cl ad F (vs ++ zs) (ds ++ es)
  | _, _, _, _, .nil, h => h
  | _, _, _, _, .cons h1 h2, h => .cons h1 (h2.app h)
theorem DenA.getD {K : PySem.W.Frag} {cl : Cl} {ad : Ad} {F : Hp} : ∀ {vs : List V} {ds : List D} (i : Nat), DenA K cl ad F vs ds → Den K cl ad F (vs.getD i .non) (ds.getD i .non)
  | _, _, _, .nil => by simp only [List.getD_nil]; exact .non
  | _, _, 0, .cons h1 h2 => h1
  | _, _, i + 1, .cons h1 h2 => by simp only [List.getD_cons_succ]; exact h2.getD i
theorem vals_getD : ∀ {vs : List V} {us : List Value} (i : Nat), Vals vs us → RelV (vs.getD i .non) (us.getD i .none)
  | _, _, _, .nil => by simp only [List.getD_nil]; rfl
  | _, _, 0, .cons h1 h2 => h1
  | _, _, i + 1, .cons h1 h2 => by simp only [List.getD_cons_succ]; exact vals_getD i h2
theorem per_of (is : List Nat) : Per (permV is) (perm is) where
  den := fun h1 h2 => by
    unfold permV perm
    induction is with
    | nil => exact .nil
    | cons i is ih => exact .cons ((h1.app h2).getD i) ih
theorem kb_of {K : PySem.W.Frag} {x qual : Str} {params : Arguments} {body : List Stmt} {scope : Scope} {kws : List (Str × V)} {f : Addr} {fd : FuncData} {ps : List Str} {n : Nat} {ks : List Str} (is : List Nat) (F : FunD K x qual params body scope [] kws f fd)
    (h : ∀ (kV doc pm : Value) (an : Option Addr) (cdv ct : Value) (us ws : List Value), us.length = n → ws.length = ks.length → bindArgs (PySem.W.fnOf x qual params body scope .none kV doc pm an cdv ct) ⟨us, ks.zip ws⟩ = pure (ps.zip (permU is us ws))) : KBn K fd ps n ks (permU is) (permV is) := by
  obtain ⟨oc, od, dV, kV, doc, pm, an, cdv, ct, osl, rfl, lk, hcd, hD, hK⟩ := F.ex
  rcases hD with ⟨_, rfl⟩ | ⟨e, _⟩
  · refine ⟨fun s us ws _ l1 l2 => .of_eq (h kV doc pm an cdv ct us ws l1 l2), fun r1 r2 => ?_⟩
    unfold permV permU
    clear h
    induction is with
    | nil => exact .nil
    | cons i is ih => exact .cons (vals_getD i (r1.append r2)) ih
  · exact absurd rfl e
/-- a block's resources, told without the block -/
theorem castE {X : Cx} {W : WX} {r r' : TE} {t : ME D} {e : Expr} (h : UE X W r t e) (hr : r = r' := by first | (dsimp only [bk, Cx.blk, cxOf]; done) | rfl) : UE X W r' t e := hr ▸ h
theorem castTs {X : Cx} {W : WX} {r r' : TT} {t : ME Bool} {e : List Expr} (h : UTs X W r t e) (hr : r = r' := by first | (dsimp only [bk, Cx.blk, cxOf]; done) | rfl) : UTs X W r' t e := hr ▸ h
theorem castI {X : Cx} {W : WX} {tg e : Expr} {r r' : TI} {t : ME (List D)} (h : UI X W tg r t e) (hr : r = r' := by first | (dsimp only [bk, Cx.blk, cxOf]; done) | rfl) : UI X W tg r' t e := hr ▸ h
/-- a def that is called -/
structure Ce (P : Program) (w : World) (K : PySem.W.Frag) (mg : Str → Option Value) (base : Heap) (j : Nat) (x : Str) (ps : List Str) (fn : Fn) (f : Addr) (fd : FuncData) : Prop where
  ok : FnG P w K mg base j f fd ps (spD K (clOf mg) fn)
  g : mg x = some (.ref f)
  k : PySem.W.keepIn K (.ref f) = true
  b : Binds K fd ps []
end G
namespace G
open PySem PySem.Spec PyProof.Rows L2

/-! ### plain: the deck -/
/-- a deck that b more draws do not wear out -/
def OkB (b : Nat) (k : Option Dk) : Prop := ∃ kk : Dk, k = some kk ∧ 0 ≤ kk.turn ∧ kk.turn + (b : Int) ≤ 100000000000 ∧ kk.cells.length ≤ 63
theorem OkB.mono {b c : Nat} {k : Option Dk} (h : OkB b k) (l : c ≤ b) : OkB c k := by
  obtain ⟨kk, h1, h2, h3, h4⟩ := h
  exact ⟨kk, h1, h2, by omega, h4⟩
theorem draw_ok {p : Dp0} {many : Int} {b : Nat} {k : Option Dk} (h : OkB (b + 1) k) (h1 : 0 < many) (h2 : many ≤ 1000000000) : ∃ r k', drawF p [.deck, .int many] k = .ok (.int r) k' ∧ 0 ≤ r ∧ r < many ∧ OkB b k' := by
  obtain ⟨kk, rfl, t1, t2, t3⟩ := h
  have ok : okDraw many kk = true := by
    unfold okDraw
    simp only [Bool.and_eq_true, decide_eq_true_eq]
    exact ⟨⟨⟨⟨h1, h2⟩, t1⟩, by omega⟩, by omega⟩
  refine ⟨(drawD p many kk).1, some (drawD p many kk).2, ?_, (draw_range h1).1, (draw_range h1).2, (drawD p many kk).2, rfl, ?_, ?_, ?_⟩
  · show (if okDraw many kk = true then _ else _) = _
    rw [if_pos ok]
  · rw [draw_turn]; omega
  · rw [draw_turn]; omega
  · exact Nat.le_trans draw_cells t3

/-! ### plain: comprehensions -/
theorem lcL_pure {g : MG} {tt : ME Bool} {te : ME D} {s0 : List Sl} {s1 : D → List Sl} {t : D → Bool} {e : D → D} {k : Option Dk} : ∀ {ds : List D} {n : Nat}, n + ds.length ≤ sizeLine → (∀ d ∈ ds, g d s0 = some (s1 d)) → (∀ d ∈ ds, tt (s1 d) k = .ok (t d) k) → (∀ d ∈ ds, t d = true → te (s1 d) k = .ok (e d) k) →
    lcL g tt te s0 n ds k = .ok ((ds.filter t).map e) k
  | [], _, _, _, _, _ => rfl
  | d :: ds, n, hn, hg, ht, he => by
    rw [List.length_cons] at hn
    unfold lcL
    rw [hg d (List.mem_cons_self ..)]
    dsimp only
    rw [ht d (List.mem_cons_self ..)]
    cases q : t d with
    | true =>
      dsimp only
      rw [he d (List.mem_cons_self ..) q]
      dsimp only
      rw [if_pos (by omega), lcL_pure (ds := ds) (n := n + 1) (by omega) (fun d h => hg d (List.mem_cons_of_mem _ h)) (fun d h => ht d (List.mem_cons_of_mem _ h)) (fun d h => he d (List.mem_cons_of_mem _ h))]
      dsimp only
      rw [List.filter_cons_of_pos q, List.map_cons]
    | false =>
      dsimp only
      rw [lcL_pure (ds := ds) (n := n) (by omega) (fun d h => hg d (List.mem_cons_of_mem _ h)) (fun d h => ht d (List.mem_cons_of_mem _ h)) (fun d h => he d (List.mem_cons_of_mem _ h))]
      rw [List.filter_cons_of_neg (by rw [q]; exact Bool.false_ne_true)]
/-- some of the items, each told with what P says -/
inductive Pk (P : D → D → Prop) : List D → List D → Prop
  | nil : Pk P [] []
  | skip {d : D} {ds ys : List D} : Pk P ds ys → Pk P (d :: ds) ys
  | take {d y : D} {ds ys : List D} : P d y → Pk P ds ys → Pk P (d :: ds) (y :: ys)
theorem Pk.len {P : D → D → Prop} {ds ys : List D} (h : Pk P ds ys) : ys.length ≤ ds.length := by
  induction h with
  | nil => exact Nat.le_refl _
  | skip _ ih => exact Nat.le_succ_of_le ih
  | take _ _ ih => exact Nat.succ_le_succ ih
theorem Pk.all {P : D → D → Prop} {Q : D → Prop} (hq : ∀ d y, P d y → Q y) {ds ys : List D} (h : Pk P ds ys) : ∀ y ∈ ys, Q y := by
  induction h with
  | nil => exact fun _ h => nomatch h
  | skip _ ih => exact ih
  | take p _ ih =>
    intro y hy
    rcases List.mem_cons.mp hy with rfl | hy
    · exact hq _ _ p
    · exact ih y hy
theorem Pk.sub {ds ys : List D} (h : Pk (fun d y => y = d) ds ys) : ys.Sublist ds := by
  induction h with
  | nil => exact .slnil
  | skip _ ih => exact .cons _ ih
  | take p _ ih => subst p; exact .cons₂ _ ih
theorem lcL_draw {g : MG} {tt : ME Bool} {te : ME D} {s0 : List Sl} {P : D → D → Prop} {c : Nat} : ∀ {ds : List D} {n b : Nat} {k : Option Dk}, n + ds.length ≤ sizeLine →
    (∀ d ∈ ds, ∀ b k, OkB (b + c) k → ∃ s1, g d s0 = some s1 ∧ ((∃ k1, tt s1 k = .ok false k1 ∧ OkB b k1) ∨ ∃ k1 y k2, tt s1 k = .ok true k1 ∧ te s1 k1 = .ok y k2 ∧ P d y ∧ OkB b k2)) → OkB (b + c * ds.length) k →
    ∃ ys k', lcL g tt te s0 n ds k = .ok ys k' ∧ Pk P ds ys ∧ OkB b k'
  | [], n, b, k, _, _, ok => ⟨[], k, rfl, .nil, ok.mono (Nat.le_add_right _ _)⟩
  | d :: ds, n, b, k, hn, hs, ok => by
    rw [List.length_cons] at hn ok
    have ok' : OkB (b + c * ds.length + c) k := ok.mono (by rw [Nat.mul_succ]; omega)
    obtain ⟨s1, hg, h | h⟩ := hs d (List.mem_cons_self ..) _ k ok'
    · obtain ⟨k1, h1, h2⟩ := h
      obtain ⟨ys, k', e1, e2, e3⟩ := lcL_draw (ds := ds) (n := n) (b := b) (k := k1) (by omega) (fun d h => hs d (List.mem_cons_of_mem _ h)) h2
      refine ⟨ys, k', ?_, .skip e2, e3⟩
      unfold lcL
      rw [hg]
      dsimp only
      rw [h1]
      exact e1
    · obtain ⟨k1, y, k2, h1, h2, h3, h4⟩ := h
      obtain ⟨ys, k', e1, e2, e3⟩ := lcL_draw (ds := ds) (n := n + 1) (b := b) (k := k2) (by omega) (fun d h => hs d (List.mem_cons_of_mem _ h)) h4
      refine ⟨y :: ys, k', ?_, .take h3 e2, e3⟩
      unfold lcL
      rw [hg]
      dsimp only
      rw [h1]
      dsimp only
      rw [h2]
      dsimp only
      rw [if_pos (by omega), e1]
/-- a loop whose body goes on -/
theorem loopS_inv {g : MG} {body : MS} {I : List Sl → Prop} {c : Nat} : ∀ {ds : List D} {b : Nat} {s : List Sl} {k : Option Dk},
    (∀ d ∈ ds, ∀ b s k, I s → OkB (b + c) k → ∃ s1, g d s = some s1 ∧ ∃ s' k', body s1 k = .nx s' k' ∧ I s' ∧ OkB b k') → I s → OkB (b + c * ds.length) k →
    ∃ s' k', loopS g body ds s k = .nx s' k' ∧ I s' ∧ OkB b k'
  | [], b, s, k, _, hi, ok => ⟨s, k, rfl, hi, ok.mono (Nat.le_add_right _ _)⟩
  | d :: ds, b, s, k, hs, hi, ok => by
    rw [List.length_cons] at ok
    have ok' : OkB (b + c * ds.length + c) k := ok.mono (by rw [Nat.mul_succ]; omega)
    obtain ⟨s1, hg, s', k', h1, h2, h3⟩ := hs d (List.mem_cons_self ..) _ s k hi ok'
    obtain ⟨s2, k2, e1, e2, e3⟩ := loopS_inv (ds := ds) (b := b) (fun d h => hs d (List.mem_cons_of_mem _ h)) h2 h3
    refine ⟨s2, k2, ?_, e2, e3⟩
    unfold loopS
    rw [hg]
    dsimp only
    rw [h1]
    exact e1

/-! ### plain: repr -/
mutual
theorem noD_of : ∀ d : PyData, d.canLay0 = true → d.hasDict = false := PyData.hasDict_of_canLay
end
theorem reprD_of {d : D} {p : PyData} (e : toPy d = some p) (h1 : p.showable = true) (h2 : p.layable0 = true) (h3 : p.intsShort 13 = true) (h4 : p.depth ≤ 60) : reprD d = some (.str p.shown) := by
  have hl := shown_le13 h2 h3
  have c : p.canLay0 = true := by
    have h1 : (PyData.canLay0 p && decide (PyData.depth p ≤ 64) && decide (PyData.weight p ≤ 2 ^ 20)) = true := h2
    simp only [Bool.and_eq_true] at h1
    exact h1.1.1
  unfold reprD
  rw [e]
  refine chk_pos ?_
  unfold reprP
  rw [h1, noD_of p c]
  simp only [Bool.not_false, Bool.true_or, Bool.and_true, Bool.true_and, Bool.and_eq_true, decide_eq_true_eq]
  exact ⟨Nat.le_trans hl (by decide), h4⟩
theorem eqD_same_str {z : Str} {neg : Bool} : eqD neg (.str z) (.str z) = some (.bl (!neg)) := by
  unfold eqD
  simp
end G
namespace G
open PySem PySem.Spec PyProof.Rows L2
theorem atI_of {α : Type} {xs : List α} {r : Int} (h0 : 0 ≤ r) (h1 : r < xs.length) : ∃ x ∈ xs, atI xs r = some x := by
  obtain ⟨j, rfl⟩ := Int.eq_ofNat_of_zero_le h0
  have hj : j < xs.length := by omega
  exact ⟨xs[j], List.getElem_mem hj, atI_nat (List.getElem?_eq_getElem hj)⟩
theorem glued_flat : ∀ (l : List Str) (acc : Array Nat), (l.foldl (fun acc p => acc ++ (Str.ofString "").cps ++ p.cps) acc).toList = acc.toList ++ (l.map fun p => p.cps.toList).flatten
  | [], acc => by simp
  | p :: l, acc => by
    have e : (Str.ofString "").cps = #[] := by decide +kernel
    rw [List.foldl_cons, glued_flat l]
    rw [e]
    simp
theorem join_flat (l : List Str) : (Txt.join (Str.ofString "") l).cps.toList = (l.map fun p => p.cps.toList).flatten := by
  unfold Txt.join
  unfold PySem.Builtin.Str.glued
  cases l with
  | nil => rfl
  | cons p l =>
    show (List.foldl _ p.cps l).toList = _
    rw [glued_flat]
    simp
theorem strsOf_map : ∀ l : List Str, strsOf (l.map D.str) = some l
  | [] => rfl
  | x :: l => by
    show (strsOf (l.map D.str)).map (x :: ·) = _
    rw [strsOf_map l]; rfl
/-- what is joined: the signs one by one -/
theorem join_sgn {l : List Nat} (h : l.length ≤ 16777216) : joinD (.str "") [.lst (l.map fun c => D.str (sgn c))] = some (.str ⟨l.toArray⟩) := by
  have e : (l.map fun c => D.str (sgn c)) = (l.map sgn).map D.str := by rw [List.map_map]; rfl
  show joinOf _ _ = _
  unfold joinOf
  rw [e, strsOf_map]
  have q : ∀ l : List Nat, ((l.map sgn).map fun p => p.cps.toList).flatten = l := fun l => by
    induction l with
    | nil => rfl
    | cons c l ih => rw [List.map_cons, List.map_cons, List.flatten_cons, ih]; rfl
  have q2 : Txt.join (Str.ofString "") (l.map sgn) = ⟨l.toArray⟩ := by
    have := join_flat (l.map sgn)
    rw [q] at this
    cases hz : Txt.join (Str.ofString "") (l.map sgn) with
    | mk a =>
      rw [hz] at this
      dsimp only at this
      rw [← this]
  dsimp only
  rw [q2]
  refine chk_pos ?_
  rw [decide_eq_true_eq]
  have q3 : ∀ l : List Nat, ((l.map sgn).map (·.length)).sum = l.length := fun l => by
    induction l with
    | nil => rfl
    | cons c l ih => rw [List.map_cons, List.map_cons, List.sum_cons, ih, List.length_cons]; show 1 + _ = _; omega
  rw [q3, List.length_map]
  have e0 : (Str.ofString "").length = 0 := by decide +kernel
  rw [e0, Nat.mul_zero]
  omega
theorem bools_map {α : Type} (f : α → Bool) : ∀ l : List α, bools (l.map fun a => D.bl (f a)) = some (l.map f)
  | [] => rfl
  | a :: l => by
    show (bools _).map (f a :: ·) = _
    rw [bools_map f l]; rfl
/-- strings of signs below 128 -/
def Low (z : Str) : Prop := ∀ c ∈ z.cps.toList, c < 128
theorem Low.ok {z : Str} (h : Low z) : PyData.strOk z = true := by
  unfold PyData.strOk
  rw [Array.all_eq_true_iff_forall_mem]
  intro c hc
  have := h c (Array.mem_toList_iff.mpr hc)
  simp; omega
theorem low_app {a b : Str} (h1 : Low a) (h2 : Low b) : Low (a ++ b) := by
  intro c hc
  have e : (a ++ b).cps.toList = a.cps.toList ++ b.cps.toList := by
    show (a.cps ++ b.cps).toList = _
    simp
  rw [e] at hc
  rcases List.mem_append.mp hc with h | h
  · exact h1 c h
  · exact h2 c h
theorem toPys_signs : ∀ l : List Nat, toPys (l.map fun c => D.str (sgn c)) = some (l.map fun c => PyData.str (sgn c))
  | [] => rfl
  | c :: l => by
    show (match toPy (D.str (sgn c)), toPys (l.map fun c => D.str (sgn c)) with
      | some p, some ps => some (p :: ps)
      | _, _ => none) = _
    rw [toPys_signs l]; rfl
theorem lay_signs : ∀ l : List Nat, (∀ c ∈ l, c < 128) → PyData.canLayAll0 (l.map fun c => PyData.str (sgn c)) = true ∧ PyData.depthAll (l.map fun c => PyData.str (sgn c)) = 0 ∧ PyData.weightAll (l.map fun c => PyData.str (sgn c)) = 2 * l.length ∧ PyData.showableAll (l.map fun c => PyData.str (sgn c)) = true ∧ PyData.intsShortAll 13 (l.map fun c => PyData.str (sgn c)) = true
  | [], _ => ⟨rfl, rfl, rfl, rfl, rfl⟩
  | c :: l, h => by
    obtain ⟨h1, h2, h3, h4, h5⟩ := lay_signs l fun d hd => h d (List.mem_cons_of_mem _ hd)
    have hc := h c (List.mem_cons_self ..)
    refine ⟨?_, ?_, ?_, ?_, ?_⟩
    · show (PyData.canLay0 (.str (sgn c)) && PyData.canLayAll0 (l.map fun c => PyData.str (sgn c))) = true
      rw [h1, Bool.and_true]
      exact Low.ok (z := sgn c) (fun d hd => by
        have : d = c := by simpa [sgn] using hd
        omega)
    · show max (PyData.depth (.str (sgn c))) (PyData.depthAll (l.map fun c => PyData.str (sgn c))) = 0
      rw [h2]; rfl
    · show PyData.weight (.str (sgn c)) + 1 + PyData.weightAll (l.map fun c => PyData.str (sgn c)) = _
      rw [h3, List.length_cons]
      show 1 + 1 + _ = _
      omega
    · show (PyData.showable (.str (sgn c)) && PyData.showableAll (l.map fun c => PyData.str (sgn c))) = true
      rw [h4]; rfl
    · show (PyData.intsShort 13 (.str (sgn c)) && PyData.intsShortAll 13 (l.map fun c => PyData.str (sgn c))) = true
      rw [h5]; rfl
/-- [signs] == [] -/
theorem eqD_signs_nil {l : List Nat} {neg : Bool} (h : ∀ c ∈ l, c < 128) : eqD neg (.lst (l.map fun c => D.str (sgn c))) (.lst []) = some (.bl (neg ^^ decide (l = []))) := by
  obtain ⟨h1, h2, h3, h4, h5⟩ := lay_signs l h
  show eqD' neg _ _ = _
  unfold eqD'
  show (match (toPys (l.map fun c => D.str (sgn c))).map PyData.list, some (PyData.list []) with
    | some p, some q => chk (SeqAt.shaped p && SeqAt.shaped q) (.bl (neg ^^ PyData.eqv p q))
    | _, _ => none) = _
  rw [toPys_signs]
  show chk (SeqAt.shaped (.list (l.map fun c => PyData.str (sgn c))) && SeqAt.shaped (.list [])) (.bl (neg ^^ PyData.eqv (.list (l.map fun c => PyData.str (sgn c))) (.list []))) = _
  have hs : SeqAt.shaped (.list (l.map fun c => PyData.str (sgn c))) = true := by
    unfold SeqAt.shaped
    rw [Bool.and_eq_true, decide_eq_true_eq]
    refine ⟨h1, ?_⟩
    show PyData.depthAll _ + 1 ≤ 64
    rw [h2]; decide
  rw [hs, chk_pos (by decide)]
  cases l with
  | nil => rfl
  | cons c l => rfl
/-- the repr of a low string -/
theorem lay_str {z : Str} (h : Low z) (hl : z.length ≤ 1000000) : (PyData.str z).layable0 = true := by
  unfold PyData.layable0
  simp only [Bool.and_eq_true, decide_eq_true_eq]
  refine ⟨⟨h.ok, Nat.zero_le _⟩, ?_⟩
  show z.cps.size ≤ 2 ^ 20
  have : z.cps.size ≤ 1000000 := hl
  have e : (2 : Nat) ^ 20 = 1048576 := by decide
  omega
theorem repr_str {z : Str} (h : Low z) (hl : z.length ≤ 1000000) : ∃ t, reprD (.str z) = some (.str t) :=
  ⟨_, reprD_of rfl rfl (lay_str h hl) rfl (Nat.zero_le _)⟩
theorem repr_tup1 {z : Str} (h : Low z) (hl : z.length ≤ 1000000) : ∃ t, reprD (.tup [.str z]) = some (.str t) := by
  refine ⟨_, reprD_of (p := .tuple [.str z]) rfl rfl ?_ rfl (show (1 : Nat) ≤ 60 by decide)⟩
  unfold PyData.layable0
  simp only [Bool.and_eq_true, decide_eq_true_eq]
  refine ⟨⟨?_, (by decide : (1 : Nat) ≤ 64)⟩, ?_⟩
  · show (PyData.strOk z && true) = true
    rw [h.ok]; rfl
  · show z.cps.size + 1 + 0 ≤ 2 ^ 20
    have : z.cps.size ≤ 1000000 := hl
    have e : (2 : Nat) ^ 20 = 1048576 := by decide
    omega
theorem repr_lst1 {z : Str} (h : Low z) (hl : z.length ≤ 1000000) : ∃ t, reprD (.lst [.str z]) = some (.str t) := by
  refine ⟨_, reprD_of (p := .list [.str z]) rfl rfl ?_ rfl (show (1 : Nat) ≤ 60 by decide)⟩
  unfold PyData.layable0
  simp only [Bool.and_eq_true, decide_eq_true_eq]
  refine ⟨⟨?_, (by decide : (1 : Nat) ≤ 64)⟩, ?_⟩
  · show (PyData.strOk z && true) = true
    rw [h.ok]; rfl
  · show z.cps.size + 1 + 0 ≤ 2 ^ 20
    have : z.cps.size ≤ 1000000 := hl
    have e : (2 : Nat) ^ 20 = 1048576 := by decide
    omega
theorem repr_signs {l : List Nat} (h : ∀ c ∈ l, c < 128) (hl : l.length ≤ 100000) : ∃ t, reprD (.lst (l.map fun c => D.str (sgn c))) = some (.str t) := by
  obtain ⟨h1, h2, h3, h4, h5⟩ := lay_signs l h
  refine ⟨_, reprD_of (p := .list (l.map fun c => PyData.str (sgn c))) (by show (toPys _).map _ = _; rw [toPys_signs]; rfl) h4 ?_ h5 ?_⟩
  · unfold PyData.layable0
    simp only [Bool.and_eq_true, decide_eq_true_eq]
    refine ⟨⟨h1, ?_⟩, ?_⟩
    · show PyData.depthAll _ + 1 ≤ 64
      rw [h2]; decide
    · show PyData.weightAll _ ≤ 2 ^ 20
      rw [h3]
      have e : (2 : Nat) ^ 20 = 1048576 := by decide
      omega
  · show PyData.depthAll _ + 1 ≤ 60
    rw [h2]; decide
theorem dLc_map {ti : ME (List D)} {g : MG} {te : ME D} {vs : List Nat} {s : List Sl} {k : Option Dk} {ds : List D} {s1 : D → List Sl} {e : D → D} (hti : ti s k = .ok ds k) (hn : ds.length ≤ sizeLine) (hg : ∀ d ∈ ds, g d (wipeS s vs) = some (s1 d)) (he : ∀ d ∈ ds, te (s1 d) k = .ok (e d) k) :
    dLc ti g (ep true) te vs s k = .ok (.lst (ds.map e)) k := by
  unfold dLc
  simp only [eb, hti]
  rw [lcL_pure (s1 := s1) (t := fun _ => true) (e := e) (by omega) hg (fun _ _ => rfl) (fun d h _ => he d h)]
  rw [List.filter_eq_self.mpr fun _ _ => rfl]
theorem dLc_filter {ti : ME (List D)} {g : MG} {tt : ME Bool} {te : ME D} {vs : List Nat} {s : List Sl} {k : Option Dk} {ds : List D} {s1 : D → List Sl} {t : D → Bool} (hti : ti s k = .ok ds k) (hn : ds.length ≤ sizeLine) (hg : ∀ d ∈ ds, g d (wipeS s vs) = some (s1 d)) (ht : ∀ d ∈ ds, tt (s1 d) k = .ok (t d) k) (he : ∀ d ∈ ds, te (s1 d) k = .ok d k) :
    dLc ti g tt te vs s k = .ok (.lst (ds.filter t)) k := by
  unfold dLc
  simp only [eb, hti]
  rw [lcL_pure (s1 := s1) (t := t) (e := fun d => d) (by omega) hg ht (fun d h _ => he d h)]
  simp
theorem signs_filter (t : Nat → Bool) (u : D → Bool) (h : ∀ c, u (.str (sgn c)) = t c) : ∀ l : List Nat, (l.map fun c => D.str (sgn c)).filter u = (l.filter t).map fun c => D.str (sgn c) := by
  intro l
  rw [List.filter_map]
  congr 1
  apply List.filter_congr
  intro c _
  exact h c
end G
namespace G
open PySem PySem.Spec PyProof.Rows L2
/-! ### the denotations, applied -/
def bE {α β : Type} (r : RE α) (f : α → Option Dk → RE β) : RE β := match r with
  | .ok a k => f a k
  | .ex c fs k => .ex c fs k
  | .no => .no
def oE {α : Type} (o : Option α) (k : Option Dk) : RE α := match o with
  | some a => .ok a k
  | none => .no
def bR {α : Type} (r : RE α) (s : List Sl) (f : α → Option Dk → RS) : RS := match r with
  | .ok a k => f a k
  | .ex c fs k => .ex c fs s k
  | .no => .no
def bN (r : RS) (b : MS) : RS := match r with
  | .nx s' k' => b s' k'
  | .brk s' k' => .brk s' k'
  | .ct s' k' => .ct s' k'
  | .ret d k' => .ret d k'
  | .ex c fs s' k' => .ex c fs s' k'
  | .no => .no
def oS (o : Option (List Sl)) (k : Option Dk) : RS := match o with
  | some s' => .nx s' k
  | none => .no
def fR (r : RS) : RE D := match r with
  | .nx _ k' => .ok .non k'
  | .ret d k' => .ok d k'
  | .ex c fs _ k' => .ex c fs k'
  | _ => .no
def boolOf : D → Option Bool
  | .bl b => some b
  | _ => none
section
variable {α β : Type} {s : List Sl} {k : Option Dk}
theorem bE_ok {a : α} {f : α → Option Dk → RE β} : bE (.ok a k) f = f a k := rfl
theorem oE_some {a : α} : oE (some a) k = .ok a k := rfl
theorem bR_ok {a : α} {f : α → Option Dk → RS} : bR (.ok a k) s f = f a k := rfl
theorem bN_nx {b : MS} : bN (.nx s k) b = b s k := rfl
theorem bN_ret {d : D} {b : MS} : bN (.ret d k) b = .ret d k := rfl
theorem oS_some : oS (some s) k = .nx s k := rfl
theorem fR_nx : fR (.nx s k) = .ok .non k := rfl
theorem fR_ret {d : D} : fR (.ret d k) = .ok d k := rfl
theorem boolOf_bl {b : Bool} : boolOf (.bl b) = some b := rfl
theorem a_eb {m : ME α} {f : α → ME β} : eb m f s k = bE (m s k) fun a k' => f a s k' := rfl
theorem a_ep {a : α} : ep a s k = .ok a k := rfl
theorem a_eo {o : Option α} : eo o s k = oE o k := rfl
theorem a_var {i : Nat} : dVar i s k = match s[i]? with
  | some (.val d) => .ok d k
  | _ => .no := rfl
theorem a_op {f : D → D → Option D} {ta tb : ME D} : dOp f ta tb s k = bE (ta s k) fun x k1 => bE (tb s k1) fun y k2 => oE (f x y) k2 := rfl
theorem a_B {t : ME D} : dB t s k = bE (t s k) fun x k1 => oE (boolOf x) k1 := rfl
theorem a_un {f : D → Option D} {ta : ME D} : dUn f ta s k = bE (ta s k) fun x k1 => oE (f x) k1 := rfl
theorem a_andV {ta tb : ME D} : dAndV ta tb s k = bE (ta s k) fun x k1 => match x with
  | .bl true => tb s k1
  | .bl false => .ok (.bl false) k1
  | _ => .no := by
  unfold dAndV
  rw [a_eb]
  congr 1
  funext x k1
  cases x with
  | bl b => cases b <;> rfl
  | _ => rfl
theorem a_orV {ta tb : ME D} : dOrV ta tb s k = bE (ta s k) fun x k1 => match x with
  | .bl true => .ok (.bl true) k1
  | .bl false => tb s k1
  | _ => .no := by
  unfold dOrV
  rw [a_eb]
  congr 1
  funext x k1
  cases x with
  | bl b => cases b <;> rfl
  | _ => rfl
theorem a_notV {ta : ME D} : dNotV ta s k = bE (ta s k) fun x k1 => match x with
  | .bl b => .ok (.bl (!b)) k1
  | _ => .no := by
  unfold dNotV
  rw [a_un]
  congr 1
  funext x k1
  cases x <;> rfl
theorem a_and {ta tb : ME Bool} : dAnd ta tb s k = bE (ta s k) fun x k1 => if x = true then tb s k1 else .ok false k1 := by
  unfold dAnd
  rw [a_eb]
  congr 1
  funext x k1
  split <;> rfl
theorem a_or {ta tb : ME Bool} : dOr ta tb s k = bE (ta s k) fun x k1 => if x = true then .ok true k1 else tb s k1 := by
  unfold dOr
  rw [a_eb]
  congr 1
  funext x k1
  split <;> rfl
theorem a_not {ta : ME Bool} : dNot ta s k = bE (ta s k) fun x k1 => .ok (!x) k1 := rfl
theorem a_ifE {c : ME Bool} {ta tb : ME D} : dIfE c ta tb s k = bE (c s k) fun x k1 => if x = true then ta s k1 else tb s k1 := by
  unfold dIfE
  rw [a_eb]
  congr 1
  funext x k1
  split <;> rfl
theorem a_nil : dNil s k = .ok [] k := rfl
theorem a_cons {ta : ME D} {tr : ME (List D)} : dCons ta tr s k = bE (ta s k) fun x k1 => bE (tr s k1) fun xs k2 => .ok (x :: xs) k2 := rfl
theorem a_tup {te : ME (List D)} : dTup te s k = bE (te s k) fun xs k1 => if xs.length ≤ sizeLine then .ok (.tup xs) k1 else .no := by
  unfold dTup
  rw [a_eb]
  congr 1
  funext x k1
  by_cases h : x.length ≤ sizeLine
  · rw [if_pos h, if_pos h]; rfl
  · rw [if_neg h, if_neg h]; rfl
theorem a_lst {te : ME (List D)} : dLst te s k = bE (te s k) fun xs k1 => if xs.length ≤ sizeLine then .ok (.lst xs) k1 else .no := by
  unfold dLst
  rw [a_eb]
  congr 1
  funext x k1
  by_cases h : x.length ≤ sizeLine
  · rw [if_pos h, if_pos h]; rfl
  · rw [if_neg h, if_neg h]; rfl
theorem a_callB {f : List D → Option D} {te : ME (List D)} : dCallB f te s k = bE (te s k) fun xs k1 => oE (f xs) k1 := rfl
theorem a_call {g : Fn} {te : ME (List D)} : dCall g te s k = bE (te s k) fun xs k1 => g xs k1 := rfl
theorem a_callK {g : Fn} {n m : Nat} {gd : List D → List D → List D} {te tk : ME (List D)} : dCallK g n m gd te tk s k = bE (te s k) fun ds k1 => bE (tk s k1) fun es k2 => if ds.length = n ∧ es.length = m then g (gd ds es) k2 else .no := rfl
theorem a_items {t : ME D} : dItems t s k = bE (t s k) fun d k1 => oE (itemsOf d) k1 := rfl
theorem a_methT {T : String} {f : D → List D → Option D} {to : ME D} {te : ME (List D)} : dMethT T f to te s k = bE (to s k) fun x k1 => match okTy T x with
  | true => bE (te s k1) fun xs k2 => oE (f x xs) k2
  | false => .no := by
  unfold dMethT
  rw [a_eb]
  congr 1
  funext x k1
  split <;> rename_i h <;> simp only [h]
  rfl
theorem a_slice {t : ME D} {lo hi : ME (Option Int)} : dSlice t lo hi s k = bE (t s k) fun d k1 => bE (lo s k1) fun l k2 => bE (hi s k2) fun h k3 => oE (sliceD d l h) k3 := rfl
def lR (r : RE (List D)) : RE D := match r with
  | .ok ys k' => .ok (.lst ys) k'
  | .ex _ _ _ => .no
  | .no => .no
theorem lR_ok {ys : List D} : lR (.ok ys k) = .ok (.lst ys) k := rfl
theorem a_lc {ti : ME (List D)} {g : MG} {tt : ME Bool} {te : ME D} {vs : List Nat} : dLc ti g tt te vs s k = bE (ti s k) fun ds k1 => lR (lcL g tt te (wipeS s vs) 0 ds k1) := rfl
theorem rng1_of {r : Int} (h : okI r = true) : rng1 [.int r] = some ((List.range r.toNat).map fun i => D.int (i : Nat)) := by
  simp [rng1, h]
theorem loopS_pure {g : MG} {body : MS} {I : List Sl → Prop} : ∀ {ds : List D} {s : List Sl}, (∀ d ∈ ds, ∀ s, I s → ∃ s1, g d s = some s1 ∧ ∃ s', body s1 k = .nx s' k ∧ I s') → I s → ∃ s', loopS g body ds s k = .nx s' k ∧ I s'
  | [], s, _, hi => ⟨s, rfl, hi⟩
  | d :: ds, s, hs, hi => by
    obtain ⟨s1, hg, s', h1, h2⟩ := hs d (List.mem_cons_self ..) s hi
    obtain ⟨s2, e1, e2⟩ := loopS_pure (ds := ds) (fun d h => hs d (List.mem_cons_of_mem _ h)) h2
    refine ⟨s2, ?_, e2⟩
    unfold loopS
    rw [hg]
    dsimp only
    rw [h1]
    exact e1
theorem a_ss {a b : MS} : ss a b s k = bN (a s k) b := rfl
theorem a_sb {m : ME α} {f : α → MS} : sb m f s k = bR (m s k) s fun a k' => f a s k' := rfl
theorem a_ret {t : ME D} : sRet t s k = bR (t s k) s fun d k' => .ret d k' := rfl
theorem a_nx : sNx s k = .nx s k := rfl
theorem a_if {c : ME Bool} {t u : MS} : sIf c t u s k = bR (c s k) s fun b k' => if b = true then t s k' else u s k' := by
  unfold sIf
  rw [a_sb]
  congr 1
  funext x k1
  split <;> rfl
theorem a_asg {t : ME D} {g : MG} : sAsg t g s k = bR (t s k) s fun d k' => oS (g d s) k' := rfl
theorem a_par {i j : Nat} {te : ME (List D)} : sPar i j te s k = bR (te s k) s fun ds k' => match ds with
  | [x, y] => .nx ((s.set i (.val x)).set j (.val y)) k'
  | _ => .no := rfl
theorem a_for {ti : ME (List D)} {g : MG} {body : MS} : sFor ti g body s k = bR (ti s k) s fun ds k' => loopS g body ds s k' := rfl
theorem a_name {i : Nat} {d : D} : mName i d s = some (s.set i (.val d)) := rfl
theorem a_fn {np nN : Nat} {body : MS} {ds : List D} : fnDen np nN body ds k = if ds.length = np then fR (body (ds.map Sl.val ++ List.replicate (nN - ds.length) Sl.emp) k) else .no := rfl
end
end G
namespace G
open PySem PySem.Spec PyProof.Rows L2
/-! the deck as a dict -/
def kvsOf (c : Addr) (m t : Int) : List (Key × V) := [(Sum.inr (Str.ofString "cells"), .ref c), (Sum.inr (Str.ofString "mixed"), .int m), (Sum.inr (Str.ofString "turn"), .int t)]
theorem val_cells {c : Addr} {m t : Int} : valV (kvsOf c m t) (Sum.inr (Str.ofString "cells")) = some (.ref c) := rfl
theorem val_mixed {c : Addr} {m t : Int} : valV (kvsOf c m t) (Sum.inr (Str.ofString "mixed")) = some (.int m) := rfl
theorem val_turn {c : Addr} {m t : Int} : valV (kvsOf c m t) (Sum.inr (Str.ofString "turn")) = some (.int t) := rfl
theorem put_turn {c : Addr} {m t u : Int} : putK (kvsOf c m t) (Sum.inr (Str.ofString "turn")) (.int u) = kvsOf c m u := rfl
theorem get_k {H : Hp} {a c : Addr} {m t : Int} {x : Str} {v : V} (h : H a = some (.dK (kvsOf c m t))) (e : valV (kvsOf c m t) (Sum.inr x) = some v) : DGet H a (.str x) (some v) := by
  rw [← e]
  exact DGet.k (k := Sum.inr x) h
theorem cm {i j : Int} (h1 : -(2 ^ 80) < i) (h2 : i < 2 ^ 80) (h3 : -(2 ^ 80) < j) (h4 : j < 2 ^ 80) : CMulW i j :=
  wide_mul (a := 80) (b := 80) (by omega) (by omega) (by decide) (by decide) (by decide)
theorem drawF_some {p : Dp0} {ds : List D} {k : Option Dk} {K : PySem.W.Frag} {cl : Cl} {ad : Ad} {F H : Hp} {Q : VK} {E : XK} (h : PostF K cl ad k F H (drawF p ds k) Q E) :
    ∃ many kk, ds = [.deck, .int many] ∧ k = some kk ∧ okDraw many kk = true ∧ PostF K cl ad k F H (.ok (.int (drawD p many kk).1) (some (drawD p many kk).2)) Q E := by
  unfold drawF at h
  split at h
  · rename_i many kk
    by_cases c : okDraw many kk = true
    · rw [if_pos c] at h; exact ⟨many, kk, rfl, rfl, c, h⟩
    · rw [if_neg c] at h; exact False.elim h
  · exact False.elim h
theorem okDraw_of {many : Int} {k : Dk} (h : okDraw many k = true) : 0 < many ∧ many ≤ 1000000000 ∧ 0 ≤ k.turn ∧ k.turn < 1000000000000 ∧ k.cells.length ≤ 1000 := by
  unfold okDraw at h
  simp only [Bool.and_eq_true, decide_eq_true_eq] at h
  exact ⟨h.1.1.1.1, h.1.1.1.2, h.1.1.2, h.1.2, h.2⟩
theorem dpAll_ints {K : PySem.W.Frag} {H : Hp} : ∀ ns : List Int, DpAll K H (ns.map V.int) (ns.map PyData.int)
  | [] => .nil
  | n :: ns => .cons (.int n) (dpAll_ints ns)
theorem shaped_ints (ns : List Int) : SeqAt.shaped (.list (ns.map PyData.int)) = true := by
  have h1 : ∀ l : List Int, PyData.canLayAll0 (l.map PyData.int) = true := fun l => by
    induction l with
    | nil => rfl
    | cons a r ih => show (PyData.canLay0 (.int a) && _) = true; rw [ih]; rfl
  have h2 : ∀ l : List Int, PyData.depthAll (l.map PyData.int) ≤ 1 := fun l => by
    induction l with
    | nil => decide
    | cons a r ih =>
      simp only [List.map_cons, PyData.depthAll, PyData.depth]
      omega
  unfold SeqAt.shaped
  rw [Bool.and_eq_true, decide_eq_true_eq]
  refine ⟨h1 ns, ?_⟩
  have := h2 ns
  simp only [PyData.depth]
  omega
end G
namespace K01
open PySem PySem.Spec PyProof.Rows L2
def top (i : Nat) : Stmt := PySem.Challenge.pw_tallyhouse_k01_digits_tickets_and_rolls.main.body.getD i (.Pass ⟨0, 0, 0, 0⟩)
abbrev sDraw : Stmt := top 9
theorem scDraw : FnScope ["_law_deck_here", "_law_many", "_law_figure", "_law_cell"] ["_law_deck_here", "_law_many"] (defScope sDraw) := ⟨rfl, rfl, rfl, by decide +kernel, rfl, by decide +kernel, by decide +kernel⟩
section
variable {P : Program} {w : World} {K : PySem.W.Frag} {mg : Str → Option Value} {base : Heap} {f : Addr} {fd : FuncData}
open G
theorem ok_draw (F : FunD K "_law_draw" "_law_draw" (defArgs sDraw) (defBody sDraw) (defScope sDraw) [] [] f fd) (mi : mg "int" = none) : FnG P w K mg base 1 f fd ["_law_deck_here", "_law_many"] (spD K (clOf mg) (drawF ⟨60223, 223, 69621, 29⟩)) := by
  refine fn_ofG F scDraw (fun vs H Q E h => ?_) (fun cdv A outer s H vs Q E gd hr h => ?_)
  · obtain ⟨ad, F', ds, k, h1, h2, h3, h4⟩ := h
    obtain ⟨many, kk, rfl, rfl, c, h4⟩ := drawF_some h4
    exact h2.length
  · have hu := hu_of hr
    refine ⟨_, pss_cons (ps_dput hu (pv 0) pe_str (pe_op op_add (pe_dget hu (pv 0) pe_str (fun _ _ => rfl)) pe_int) rfl)
      (pss_cons (ps_set (i := 2) scDraw.nd rfl (.inl rfl) (pe_op op_add (pe_dget hu (pv 0) pe_str (fun _ _ => rfl)) (pe_op op_mulW (pe_op op_mulW pe_int (pe_dget hu (pv 0) pe_str (fun _ _ => rfl))) (pe_dget hu (pv 0) pe_str (fun _ _ => rfl)))))
      (pss_cons (ps_if (pt_cmpR (op_neD hr.units) (pe_dget hu (pv 0) pe_str (fun _ _ => rfl)) (pe_lst pa_nil) (nomark _))
        (pss_cons (ps_set (i := 3) scDraw.nd rfl (.inl rfl) (pe_bm0 PySem.F.plainAttrs_list PySem.F.slot_list_pop PySem.F.type_list_pop mt_pop (pe_dget hu (pv 0) pe_str (fun _ _ => rfl))))
        (pss_cons (ps_if (pt_cmpR op_ge (pv 3) (pe_op op_pow pe_int pe_int) (nomark _))
          (pss_cons (ps_expr (pe_bm PySem.F.plainAttrs_list PySem.F.slot_list_append PySem.F.type_list_append mt_append (pe_dget hu (pv 0) pe_str (fun _ _ => rfl)) (pa_cons (pe_op op_fdivW (pv 3) (pv 1)) pa_nil)))
          (pss_one (ps_ret (pe_op op_mod (pe_callTy call_int1 (by rfl) mi (by decide +kernel) (pa_cons (pv 3) pa_nil)) (pv 1))))) pss_nil)
        (pss_one (ps_set (i := 2) scDraw.nd rfl (.inl rfl) (pe_op op_add (pv 2) (pe_callTy call_int1 (by rfl) mi (by decide +kernel) (pa_cons (pv 3) pa_nil))))))) pss_nil)
      (pss_cons (ps_set (i := 2) scDraw.nd rfl (.inl rfl) (pe_op op_mod (pe_op op_mulW (pe_callTy call_int1 (by rfl) mi (by decide +kernel) (pa_cons (pe_op op_add (pe_op op_mod (pe_callTy call_int1 (by rfl) mi (by decide +kernel) (pa_cons (pv 2) pa_nil)) pe_int) pe_int) pa_nil)) pe_int) pe_int))
      (pss_cons (ps_set (i := 2) scDraw.nd rfl (.inl rfl) (pe_op op_mod (pe_callTy call_int1 (by rfl) mi (by decide +kernel) (pa_cons (pe_op op_add (pe_op op_add (pe_op op_mulW (pv 2) (pv 2)) (pe_op op_mulW pe_int (pe_dget hu (pv 0) pe_str (fun _ _ => rfl)))) pe_int) pa_nil)) pe_int))
      (pss_one (ps_ret (pe_op op_mod (pe_op op_fdivW (pe_op op_mod (pe_callTy call_int1 (by rfl) mi (by decide +kernel) (pa_cons (pe_op op_mulW (pv 2) pe_int) pa_nil)) pe_int) pe_int) (pv 1)))))))), ?_⟩
    obtain ⟨ad, F', ds, k, h1, h2, h3, h4⟩ := h
    obtain ⟨many, kk, rfl, rfl, c, h4⟩ := drawF_some h4
    obtain ⟨c1, c2, c3, c4, c5⟩ := okDraw_of c
    obtain ⟨cells, mixed, turn⟩ := kk
    dsimp only at c3 c4 c5
    obtain ⟨f1, f2, nac, hA, hC⟩ := h3 _ rfl
    dsimp only at hA hC
    have hA : H ad.1 = some (.dK (kvsOf ad.2 mixed turn)) := hA
    cases h2 with
    | cons g1 g2 =>
    cases g2 with
    | cons g3 g4 =>
    cases g4
    cases g1
    cases g3
    -- deck['turn'] = deck['turn'] + 1
    refine ⟨.ref ad.1, rfl, ad.1, .int turn, rfl, get_k hA val_turn, turn, 1, rfl, rfl, .ref ad.1, rfl, ad.1, _, rfl, DPut.k (k := Sum.inr (Str.ofString "turn")) hA (show 3 < sizeLine by decide), ?_⟩
    rw [put_turn]
    have hA1 : upd H ad.1 (.dK (kvsOf ad.2 mixed (turn + 1))) ad.1 = some (.dK (kvsOf ad.2 mixed (turn + 1))) := upd_same
    have hC1 : upd H ad.1 (.dK (kvsOf ad.2 mixed (turn + 1))) ad.2 = some (.lst (cells.map V.int)) := by rw [upd_ne nac.symm]; exact hC
    -- figure
    refine ⟨.ref ad.1, rfl, ad.1, .int mixed, rfl, get_k hA1 val_mixed, .ref ad.1, rfl, ad.1, .int (turn + 1), rfl, get_k hA1 val_turn, 60223, turn + 1, rfl, rfl, cm (by omega) (by omega) (by omega) (by omega),
      .ref ad.1, rfl, ad.1, .int (turn + 1), rfl, get_k hA1 val_turn, 60223 * (turn + 1), turn + 1, rfl, rfl, cm (by omega) (by omega) (by omega) (by omega), mixed, 60223 * (turn + 1) * (turn + 1), rfl, rfl, ?_⟩
    -- cells != []
    refine ⟨.ref ad.1, rfl, ad.1, .ref ad.2, rfl, get_k hA1 val_cells, Nat.zero_le _, fun o no => ?_⟩
    have nA : ad.1 ≠ o := ne_of_none hA1 no
    have nC : ad.2 ≠ o := ne_of_none hC1 no
    generalize hH1 : upd (upd H ad.1 (.dK (kvsOf ad.2 mixed (turn + 1)))) o (.lst []) = H1
    have hA2 : H1 ad.1 = some (.dK (kvsOf ad.2 mixed (turn + 1))) := by rw [← hH1, upd_ne nA]; exact hA1
    have hC2 : H1 ad.2 = some (.lst (cells.map V.int)) := by rw [← hH1, upd_ne nC]; exact hC1
    have hO : H1 o = some (.lst []) := by rw [← hH1, upd_same]
    have keep1 : ∀ b u, b ≠ ad.1 → H b = some u → H1 b = some u := fun b u nb e => by
      rw [← hH1, upd_ne, upd_ne nb]
      · exact e
      · intro z
        subst z
        rw [upd_ne nb] at no
        rw [e] at no; cases no
    have there1 : ∀ b, H b ≠ none → H1 b ≠ none := fun b h => by
      by_cases nb : b = ad.1
      · rw [nb, hA2]; exact fun z => nomatch z
      · cases q : H b with
        | none => exact absurd q h
        | some u => rw [keep1 b u nb q]; exact fun z => nomatch z
    -- the end: a heap H2 that has the deck, the rest as in H1
    have fin : ∀ (H2 : Hp) (r : Int) (cs : List Int), H2 ad.1 = some (.dK (kvsOf ad.2 mixed (turn + 1))) → H2 ad.2 = some (.lst (cs.map V.int)) → (∀ b u, b ≠ ad.2 → H1 b = some u → H2 b = some u) →
        drawD ⟨60223, 223, 69621, 29⟩ many ⟨cells, mixed, turn⟩ = (r, ⟨cs, mixed, turn + 1⟩) → Q (.int r) H2 := by
      intro H2 r cs e1 e2 e3 e4
      rw [e4] at h4
      refine h4 (.int r) H2 F' (fun b u e => ?_) (fun d e => ?_) ⟨rfl, Same.refl _, fun b u e n => ?_, fun b e => ?_, fun _ _ e => e⟩ (.int r)
      · have nb1 : b ≠ ad.1 := fun z => by rw [z, f1] at e; cases e
        have nb2 : b ≠ ad.2 := fun z => by rw [z, f2] at e; cases e
        exact e3 b u nb2 (keep1 b u nb1 (h1 b u e))
      · cases e
        exact ⟨f1, f2, nac, e1, e2⟩
      · exact e3 b u (n rfl).2 (keep1 b u (n rfl).1 e)
      · by_cases nb : b = ad.2
        · rw [nb, e2]; exact fun z => nomatch z
        · cases q : H1 b with
          | none => exact absurd q (there1 b e)
          | some u => rw [e3 b u nb q]; exact fun z => nomatch z
    refine ⟨.list (cells.map PyData.int), .list [], .lst (SqL.of hC2) (dpAll_ints cells), .lst (SqL.of hO) .nil, shaped_ints cells, by decide, _, rfl, ?_⟩
    by_cases hcells : cells = []
    · subst hcells
      refine iteF ?_
      refine ⟨.int (mixed + 60223 * (turn + 1) * (turn + 1)), rfl, .inl ⟨(mixed + 60223 * (turn + 1) * (turn + 1)), rfl, (mixed + 60223 * (turn + 1) * (turn + 1)), 2147483579, rfl, rfl, (show (0 : Int) < 2147483579 by decide), _, 223, rfl, rfl, .inl ⟨_, rfl, _, 48271, rfl, rfl, cm (by omega) (by omega) (by decide) (by decide), _, 2147483647, rfl, rfl, (show (0 : Int) < 2147483647 by decide), ?_⟩⟩⟩
      refine ⟨.int (((mixed + 60223 * (turn + 1) * (turn + 1)) % 2147483579 + 223) * 48271 % 2147483647), rfl, .int (((mixed + 60223 * (turn + 1) * (turn + 1)) % 2147483579 + 223) * 48271 % 2147483647), rfl, _, _, rfl, rfl, cm (by omega) (by omega) (by omega) (by omega), .ref ad.1, rfl, ad.1, .int (turn + 1), rfl, get_k hA2 val_turn, 69621, turn + 1, rfl, rfl, cm (by decide) (by decide) (by omega) (by omega), _, _, rfl, rfl, _, 29, rfl, rfl, .inl ⟨_, rfl, _, 2147483563, rfl, rfl, (show (0 : Int) < 2147483563 by decide), ?_⟩⟩
      refine ⟨.int (((((mixed + 60223 * (turn + 1) * (turn + 1)) % 2147483579 + 223) * 48271 % 2147483647) * (((mixed + 60223 * (turn + 1) * (turn + 1)) % 2147483579 + 223) * 48271 % 2147483647) + 69621 * (turn + 1) + 29) % 2147483563), rfl, _, 40692, rfl, rfl, cm (by omega) (by omega) (by decide) (by decide), .inl ⟨_, rfl, _, 2147483587, rfl, rfl, (show (0 : Int) < 2147483587 by decide), _, 64, rfl, rfl, ⟨by decide, by decide +kernel⟩, .int many, rfl, _, many, rfl, rfl, c1, ?_⟩⟩
      refine fin _ _ [] hA2 hC2 (fun _ _ _ e => e) ?_
      unfold drawD
      dsimp only
      rw [show ([] : List Int).getLast? = none from rfl]
      dsimp only
      rfl
    · have hne : PyData.eqv (.list (cells.map PyData.int)) (.list []) = false := by
        cases cells with
        | nil => exact absurd rfl hcells
        | cons _ _ => rfl
      rw [hne]
      refine iteT ?_
      obtain ⟨ini, last, rfl⟩ : ∃ ini last, cells = ini ++ [last] := ⟨cells.dropLast, cells.getLast hcells, (List.dropLast_concat_getLast hcells).symm⟩
      have hlast : (ini ++ [last]).getLast? = some last := List.getLast?_concat ..
      have hdl : (ini ++ [last]).dropLast = ini := List.dropLast_concat ..
      -- pop
      refine ⟨.ref ad.1, rfl, ad.1, .ref ad.2, rfl, get_k hA2 val_cells, .inl ⟨rfl, _, SqL.of hC2⟩, ad.2, _, .int last, rfl, rfl, hC2, ?_, ?_⟩
      · rw [List.map_append, List.length_append, List.length_map]
        simp
      have hpop : ((ini ++ [last]).map V.int).dropLast = ini.map V.int := by rw [List.map_append]; simp
      rw [hpop]
      generalize hH3 : upd H1 ad.2 (.lst (ini.map V.int)) = H3
      have hA3 : H3 ad.1 = some (.dK (kvsOf ad.2 mixed (turn + 1))) := by rw [← hH3, upd_ne nac]; exact hA2
      have hC3 : H3 ad.2 = some (.lst (ini.map V.int)) := by rw [← hH3, upd_same]
      have keep3 : ∀ b u, b ≠ ad.2 → H1 b = some u → H3 b = some u := fun b u nb e => by rw [← hH3, upd_ne nb]; exact e
      -- cell >= 10 ** 18
      refine ⟨.int last, rfl, 10, 18, rfl, rfl, ⟨by decide, by decide, by decide⟩, last, _, rfl, rfl, _, rfl, ?_⟩
      have hpow : (10 : Int) ^ (18 : Int).toNat = 1000000000000000000 := by decide
      rw [hpow]
      by_cases hbig : (1000000000000000000 : Int) ≤ last
      · rw [decide_eq_true hbig]
        refine iteT ?_
        refine ⟨.ref ad.1, rfl, ad.1, .ref ad.2, rfl, get_k hA3 val_cells, .inl ⟨rfl, _, SqL.of hC3⟩, .int last, rfl, .int many, rfl, last, many, rfl, rfl, wide_div (b := 80) c1 (by omega) (by decide) (by decide), ad.2, _, _, rfl, rfl, hC3, ?_, ?_⟩
        · rw [List.length_map]
          rw [List.length_append] at c5
          exact Nat.lt_of_le_of_lt (by omega) (small1000 (Nat.le_refl 1000))
        · refine ⟨.int last, rfl, .inl ⟨last, rfl, .int many, rfl, last, many, rfl, rfl, c1, ?_⟩⟩
          refine fin _ _ (ini ++ [last / many]) ?_ ?_ (fun b u nb e => ?_) ?_
          · rw [upd_ne nac]; exact hA3
          · rw [upd_same, List.map_append]; rfl
          · rw [upd_ne nb]; exact keep3 b u nb e
          · unfold drawD
            dsimp only
            rw [hlast, hdl]
            dsimp only
            rw [if_pos (by have : (10 : Int) ^ 18 = 1000000000000000000 := by decide
                           omega)]
      · rw [decide_eq_false hbig]
        refine iteF ?_
        refine ⟨.int (mixed + 60223 * (turn + 1) * (turn + 1)), rfl, .int last, rfl, .inl ⟨last, rfl, _, last, rfl, rfl, ?_⟩⟩
        refine ⟨.int (mixed + 60223 * (turn + 1) * (turn + 1) + last), rfl, .inl ⟨(mixed + 60223 * (turn + 1) * (turn + 1) + last), rfl, (mixed + 60223 * (turn + 1) * (turn + 1) + last), 2147483579, rfl, rfl, (show (0 : Int) < 2147483579 by decide), _, 223, rfl, rfl, .inl ⟨_, rfl, _, 48271, rfl, rfl, cm (by omega) (by omega) (by decide) (by decide), _, 2147483647, rfl, rfl, (show (0 : Int) < 2147483647 by decide), ?_⟩⟩⟩
        refine ⟨.int (((mixed + 60223 * (turn + 1) * (turn + 1) + last) % 2147483579 + 223) * 48271 % 2147483647), rfl, .int (((mixed + 60223 * (turn + 1) * (turn + 1) + last) % 2147483579 + 223) * 48271 % 2147483647), rfl, _, _, rfl, rfl, cm (by omega) (by omega) (by omega) (by omega), .ref ad.1, rfl, ad.1, .int (turn + 1), rfl, get_k hA3 val_turn, 69621, turn + 1, rfl, rfl, cm (by decide) (by decide) (by omega) (by omega), _, _, rfl, rfl, _, 29, rfl, rfl, .inl ⟨_, rfl, _, 2147483563, rfl, rfl, (show (0 : Int) < 2147483563 by decide), ?_⟩⟩
        refine ⟨.int (((((mixed + 60223 * (turn + 1) * (turn + 1) + last) % 2147483579 + 223) * 48271 % 2147483647) * (((mixed + 60223 * (turn + 1) * (turn + 1) + last) % 2147483579 + 223) * 48271 % 2147483647) + 69621 * (turn + 1) + 29) % 2147483563), rfl, _, 40692, rfl, rfl, cm (by omega) (by omega) (by decide) (by decide), .inl ⟨_, rfl, _, 2147483587, rfl, rfl, (show (0 : Int) < 2147483587 by decide), _, 64, rfl, rfl, ⟨by decide, by decide +kernel⟩, .int many, rfl, _, many, rfl, rfl, c1, ?_⟩⟩
        refine fin _ _ ini hA3 hC3 keep3 ?_
        unfold drawD
        dsimp only
        rw [hlast, hdl]
        dsimp only
        rw [if_neg (by have : (10 : Int) ^ 18 = 1000000000000000000 := by decide
                       omega)]
        rfl
end
end K01
namespace K01
open PySem PySem.Spec PyProof.Rows L2 G
abbrev FD (K : PySem.W.Frag) (x : Str) (i : Nat) (f : Addr) (fd : FuncData) : Prop := FunD K x x (defArgs (top i)) (defBody (top i)) (defScope (top i)) [] [] f fd
def d_are_digits_0 : MS := (sIf (dOr (dNot (dB (dCallB (isiD) (dCons (dVar 0) (dCons (ep (.ty "str")) dNil))))) (dB (dOp (eqD false) (dVar 0) (ep (.str ""))))) (sRet (ep (.bl false))) sNx)
def d_are_digits_1 : MS := (sRet (dAndV (dCallB (one allD) (dCons (dLc (dItems (dVar 0)) (mName 1) (ep true) (dOp (inD false) (dVar 1) (ep (.str "0123456789"))) [1]) dNil)) (dCallB (one allD) (dCons (dLc (eb (dCons (dOp subD (dCallB (one lenD) (dCons (dVar 0) dNil)) (ep (.int 1))) dNil) fun ds => eo (rng1 ds)) (mName 2) (ep true) (dOp ltD (dOp ixD (dVar 0) (dVar 2)) (dOp ixD (dVar 0) (dOp addD (dVar 2) (ep (.int 1))))) [2]) dNil))))
theorem sc_are_digits : FnScope ["thing", "sign", "at"] ["thing"] (defScope (top 2)) := ⟨rfl, rfl, rfl, by decide +kernel, rfl, by decide +kernel, by decide +kernel⟩
def d_are_digits : MS := (ss d_are_digits_0
    d_are_digits_1)
def fn_are_digits : Fn := fnDen 1 3 d_are_digits
theorem ok_are_digits {P : Program} {w : World} {K : PySem.W.Frag} {mg : Str → Option Value} {base : Heap} {f : Addr} {fd : FuncData} (m_str : mg "str" = none) (m_isinstance : mg "isinstance" = none) (m_all : mg "all" = none) (m_len : mg "len" = none) (m_range : mg "range" = none) {t_FIGURES : Tok} (q_FIGURES : mg "FIGURES" = some (.str "0123456789" t_FIGURES)) (F : FD K "are_digits" 2 f fd) : FnG P w K mg base 1 f fd ["thing"] (spD K (clOf mg) fn_are_digits) :=
  fn_okD F sc_are_digits fun cdv A outer s H E gd hr => ⟨_, (us_cons (us_if (UW.ut (uw_or (ut_not (ut_val (u_callB call_isi sn_isi (by rfl) m_isinstance (by decide +kernel) (ua_cons (u_var 0 (pv 0)) (ua_cons (u_ty (by rfl) m_str (by decide +kernel)) ua_nil))))) (uw_or1 (ut_cmp (op_eqG hr.units) sn_eq (u_var 0 (pv 0)) u_str (nomark _))))) (us_one (us_ret u_bl)) us_nil)
    (us_one (us_ret (u_and (u_callB (cr_all rfl) sn_all (by rfl) m_all (by decide +kernel) (ua_cons (u_lc (by rfl) sc_are_digits.nd (ui_any (u_var 0 (pv 0))) (blkOk_by (own := [("sign", 1)]) (by kernel_rfl)) (by decide) (fun _ _ _ _ _ => (ug_name (i := 1) sc_are_digits.nd)) (fun _ _ _ _ _ => castTs uts_nil) (fun _ _ _ _ _ => castE (u_cmp (op_ins (hu65 hr)) sn_in (u_var 1 (pv 1)) (u_c (pe_glob (v := .str "0123456789") (by rfl) q_FIGURES ⟨_, rfl⟩) (fun _ _ => .str _)) rfl))) ua_nil)) (u_one (u_callB (cr_all rfl) sn_all (by rfl) m_all (by decide +kernel) (ua_cons (u_lc (by rfl) sc_are_digits.nd (ui_rng1 (by rfl) m_range (ua_cons (u_op op_sub sn_sub (u_callB call_lens sn_len (by rfl) m_len PySem.boot_len (ua_cons (u_var 0 (pv 0)) ua_nil)) u_int) ua_nil)) (blkOk_by (own := [("at", 2)]) (by kernel_rfl)) (by decide) (fun _ _ _ _ _ => (ug_name (i := 2) sc_are_digits.nd)) (fun _ _ _ _ _ => castTs uts_nil) (fun _ _ _ _ _ => castE (u_cmp (op_lts hr.units) sn_lt (u_ix (u_var 0 (pv 0)) (u_var 2 (pv 2))) (u_ix (u_var 0 (pv 0)) (u_op op_adds sn_add (u_var 2 (pv 2)) u_int)) (nomark _)))) ua_nil)))))))⟩
def d_is_ticket_0 : MS := (sRet (dAndV (dCallB (isiD) (dCons (dVar 1) (dCons (ep (.ty "str")) dNil))) (dCallB (one allD) (dCons (dLc (dItems (dVar 1)) (mName 2) (ep true) (dOp (inD false) (dVar 2) (dVar 0)) [2]) dNil))))
theorem sc_is_ticket : FnScope ["digits", "thing", "sign"] ["digits", "thing"] (defScope (top 3)) := ⟨rfl, rfl, rfl, by decide +kernel, rfl, by decide +kernel, by decide +kernel⟩
def d_is_ticket : MS := d_is_ticket_0
def fn_is_ticket : Fn := fnDen 2 3 d_is_ticket
theorem ok_is_ticket {P : Program} {w : World} {K : PySem.W.Frag} {mg : Str → Option Value} {base : Heap} {f : Addr} {fd : FuncData} (m_str : mg "str" = none) (m_isinstance : mg "isinstance" = none) (m_all : mg "all" = none) (F : FD K "is_ticket" 3 f fd) : FnG P w K mg base 1 f fd ["digits", "thing"] (spD K (clOf mg) fn_is_ticket) :=
  fn_okD F sc_is_ticket fun cdv A outer s H E gd hr => ⟨_, (us_one (us_ret (u_and (u_callB call_isi sn_isi (by rfl) m_isinstance (by decide +kernel) (ua_cons (u_var 1 (pv 1)) (ua_cons (u_ty (by rfl) m_str (by decide +kernel)) ua_nil))) (u_one (u_callB (cr_all rfl) sn_all (by rfl) m_all (by decide +kernel) (ua_cons (u_lc (by rfl) sc_is_ticket.nd (ui_any (u_var 1 (pv 1))) (blkOk_by (own := [("sign", 2)]) (by kernel_rfl)) (by decide) (fun _ _ _ _ _ => (ug_name (i := 2) sc_is_ticket.nd)) (fun _ _ _ _ _ => castTs uts_nil) (fun _ _ _ _ _ => castE (u_cmp (op_ins (hu65 hr)) sn_in (u_var 2 (pv 2)) (u_var 0 (pv 0)) rfl))) ua_nil))))))⟩
def d_ticket_key_0 : MS := (sRet (dTup (dCons (dCallB (one lenD) (dCons (dVar 0) dNil)) (dCons (dVar 0) dNil))))
theorem sc_ticket_key : FnScope ["ticket"] ["ticket"] (defScope (top 4)) := ⟨rfl, rfl, rfl, by decide +kernel, rfl, by decide +kernel, by decide +kernel⟩
def d_ticket_key : MS := d_ticket_key_0
def fn_ticket_key : Fn := fnDen 1 1 d_ticket_key
theorem ok_ticket_key {P : Program} {w : World} {K : PySem.W.Frag} {mg : Str → Option Value} {base : Heap} {f : Addr} {fd : FuncData} (m_len : mg "len" = none) (F : FD K "ticket_key" 4 f fd) : FnG P w K mg base 1 f fd ["ticket"] (spD K (clOf mg) fn_ticket_key) :=
  fn_okD F sc_ticket_key fun cdv A outer s H E gd hr => ⟨_, (us_one (us_ret (u_tup (ua_cons (u_callB call_lens sn_len (by rfl) m_len PySem.boot_len (ua_cons (u_var 0 (pv 0)) ua_nil)) (ua_cons (u_var 0 (pv 0)) ua_nil)))))⟩
def d_is_ahead_0 : MS := (sRet (dOp ltD (dCall fn_ticket_key (dCons (dVar 0) dNil)) (dCall fn_ticket_key (dCons (dVar 1) dNil))))
theorem sc_is_ahead : FnScope ["one", "other"] ["one", "other"] (defScope (top 5)) := ⟨rfl, rfl, rfl, by decide +kernel, rfl, by decide +kernel, by decide +kernel⟩
def d_is_ahead : MS := d_is_ahead_0
def fn_is_ahead : Fn := fnDen 2 2 d_is_ahead
theorem ok_is_ahead {P : Program} {w : World} {K : PySem.W.Frag} {mg : Str → Option Value} {base : Heap} {f : Addr} {fd : FuncData} {a_ticket_key : Addr} {e_ticket_key : FuncData} (c_ticket_key : Ce P w K mg base 1 "ticket_key" ["ticket"] fn_ticket_key a_ticket_key e_ticket_key) (F : FD K "is_ahead" 5 f fd) : FnG P w K mg base 2 f fd ["one", "other"] (spD K (clOf mg) fn_is_ahead) :=
  fn_okD F sc_is_ahead fun cdv A outer s H E gd hr => ⟨_, (us_one (us_ret (u_cmp (op_lts hr.units) sn_lt (u_call c_ticket_key.ok gd (hr.mono (by decide)) c_ticket_key.g c_ticket_key.k c_ticket_key.b (takes_of rfl rfl rfl rfl) (ua_cons (u_var 0 (pv 0)) ua_nil)) (u_call c_ticket_key.ok gd (hr.mono (by decide)) c_ticket_key.g c_ticket_key.k c_ticket_key.b (takes_of rfl rfl rfl rfl) (ua_cons (u_var 1 (pv 1)) ua_nil)) (nomark _))))⟩
def d_roll_0 : MS := (sAsg (dLst (dCons (ep (.str "")) dNil)) (mName 2))
def d_roll_1_b : MS := (sAsg (dLc2 (dItems (dVar 2)) (mName 4) (ep true) (dItems (dVar 0)) (mName 5) (ep true) (dOp addD (dVar 4) (dVar 5)) [4, 5] [5]) (mName 2))
def d_roll_1 : MS := (sFor (eb (dCons (dVar 1) dNil) fun ds => eo (rng1 ds)) (mName 3) d_roll_1_b)
def d_roll_2 : MS := (sRet (dCallB (one tupD) (dCons (dVar 2) dNil)))
theorem sc_roll : FnScope ["digits", "length", "found", "turn", "ticket", "digit"] ["digits", "length"] (defScope (top 6)) := ⟨rfl, rfl, rfl, by decide +kernel, rfl, by decide +kernel, by decide +kernel⟩
def d_roll : MS := (ss d_roll_0
    (ss d_roll_1
    d_roll_2))
def fn_roll : Fn := fnDen 2 6 d_roll
theorem ok_roll {P : Program} {w : World} {K : PySem.W.Frag} {mg : Str → Option Value} {base : Heap} {f : Addr} {fd : FuncData} (m_range : mg "range" = none) (m_tuple : mg "tuple" = none) (F : FD K "roll" 6 f fd) : FnG P w K mg base 1 f fd ["digits", "length"] (spD K (clOf mg) fn_roll) :=
  fn_okD F sc_roll fun cdv A outer s H E gd hr => ⟨_, (us_cons (us_set (i := 2) sc_roll.nd (u_lst (ua_cons u_str ua_nil)))
    (us_cons (us_for (passes_of rfl) (by rfl) (ui_rng1 (by rfl) m_range (ua_cons (u_var 1 (pv 1)) ua_nil)) (ug_name (i := 3) sc_roll.nd) (us_one (us_setLc2 (i := 2) (vs1 := [5]) (by rfl) sc_roll.nd (ui_any (u_var 2 (pv 2))) (blkOk_by (own := [("ticket", 4), ("digit", 5)]) (by kernel_rfl)) (by decide) (by decide) (by decide) (fun _ _ _ _ _ => (ug_name (i := 4) sc_roll.nd)) (fun _ _ _ _ _ => castTs uts_nil) (fun _ _ _ _ _ => castI (ui_any (u_var 0 (pv 0)))) (fun _ _ _ _ _ => (ug_name (i := 5) sc_roll.nd)) (fun _ _ _ _ _ => castTs uts_nil) (fun _ _ _ _ _ => castE (u_op op_adds sn_add (u_var 4 (pv 4)) (u_var 5 (pv 5)))) (sw_true rfl rfl rfl (by decide +kernel)))))
    (us_one (us_ret (u_callTy call_tuple_of sn_tup (by rfl) m_tuple (by decide +kernel) (ua_cons (u_var 2 (pv 2)) ua_nil))))))⟩
def d__law_deck_0 : MS := (sPar 2 3 (dCons (dCallB (one lstsD) (dCons (dSlice (dVar 0) (ep none) (eb (ep (.int 63)) fun d => eo (intOf d))) dNil)) (dCons (ep (.int 10870010)) dNil)))
def d__law_deck_1_b : MS := (sAsg (dOp modD (dCallB (one intD) (dCons (dOp addD (dOp addD (dOp mulsD (dVar 3) (ep (.int 39373))) (dOp modD (dCallB (one intD) (dCons (dVar 1) dNil)) (ep (.int 2147483629)))) (ep (.int 223))) dNil)) (ep (.int 2147483587))) (mName 3))
def d__law_deck_1 : MS := (sFor (dItems (dVar 2)) (mName 1) d__law_deck_1_b)
def d__law_deck_2 : MS := (sRet (dDict (dPair (ep (.str "cells")) (dUn revD (dVar 2)) (dPair (ep (.str "mixed")) (dVar 3) (dPair (ep (.str "turn")) (ep (.int 0)) (ep []))))))
theorem sc__law_deck : FnScope ["_law_script", "_law_cell", "_law_cells", "_law_mixed"] ["_law_script"] (defScope (top 8)) := ⟨rfl, rfl, rfl, by decide +kernel, rfl, by decide +kernel, by decide +kernel⟩
def d__law_deck : MS := (ss d__law_deck_0
    (ss d__law_deck_1
    d__law_deck_2))
def fn__law_deck : Fn := fnDen 1 4 d__law_deck
theorem ok__law_deck {P : Program} {w : World} {K : PySem.W.Frag} {mg : Str → Option Value} {base : Heap} {f : Addr} {fd : FuncData} (m_list : mg "list" = none) (m_int : mg "int" = none) (F : FD K "_law_deck" 8 f fd) : FnG P w K mg base 1 f fd ["_law_script"] (spD K (clOf mg) fn__law_deck) :=
  fn_okD F sc__law_deck fun cdv A outer s H E gd hr => ⟨_, (us_cons (us_par (i := 2) (j := 3) (by rfl) sc__law_deck.nd (ua_cons (u_callTy (call_lists rfl) sn_lists (by rfl) m_list (by decide +kernel) (ua_cons (u_slice (u_var 0 (pv 0)) uo_none (uo_some u_int)) ua_nil)) (ua_cons u_int ua_nil)))
    (us_cons (us_for (passes_of rfl) (by rfl) (ui_any (u_var 2 (pv 2))) (ug_name (i := 1) sc__law_deck.nd) (us_one (us_set (i := 3) sc__law_deck.nd (u_op op_mod sn_mod (u_callTy call_int1 sn_int (by rfl) m_int (by decide +kernel) (ua_cons (u_op op_adds sn_add (u_op op_adds sn_add (u_op op_muls sn_muls (u_var 3 (pv 3)) u_int) (u_op op_mod sn_mod (u_callTy call_int1 sn_int (by rfl) m_int (by decide +kernel) (ua_cons (u_var 1 (pv 1)) ua_nil)) u_int)) u_int) ua_nil)) u_int))))
    (us_one (us_ret (u_dict (ups_cons u_str (u_revS (u_var 2 (pv 2))) (ups_cons u_str (u_var 3 (pv 3)) (ups_cons u_str u_int ups_nil))))))))⟩
def fn__law_draw : Fn := drawF ⟨60223, 223, 69621, 29⟩
def d__law_pick_0 : MS := (sRet (dOp ixD (dVar 1) (dCall fn__law_draw (dCons (dVar 0) (dCons (dCallB (one lenD) (dCons (dVar 1) dNil)) dNil)))))
theorem sc__law_pick : FnScope ["_law_deck_here", "_law_some_here"] ["_law_deck_here", "_law_some_here"] (defScope (top 10)) := ⟨rfl, rfl, rfl, by decide +kernel, rfl, by decide +kernel, by decide +kernel⟩
def d__law_pick : MS := d__law_pick_0
def fn__law_pick : Fn := fnDen 2 2 d__law_pick
theorem ok__law_pick {P : Program} {w : World} {K : PySem.W.Frag} {mg : Str → Option Value} {base : Heap} {f : Addr} {fd : FuncData} {a__law_draw : Addr} {e__law_draw : FuncData} (c__law_draw : Ce P w K mg base 1 "_law_draw" ["_law_deck_here", "_law_many"] fn__law_draw a__law_draw e__law_draw) (m_len : mg "len" = none) (F : FD K "_law_pick" 10 f fd) : FnG P w K mg base 2 f fd ["_law_deck_here", "_law_some_here"] (spD K (clOf mg) fn__law_pick) :=
  fn_okD F sc__law_pick fun cdv A outer s H E gd hr => ⟨_, (us_one (us_ret (u_ix (u_var 1 (pv 1)) (u_call c__law_draw.ok gd (hr.mono (by decide)) c__law_draw.g c__law_draw.k c__law_draw.b (takes_of rfl rfl rfl rfl) (ua_cons (u_var 0 (pv 0)) (ua_cons (u_callB call_lens sn_len (by rfl) m_len PySem.boot_len (ua_cons (u_var 1 (pv 1)) ua_nil)) ua_nil))))))⟩
def d__law_pages_0 : MS := (sPar 3 4 (dCons (dLst (dCons (ep (.str "")) dNil)) (dCons (dLst (dCons (ep (.str "")) dNil)) dNil)))
def d__law_pages_1_b : MS := (ss (sOwn 5 dNil)
    (ss (sFor (dItems (dVar 4)) (mName 6) (sGrow extF 5 (dLc (dItems (dVar 0)) (mName 7) (ep true) (dOp addD (dVar 6) (dVar 7)) [7])))
    (sFrz 5 (sPar 3 4 (dCons (dOp addD (dVar 3) (dVar 5)) (dCons (dVar 5) dNil))))))
def d__law_pages_1 : MS := (sFor (eb (dCons (dVar 1) dNil) fun ds => eo (rng1 ds)) (mName 2) d__law_pages_1_b)
def d__law_pages_2 : MS := (sRet (dVar 3))
theorem sc__law_pages : FnScope ["_law_signs", "_law_most", "_law_turn", "_law_found", "_law_last", "_law_longer", "_law_page_here", "_law_sign"] ["_law_signs", "_law_most"] (defScope (top 11)) := ⟨rfl, rfl, rfl, by decide +kernel, rfl, by decide +kernel, by decide +kernel⟩
def d__law_pages : MS := (ss d__law_pages_0
    (ss d__law_pages_1
    d__law_pages_2))
def fn__law_pages : Fn := fnDen 2 8 d__law_pages
theorem ok__law_pages {P : Program} {w : World} {K : PySem.W.Frag} {mg : Str → Option Value} {base : Heap} {f : Addr} {fd : FuncData} (m_range : mg "range" = none) (F : FD K "_law_pages" 11 f fd) : FnG P w K mg base 1 f fd ["_law_signs", "_law_most"] (spD K (clOf mg) fn__law_pages) :=
  fn_okD F sc__law_pages fun cdv A outer s H E gd hr => ⟨_, (us_cons (us_par (i := 3) (j := 4) (by rfl) sc__law_pages.nd (ua_cons (u_lst (ua_cons u_str ua_nil)) (ua_cons (u_lst (ua_cons u_str ua_nil)) ua_nil)))
    (us_cons (us_for (passes_of rfl) (by rfl) (ui_rng1 (by rfl) m_range (ua_cons (u_var 1 (pv 1)) ua_nil)) (ug_name (i := 2) sc__law_pages.nd) (us_cons (us_own (i := 5) sc__law_pages.nd ua_nil)
    (us_cons (us_for (passes_of rfl) (by rfl) (ui_any (u_var 4 (pv 4))) (ug_name (i := 6) sc__law_pages.nd) (us_one (us_extend (i := 5) (u_lc (by rfl) sc__law_pages.nd (ui_any (u_var 0 (pv 0))) (blkOk_by (own := [("_law_sign", 7)]) (by kernel_rfl)) (by decide) (fun _ _ _ _ _ => (ug_name (i := 7) sc__law_pages.nd)) (fun _ _ _ _ _ => castTs uts_nil) (fun _ _ _ _ _ => castE (u_op op_adds sn_add (u_var 6 (pv 6)) (u_var 7 (pv 7))))) (pv 5))))
    (us_frz 5 (us_one (us_par (i := 3) (j := 4) (by rfl) sc__law_pages.nd (ua_cons (u_op op_adds sn_add (u_var 3 (pv 3)) (u_var 5 (pv 5))) (ua_cons (u_var 5 (pv 5)) ua_nil))))))))
    (us_one (us_ret (u_var 3 (pv 3))))))⟩
def d__law_page_0 : MS := (sRet (dMethT "str" joinD (ep (.str "")) (dCons (dLc (eb (dCons (dCall fn__law_draw (dCons (dVar 0) (dCons (dOp addD (dVar 2) (ep (.int 1))) dNil))) dNil) fun ds => eo (rng1 ds)) (mName 3) (ep true) (dCall fn__law_pick (dCons (dVar 0) (dCons (dVar 1) dNil))) [3]) dNil)))
theorem sc__law_page : FnScope ["_law_deck_here", "_law_signs", "_law_most", "_law_k"] ["_law_deck_here", "_law_signs", "_law_most"] (defScope (top 12)) := ⟨rfl, rfl, rfl, by decide +kernel, rfl, by decide +kernel, by decide +kernel⟩
def d__law_page : MS := d__law_page_0
def fn__law_page : Fn := fnDen 3 4 d__law_page
theorem ok__law_page {P : Program} {w : World} {K : PySem.W.Frag} {mg : Str → Option Value} {base : Heap} {f : Addr} {fd : FuncData} {a__law_draw : Addr} {e__law_draw : FuncData} (c__law_draw : Ce P w K mg base 1 "_law_draw" ["_law_deck_here", "_law_many"] fn__law_draw a__law_draw e__law_draw) {a__law_pick : Addr} {e__law_pick : FuncData} (c__law_pick : Ce P w K mg base 2 "_law_pick" ["_law_deck_here", "_law_some_here"] fn__law_pick a__law_pick e__law_pick) (m_range : mg "range" = none) (F : FD K "_law_page" 12 f fd) : FnG P w K mg base 3 f fd ["_law_deck_here", "_law_signs", "_law_most"] (spD K (clOf mg) fn__law_page) :=
  fn_okD F sc__law_page fun cdv A outer s H E gd hr => ⟨_, (us_one (us_ret (u_meth PySem.F.plainAttrs_str PySem.F.slot_str_join PySem.F.type_str_join mt_join sn_join u_str (ua_cons (u_lc (by rfl) sc__law_page.nd (ui_rng1 (by rfl) m_range (ua_cons (u_call c__law_draw.ok gd (hr.mono (by decide)) c__law_draw.g c__law_draw.k c__law_draw.b (takes_of rfl rfl rfl rfl) (ua_cons (u_var 0 (pv 0)) (ua_cons (u_op op_adds sn_add (u_var 2 (pv 2)) u_int) ua_nil))) ua_nil)) (blkOk_by (own := [("_law_k", 3)]) (by kernel_rfl)) (by decide) (fun _ _ _ _ _ => (ug_name (i := 3) sc__law_page.nd)) (fun _ _ _ _ _ => castTs uts_nil) (fun _ _ _ _ _ => castE (u_call c__law_pick.ok gd (hr.mono (by decide)) c__law_pick.g c__law_pick.k c__law_pick.b takes0 (ua_cons (u_var 0 (pv 0)) (ua_cons (u_var 1 (pv 1)) ua_nil))))) ua_nil))))⟩
def d__law_some_0 : MS := (sAsg (dLst (dCons (ep (.str "0")) (dCons (ep (.str "9")) (dCons (ep (.str "01")) (dCons (ep (.str "0123456789")) (dCons (ep (.str "19")) (dCons (ep (.str "357")) (dCons (ep (.str "10")) (dCons (ep (.str "00")) (dCons (ep (.str "011")) (dCons (ep (.str "")) (dCons (ep (.str "a")) (dCons (ep (.str "0a")) (dCons (ep (.str "-1")) (dCons (ep (.str " 1")) (dCons (ep (.str "1 ")) (dCons (ep (.str "0,1")) (dCons (ep .non) dNil)))))))))))))))))) (mName 1))
def d__law_some_1 : MS := (sAsg (dOp addD (dVar 1) (dLst (dCons (ep (.bl true)) (dCons (dTup dNil) (dCons (dLst dNil) (dCons (dLst (dCons (ep (.str "0")) dNil)) (dCons (dTup (dCons (ep (.str "0")) (dCons (ep (.str "1")) dNil))) (dCons (ep (.dct [])) (dCons (dDict (dPair (ep (.str "0")) (ep (.int 1)) (ep []))) (dCons (dOp powD (ep (.int 10)) (ep (.int 39))) (dCons (ep (.str "0\n")) (dCons (ep (.str "123456789")) (dCons (ep (.str "9876543210")) (dCons (dOp mulsD (ep (.str "x")) (ep (.int 40))) dNil)))))))))))))) (mName 1))
def d__law_some_2 : MS := (sAsg (dMethT "str" joinD (ep (.str "")) (dCons (dLc (dItems (ep (.str "0123456789"))) (mName 3) (dB (dOp (eqD false) (dCall fn__law_draw (dCons (dVar 0) (dCons (ep (.int 2)) dNil))) (ep (.int 0)))) (dVar 3) [3]) dNil)) (mName 2))
def d__law_some_3 : MS := (sRet (dOp addD (dLc (eb (dCons (ep (.int 6)) dNil) fun ds => eo (rng1 ds)) (mName 4) (ep true) (dCall fn__law_pick (dCons (dVar 0) (dCons (dVar 1) dNil))) [4]) (dLst (dCons (dVar 2) (dCons (dUn revD (dVar 2)) (dCons (dOp addD (dVar 2) (dSlice (dVar 2) (eb (dUn negD (ep (.int 1))) fun d => eo (intOf d)) (ep none))) dNil))))))
theorem sc__law_some : FnScope ["_law_deck_here", "_law_some_here", "_law_signs", "_law_sign", "_law_k"] ["_law_deck_here"] (defScope (top 13)) := ⟨rfl, rfl, rfl, by decide +kernel, rfl, by decide +kernel, by decide +kernel⟩
def d__law_some : MS := (ss d__law_some_0
    (ss d__law_some_1
    (ss d__law_some_2
    d__law_some_3)))
def fn__law_some : Fn := fnDen 1 5 d__law_some
theorem ok__law_some {P : Program} {w : World} {K : PySem.W.Frag} {mg : Str → Option Value} {base : Heap} {f : Addr} {fd : FuncData} {a__law_draw : Addr} {e__law_draw : FuncData} (c__law_draw : Ce P w K mg base 1 "_law_draw" ["_law_deck_here", "_law_many"] fn__law_draw a__law_draw e__law_draw) {a__law_pick : Addr} {e__law_pick : FuncData} (c__law_pick : Ce P w K mg base 2 "_law_pick" ["_law_deck_here", "_law_some_here"] fn__law_pick a__law_pick e__law_pick) (m_range : mg "range" = none) (F : FD K "_law_some" 13 f fd) : FnG P w K mg base 3 f fd ["_law_deck_here"] (spD K (clOf mg) fn__law_some) :=
  fn_okD F sc__law_some fun cdv A outer s H E gd hr => ⟨_, (us_cons (us_set (i := 1) sc__law_some.nd (u_lst (ua_cons u_str (ua_cons u_str (ua_cons u_str (ua_cons u_str (ua_cons u_str (ua_cons u_str (ua_cons u_str (ua_cons u_str (ua_cons u_str (ua_cons u_str (ua_cons u_str (ua_cons u_str (ua_cons u_str (ua_cons u_str (ua_cons u_str (ua_cons u_str (ua_cons u_non ua_nil)))))))))))))))))))
    (us_cons (us_set (i := 1) sc__law_some.nd (u_op op_adds sn_add (u_var 1 (pv 1)) (u_lst (ua_cons u_bl (ua_cons (u_tup ua_nil) (ua_cons (u_lst ua_nil) (ua_cons (u_lst (ua_cons u_str ua_nil)) (ua_cons (u_tup (ua_cons u_str (ua_cons u_str ua_nil))) (ua_cons u_dict0 (ua_cons (u_dict (ups_cons u_str u_int ups_nil)) (ua_cons (u_op op_pow sn_pow u_int u_int) (ua_cons u_str (ua_cons u_str (ua_cons u_str (ua_cons (u_op op_muls sn_muls u_str u_int) ua_nil)))))))))))))))
    (us_cons (us_set (i := 2) sc__law_some.nd (u_meth PySem.F.plainAttrs_str PySem.F.slot_str_join PySem.F.type_str_join mt_join sn_join u_str (ua_cons (u_lc (by rfl) sc__law_some.nd (ui_any u_str) (blkOk_by (own := [("_law_sign", 3)]) (by kernel_rfl)) (by decide) (fun _ _ _ _ _ => (ug_name (i := 3) sc__law_some.nd)) (fun _ _ _ _ _ => castTs (uts_one (ut_cmp (op_eqG hr.units) sn_eq (u_call c__law_draw.ok gd (hr.mono (by decide)) c__law_draw.g c__law_draw.k c__law_draw.b takes0 (ua_cons (u_var 0 (pv 0)) (ua_cons u_int ua_nil))) u_int (nomark _)))) (fun _ _ _ _ _ => castE (u_var 3 (pv 3)))) ua_nil)))
    (us_one (us_ret (u_op op_adds sn_add (u_lc (by rfl) sc__law_some.nd (ui_rng1 (by rfl) m_range (ua_cons u_int ua_nil)) (blkOk_by (own := [("_law_k", 4)]) (by kernel_rfl)) (by decide) (fun _ _ _ _ _ => (ug_name (i := 4) sc__law_some.nd)) (fun _ _ _ _ _ => castTs uts_nil) (fun _ _ _ _ _ => castE (u_call c__law_pick.ok gd (hr.mono (by decide)) c__law_pick.g c__law_pick.k c__law_pick.b takes0 (ua_cons (u_var 0 (pv 0)) (ua_cons (u_var 1 (pv 1)) ua_nil))))) (u_lst (ua_cons (u_var 2 (pv 2)) (ua_cons (u_revS (u_var 2 (pv 2))) (ua_cons (u_op op_adds sn_add (u_var 2 (pv 2)) (u_slice (u_var 2 (pv 2)) (uo_some (u_neg' u_int)) uo_none)) ua_nil))))))))))⟩
def d__law_are_signs_0 : MS := (sIf (dOr (dNot (dB (dCallB (isiD) (dCons (dVar 0) (dCons (ep (.ty "str")) dNil))))) (dOr (dNot (dB (dChain leD leD (ep (.int 1)) (dCallB (one lenD) (dCons (dVar 0) dNil)) (ep (.int 10))))) (dB (dOp (eqD true) (dLc (dItems (dVar 0)) (mName 2) (dB (dOp (inD true) (dVar 2) (ep (.str "0123456789")))) (dVar 2) [2]) (dLst dNil))))) (sRet (ep (.bl false))) sNx)
def d__law_are_signs_1 : MS := (sRet (dOp (eqD false) (dLc (eb (dCons (ep (.int 1)) (dCons (dCallB (one lenD) (dCons (dVar 0) dNil)) dNil)) fun ds => eo (rng2 ds)) (mName 1) (dNot (dB (dOp ltD (dOp ixD (dVar 0) (dOp subD (dVar 1) (ep (.int 1)))) (dOp ixD (dVar 0) (dVar 1))))) (dVar 1) [1]) (dLst dNil)))
theorem sc__law_are_signs : FnScope ["_law_it", "_law_k", "_law_sign"] ["_law_it"] (defScope (top 14)) := ⟨rfl, rfl, rfl, by decide +kernel, rfl, by decide +kernel, by decide +kernel⟩
def d__law_are_signs : MS := (ss d__law_are_signs_0
    d__law_are_signs_1)
def fn__law_are_signs : Fn := fnDen 1 3 d__law_are_signs
theorem ok__law_are_signs {P : Program} {w : World} {K : PySem.W.Frag} {mg : Str → Option Value} {base : Heap} {f : Addr} {fd : FuncData} (m_str : mg "str" = none) (m_isinstance : mg "isinstance" = none) (m_len : mg "len" = none) (m_range : mg "range" = none) (F : FD K "_law_are_signs" 14 f fd) : FnG P w K mg base 1 f fd ["_law_it"] (spD K (clOf mg) fn__law_are_signs) :=
  fn_okD F sc__law_are_signs fun cdv A outer s H E gd hr => ⟨_, (us_cons (us_if (UW.ut (uw_or (ut_not (ut_val (u_callB call_isi sn_isi (by rfl) m_isinstance (by decide +kernel) (ua_cons (u_var 0 (pv 0)) (ua_cons (u_ty (by rfl) m_str (by decide +kernel)) ua_nil))))) (uw_or (ut_not (ut_chain op_le op_le sn_le sn_le u_int (u_callB call_lens sn_len (by rfl) m_len PySem.boot_len (ua_cons (u_var 0 (pv 0)) ua_nil)) u_int)) (uw_or1 (ut_cmp (op_neG hr.units) sn_eq (u_lc (by rfl) sc__law_are_signs.nd (ui_any (u_var 0 (pv 0))) (blkOk_by (own := [("_law_sign", 2)]) (by kernel_rfl)) (by decide) (fun _ _ _ _ _ => (ug_name (i := 2) sc__law_are_signs.nd)) (fun _ _ _ _ _ => castTs (uts_one (ut_cmp (op_notIns (hu65 hr)) sn_notIn (u_var 2 (pv 2)) u_str rfl))) (fun _ _ _ _ _ => castE (u_var 2 (pv 2)))) (u_lst ua_nil) (nomark _)))))) (us_one (us_ret u_bl)) us_nil)
    (us_one (us_ret (u_cmp (op_eqG hr.units) sn_eq (u_lc (by rfl) sc__law_are_signs.nd (ui_rng2 (by rfl) m_range (ua_cons u_int (ua_cons (u_callB call_lens sn_len (by rfl) m_len PySem.boot_len (ua_cons (u_var 0 (pv 0)) ua_nil)) ua_nil))) (blkOk_by (own := [("_law_k", 1)]) (by kernel_rfl)) (by decide) (fun _ _ _ _ _ => (ug_name (i := 1) sc__law_are_signs.nd)) (fun _ _ _ _ _ => castTs (uts_one (ut_not (ut_cmp (op_lts hr.units) sn_lt (u_ix (u_var 0 (pv 0)) (u_op op_sub sn_sub (u_var 1 (pv 1)) u_int)) (u_ix (u_var 0 (pv 0)) (u_var 1 (pv 1))) (nomark _))))) (fun _ _ _ _ _ => castE (u_var 1 (pv 1)))) (u_lst ua_nil) (nomark _)))))⟩
def d__law_is_page_0 : MS := (sRet (dAndV (dCallB (isiD) (dCons (dVar 1) (dCons (ep (.ty "str")) dNil))) (dOp (eqD false) (dLc (dItems (dVar 1)) (mName 2) (dB (dOp (inD true) (dVar 2) (dVar 0))) (dVar 2) [2]) (dLst dNil))))
theorem sc__law_is_page : FnScope ["_law_signs", "_law_it", "_law_sign"] ["_law_signs", "_law_it"] (defScope (top 15)) := ⟨rfl, rfl, rfl, by decide +kernel, rfl, by decide +kernel, by decide +kernel⟩
def d__law_is_page : MS := d__law_is_page_0
def fn__law_is_page : Fn := fnDen 2 3 d__law_is_page
theorem ok__law_is_page {P : Program} {w : World} {K : PySem.W.Frag} {mg : Str → Option Value} {base : Heap} {f : Addr} {fd : FuncData} (m_str : mg "str" = none) (m_isinstance : mg "isinstance" = none) (F : FD K "_law_is_page" 15 f fd) : FnG P w K mg base 1 f fd ["_law_signs", "_law_it"] (spD K (clOf mg) fn__law_is_page) :=
  fn_okD F sc__law_is_page fun cdv A outer s H E gd hr => ⟨_, (us_one (us_ret (u_and (u_callB call_isi sn_isi (by rfl) m_isinstance (by decide +kernel) (ua_cons (u_var 1 (pv 1)) (ua_cons (u_ty (by rfl) m_str (by decide +kernel)) ua_nil))) (u_one (u_cmp (op_eqG hr.units) sn_eq (u_lc (by rfl) sc__law_is_page.nd (ui_any (u_var 1 (pv 1))) (blkOk_by (own := [("_law_sign", 2)]) (by kernel_rfl)) (by decide) (fun _ _ _ _ _ => (ug_name (i := 2) sc__law_is_page.nd)) (fun _ _ _ _ _ => castTs (uts_one (ut_cmp (op_notIns (hu65 hr)) sn_notIn (u_var 2 (pv 2)) (u_var 0 (pv 0)) rfl))) (fun _ _ _ _ _ => castE (u_var 2 (pv 2)))) (u_lst ua_nil) (nomark _))))))⟩
def d__law_tickets_right_0 : MS := (sAsg (dCall fn__law_page (dCons (dVar 0) (dCons (dVar 1) (dCons (ep (.int 30)) dNil)))) (mName 2))
def d__law_tickets_right_1 : MS := (sAsg (dLst (dCons (dVar 2) (dCons (ep (.str "")) (dCons (dOp addD (dVar 2) (ep (.str "x"))) (dCons (dOp addD (ep (.str " ")) (dVar 2)) (dCons (dOp addD (dVar 2) (ep (.str "0"))) (dCons (dOp addD (dVar 2) (ep (.str "7"))) (dCons (ep .non) (dCons (ep (.int 0)) (dCons (dTup (dCons (dVar 2) dNil)) (dCons (dLst (dCons (dVar 2) dNil)) (dCons (ep (.bl true)) (dCons (ep (.dct [])) (dCons (ep (.str "\n")) dNil)))))))))))))) (mName 3))
def d__law_tickets_right_2_b : MS := (ss (sPar 6 7 (dCons (dCallB (one reprD) (dCons (dVar 4) dNil)) (dCons (dCall fn__law_is_page (dCons (dVar 1) (dCons (dVar 4) dNil))) dNil)))
    (ss (sAsg (dLst (dCons (dCall fn_is_ticket (dCons (dVar 1) (dCons (dVar 4) dNil))) (dCons (dCallK fn_is_ticket 0 2 (perm [1, 0]) dNil (dCons (dVar 4) (dCons (dVar 1) dNil))) dNil))) (mName 5))
    (sIf (dOr (dB (dOp (eqD true) (dCallB (one reprD) (dCons (dVar 5) dNil)) (dCallB (one reprD) (dCons (dLst (dCons (dVar 7) (dCons (dVar 7) dNil))) dNil)))) (dB (dOp (eqD true) (dCallB (one reprD) (dCons (dVar 4) dNil)) (dVar 6)))) (sRet (ep (.bl false))) sNx)))
def d__law_tickets_right_2 : MS := (sFor (dItems (dOp addD (dVar 3) (dLst (dCons (dCallB (one lstsD) (dCons (dVar 2) dNil)) dNil)))) (mName 4) d__law_tickets_right_2_b)
def d__law_tickets_right_3 : MS := (sRet (ep (.bl true)))
theorem sc__law_tickets_right : FnScope ["_law_deck_here", "_law_signs", "_law_page_here", "_law_some_here", "_law_it", "_law_told", "_law_was", "_law_due"] ["_law_deck_here", "_law_signs"] (defScope (top 16)) := ⟨rfl, rfl, rfl, by decide +kernel, rfl, by decide +kernel, by decide +kernel⟩
def d__law_tickets_right : MS := (ss d__law_tickets_right_0
    (ss d__law_tickets_right_1
    (ss d__law_tickets_right_2
    d__law_tickets_right_3)))
def fn__law_tickets_right : Fn := fnDen 2 8 d__law_tickets_right
theorem kb_is_ticket_1_0 {K : PySem.W.Frag} {f : Addr} {fd : FuncData} (F : FD K "is_ticket" 3 f fd) : KBn K fd ["digits", "thing"] 0 ["thing", "digits"] (permU [1, 0]) (permV [1, 0]) :=
  kb_of [1, 0] F (fun _ _ _ _ _ _ us ws l1 l2 => match us, ws, l1, l2 with | [], [_, _], _, _ => rfl)
theorem ok__law_tickets_right {P : Program} {w : World} {K : PySem.W.Frag} {mg : Str → Option Value} {base : Heap} {f : Addr} {fd : FuncData} {a__law_page : Addr} {e__law_page : FuncData} (c__law_page : Ce P w K mg base 3 "_law_page" ["_law_deck_here", "_law_signs", "_law_most"] fn__law_page a__law_page e__law_page) {a__law_is_page : Addr} {e__law_is_page : FuncData} (c__law_is_page : Ce P w K mg base 1 "_law_is_page" ["_law_signs", "_law_it"] fn__law_is_page a__law_is_page e__law_is_page) {a_is_ticket : Addr} {e_is_ticket : FuncData} (c_is_ticket : Ce P w K mg base 1 "is_ticket" ["digits", "thing"] fn_is_ticket a_is_ticket e_is_ticket) (F_is_ticket : FD K "is_ticket" 3 a_is_ticket e_is_ticket) (m_list : mg "list" = none) (m_repr : mg "repr" = none) (F : FD K "_law_tickets_right" 16 f fd) : FnG P w K mg base 4 f fd ["_law_deck_here", "_law_signs"] (spD K (clOf mg) fn__law_tickets_right) :=
  fn_okD F sc__law_tickets_right fun cdv A outer s H E gd hr => ⟨_, (us_cons (us_set (i := 2) sc__law_tickets_right.nd (u_call c__law_page.ok gd (hr.mono (by decide)) c__law_page.g c__law_page.k c__law_page.b (takes_of rfl rfl rfl rfl) (ua_cons (u_var 0 (pv 0)) (ua_cons (u_var 1 (pv 1)) (ua_cons u_int ua_nil)))))
    (us_cons (us_set (i := 3) sc__law_tickets_right.nd (u_lst (ua_cons (u_var 2 (pv 2)) (ua_cons u_str (ua_cons (u_op op_adds sn_add (u_var 2 (pv 2)) u_str) (ua_cons (u_op op_adds sn_add u_str (u_var 2 (pv 2))) (ua_cons (u_op op_adds sn_add (u_var 2 (pv 2)) u_str) (ua_cons (u_op op_adds sn_add (u_var 2 (pv 2)) u_str) (ua_cons u_non (ua_cons u_int (ua_cons (u_tup (ua_cons (u_var 2 (pv 2)) ua_nil)) (ua_cons (u_lst (ua_cons (u_var 2 (pv 2)) ua_nil)) (ua_cons u_bl (ua_cons u_dict0 (ua_cons u_str ua_nil)))))))))))))))
    (us_cons (us_for (passes_of rfl) (by rfl) (ui_any (u_op op_adds sn_add (u_var 3 (pv 3)) (u_lst (ua_cons (u_callTy (call_lists rfl) sn_lists (by rfl) m_list (by decide +kernel) (ua_cons (u_var 2 (pv 2)) ua_nil)) ua_nil)))) (ug_name (i := 4) sc__law_tickets_right.nd) (us_cons (us_par (i := 6) (j := 7) (by rfl) sc__law_tickets_right.nd (ua_cons (u_callB (call_reprG gd hr) sn_repr (by rfl) m_repr (by decide +kernel) (ua_cons (u_var 4 (pv 4)) ua_nil)) (ua_cons (u_call c__law_is_page.ok gd (hr.mono (by decide)) c__law_is_page.g c__law_is_page.k c__law_is_page.b (takes_of rfl rfl rfl rfl) (ua_cons (u_var 1 (pv 1)) (ua_cons (u_var 4 (pv 4)) ua_nil))) ua_nil)))
    (us_cons (us_set (i := 5) sc__law_tickets_right.nd (u_lst (ua_cons (u_call c_is_ticket.ok gd (hr.mono (by decide)) c_is_ticket.g c_is_ticket.k c_is_ticket.b (takes_of rfl rfl rfl rfl) (ua_cons (u_var 1 (pv 1)) (ua_cons (u_var 4 (pv 4)) ua_nil))) (ua_cons (u_callK0 c_is_ticket.ok gd (hr.mono (by decide)) c_is_ticket.g c_is_ticket.k (kb_is_ticket_1_0 F_is_ticket) (per_of [1, 0]) (takes_of rfl rfl rfl rfl) (uk_cons (u_var 4 (pv 4)) (uk_cons (u_var 1 (pv 1)) uk_nil))) ua_nil))))
    (us_one (us_if (UW.ut (uw_or (ut_cmp (op_neG hr.units) sn_eq (u_callB (call_reprG gd hr) sn_repr (by rfl) m_repr (by decide +kernel) (ua_cons (u_var 5 (pv 5)) ua_nil)) (u_callB (call_reprG gd hr) sn_repr (by rfl) m_repr (by decide +kernel) (ua_cons (u_lst (ua_cons (u_var 7 (pv 7)) (ua_cons (u_var 7 (pv 7)) ua_nil))) ua_nil)) (nomark _)) (uw_or1 (ut_cmp (op_neG hr.units) sn_eq (u_callB (call_reprG gd hr) sn_repr (by rfl) m_repr (by decide +kernel) (ua_cons (u_var 4 (pv 4)) ua_nil)) (u_var 6 (pv 6)) (nomark _))))) (us_one (us_ret u_bl)) us_nil)))))
    (us_one (us_ret u_bl)))))⟩
def d__law_rolls_right_0 : MS := (sAsg (dCall fn__law_pages (dCons (dVar 1) (dCons (ep (.int 3)) dNil))) (mName 2))
def d__law_rolls_right_1_b : MS := (ss (sAsg (dCallB (one tupD) (dCons (dLc (dItems (dVar 2)) (mName 9) (dB (dOp (eqD false) (dCallB (one lenD) (dCons (dVar 9) dNil)) (dVar 3))) (dVar 9) [9]) dNil)) (mName 5))
    (sIf (dB (dOp (eqD true) (dCallB (one reprD) (dCons (dLst (dCons (dCall fn_roll (dCons (dVar 1) (dCons (dVar 3) dNil))) (dCons (dCallK fn_roll 0 2 (perm [1, 0]) dNil (dCons (dVar 3) (dCons (dVar 1) dNil))) dNil))) dNil)) (dCallB (one reprD) (dCons (dLst (dCons (dVar 5) (dCons (dVar 5) dNil))) dNil)))) (sRet (ep (.bl false))) sNx))
def d__law_rolls_right_1 : MS := (sFor (eb (dCons (ep (.int 4)) dNil) fun ds => eo (rng1 ds)) (mName 3) d__law_rolls_right_1_b)
def d__law_rolls_right_2_b : MS := (ss (sPar 7 8 (dCons (dCall fn__law_pick (dCons (dVar 0) (dCons (dVar 2) dNil))) (dCons (dCall fn__law_pick (dCons (dVar 0) (dCons (dVar 2) dNil))) dNil)))
    (ss (sAsg (dOp ltD (dMethT "list" indexD (dVar 2) (dCons (dVar 7) dNil)) (dMethT "list" indexD (dVar 2) (dCons (dVar 8) dNil))) (mName 5))
    (ss (sAsg (dLst (dCons (dCall fn_is_ahead (dCons (dVar 7) (dCons (dVar 8) dNil))) (dCons (dCallK fn_is_ahead 0 2 (perm [1, 0]) dNil (dCons (dVar 8) (dCons (dVar 7) dNil))) (dCons (dCall fn_is_ahead (dCons (dVar 7) (dCons (dVar 7) dNil))) dNil)))) (mName 6))
    (sIf (dB (dOp (eqD true) (dCallB (one reprD) (dCons (dVar 6) dNil)) (dCallB (one reprD) (dCons (dLst (dCons (dVar 5) (dCons (dVar 5) (dCons (ep (.bl false)) dNil)))) dNil)))) (sRet (ep (.bl false))) sNx))))
def d__law_rolls_right_2 : MS := (sFor (eb (dCons (ep (.int 8)) dNil) fun ds => eo (rng1 ds)) (mName 4) d__law_rolls_right_2_b)
def d__law_rolls_right_3 : MS := (sRet (ep (.bl true)))
theorem sc__law_rolls_right : FnScope ["_law_deck_here", "_law_signs", "_law_every", "_law_size", "_law_turn", "_law_due", "_law_told", "_law_near", "_law_far", "_law_page_here"] ["_law_deck_here", "_law_signs"] (defScope (top 17)) := ⟨rfl, rfl, rfl, by decide +kernel, rfl, by decide +kernel, by decide +kernel⟩
def d__law_rolls_right : MS := (ss d__law_rolls_right_0
    (ss d__law_rolls_right_1
    (ss d__law_rolls_right_2
    d__law_rolls_right_3)))
def fn__law_rolls_right : Fn := fnDen 2 10 d__law_rolls_right
theorem kb_is_ahead_1_0 {K : PySem.W.Frag} {f : Addr} {fd : FuncData} (F : FD K "is_ahead" 5 f fd) : KBn K fd ["one", "other"] 0 ["other", "one"] (permU [1, 0]) (permV [1, 0]) :=
  kb_of [1, 0] F (fun _ _ _ _ _ _ us ws l1 l2 => match us, ws, l1, l2 with | [], [_, _], _, _ => rfl)
theorem kb_roll_1_0 {K : PySem.W.Frag} {f : Addr} {fd : FuncData} (F : FD K "roll" 6 f fd) : KBn K fd ["digits", "length"] 0 ["length", "digits"] (permU [1, 0]) (permV [1, 0]) :=
  kb_of [1, 0] F (fun _ _ _ _ _ _ us ws l1 l2 => match us, ws, l1, l2 with | [], [_, _], _, _ => rfl)
theorem ok__law_rolls_right {P : Program} {w : World} {K : PySem.W.Frag} {mg : Str → Option Value} {base : Heap} {f : Addr} {fd : FuncData} {a__law_pages : Addr} {e__law_pages : FuncData} (c__law_pages : Ce P w K mg base 1 "_law_pages" ["_law_signs", "_law_most"] fn__law_pages a__law_pages e__law_pages) {a_roll : Addr} {e_roll : FuncData} (c_roll : Ce P w K mg base 1 "roll" ["digits", "length"] fn_roll a_roll e_roll) {a__law_pick : Addr} {e__law_pick : FuncData} (c__law_pick : Ce P w K mg base 2 "_law_pick" ["_law_deck_here", "_law_some_here"] fn__law_pick a__law_pick e__law_pick) {a_is_ahead : Addr} {e_is_ahead : FuncData} (c_is_ahead : Ce P w K mg base 2 "is_ahead" ["one", "other"] fn_is_ahead a_is_ahead e_is_ahead) (F_roll : FD K "roll" 6 a_roll e_roll) (F_is_ahead : FD K "is_ahead" 5 a_is_ahead e_is_ahead) (m_range : mg "range" = none) (m_len : mg "len" = none) (m_tuple : mg "tuple" = none) (m_repr : mg "repr" = none) (F : FD K "_law_rolls_right" 17 f fd) : FnG P w K mg base 3 f fd ["_law_deck_here", "_law_signs"] (spD K (clOf mg) fn__law_rolls_right) :=
  fn_okD F sc__law_rolls_right fun cdv A outer s H E gd hr => ⟨_, (us_cons (us_set (i := 2) sc__law_rolls_right.nd (u_call c__law_pages.ok gd (hr.mono (by decide)) c__law_pages.g c__law_pages.k c__law_pages.b (takes_of rfl rfl rfl rfl) (ua_cons (u_var 1 (pv 1)) (ua_cons u_int ua_nil))))
    (us_cons (us_for (passes_of rfl) (by rfl) (ui_rng1 (by rfl) m_range (ua_cons u_int ua_nil)) (ug_name (i := 3) sc__law_rolls_right.nd) (us_cons (us_set (i := 5) sc__law_rolls_right.nd (u_callTy call_tuple_of sn_tup (by rfl) m_tuple (by decide +kernel) (ua_cons (u_lc (by rfl) sc__law_rolls_right.nd (ui_any (u_var 2 (pv 2))) (blkOk_by (own := [("_law_page_here", 9)]) (by kernel_rfl)) (by decide) (fun _ _ _ _ _ => (ug_name (i := 9) sc__law_rolls_right.nd)) (fun _ _ _ _ _ => castTs (uts_one (ut_cmp (op_eqG hr.units) sn_eq (u_callB call_lens sn_len (by rfl) m_len PySem.boot_len (ua_cons (u_var 9 (pv 9)) ua_nil)) (u_var 3 (pv 3)) (nomark _)))) (fun _ _ _ _ _ => castE (u_var 9 (pv 9)))) ua_nil)))
    (us_one (us_if (ut_cmp (op_neG hr.units) sn_eq (u_callB (call_reprG gd hr) sn_repr (by rfl) m_repr (by decide +kernel) (ua_cons (u_lst (ua_cons (u_call c_roll.ok gd (hr.mono (by decide)) c_roll.g c_roll.k c_roll.b (takes_of rfl rfl rfl rfl) (ua_cons (u_var 1 (pv 1)) (ua_cons (u_var 3 (pv 3)) ua_nil))) (ua_cons (u_callK0 c_roll.ok gd (hr.mono (by decide)) c_roll.g c_roll.k (kb_roll_1_0 F_roll) (per_of [1, 0]) (takes_of rfl rfl rfl rfl) (uk_cons (u_var 3 (pv 3)) (uk_cons (u_var 1 (pv 1)) uk_nil))) ua_nil))) ua_nil)) (u_callB (call_reprG gd hr) sn_repr (by rfl) m_repr (by decide +kernel) (ua_cons (u_lst (ua_cons (u_var 5 (pv 5)) (ua_cons (u_var 5 (pv 5)) ua_nil))) ua_nil)) (nomark _)) (us_one (us_ret u_bl)) us_nil))))
    (us_cons (us_for (passes_of rfl) (by rfl) (ui_rng1 (by rfl) m_range (ua_cons u_int ua_nil)) (ug_name (i := 4) sc__law_rolls_right.nd) (us_cons (us_par (i := 7) (j := 8) (by rfl) sc__law_rolls_right.nd (ua_cons (u_call c__law_pick.ok gd (hr.mono (by decide)) c__law_pick.g c__law_pick.k c__law_pick.b (takes_of rfl rfl rfl rfl) (ua_cons (u_var 0 (pv 0)) (ua_cons (u_var 2 (pv 2)) ua_nil))) (ua_cons (u_call c__law_pick.ok gd (hr.mono (by decide)) c__law_pick.g c__law_pick.k c__law_pick.b (takes_of rfl rfl rfl rfl) (ua_cons (u_var 0 (pv 0)) (ua_cons (u_var 2 (pv 2)) ua_nil))) ua_nil)))
    (us_cons (us_set (i := 5) sc__law_rolls_right.nd (u_cmp (op_lts hr.units) sn_lt (u_meth PySem.F.plainAttrs_list PySem.F.slot_list_index PySem.F.type_list_index (mt_indexD (hu65 hr)) sn_index (u_var 2 (pv 2)) (ua_cons (u_var 7 (pv 7)) ua_nil)) (u_meth PySem.F.plainAttrs_list PySem.F.slot_list_index PySem.F.type_list_index (mt_indexD (hu65 hr)) sn_index (u_var 2 (pv 2)) (ua_cons (u_var 8 (pv 8)) ua_nil)) (nomark _)))
    (us_cons (us_set (i := 6) sc__law_rolls_right.nd (u_lst (ua_cons (u_call c_is_ahead.ok gd (hr.mono (by decide)) c_is_ahead.g c_is_ahead.k c_is_ahead.b (takes_of rfl rfl rfl rfl) (ua_cons (u_var 7 (pv 7)) (ua_cons (u_var 8 (pv 8)) ua_nil))) (ua_cons (u_callK0 c_is_ahead.ok gd (hr.mono (by decide)) c_is_ahead.g c_is_ahead.k (kb_is_ahead_1_0 F_is_ahead) (per_of [1, 0]) (takes_of rfl rfl rfl rfl) (uk_cons (u_var 8 (pv 8)) (uk_cons (u_var 7 (pv 7)) uk_nil))) (ua_cons (u_call c_is_ahead.ok gd (hr.mono (by decide)) c_is_ahead.g c_is_ahead.k c_is_ahead.b (takes_of rfl rfl rfl rfl) (ua_cons (u_var 7 (pv 7)) (ua_cons (u_var 7 (pv 7)) ua_nil))) ua_nil)))))
    (us_one (us_if (ut_cmp (op_neG hr.units) sn_eq (u_callB (call_reprG gd hr) sn_repr (by rfl) m_repr (by decide +kernel) (ua_cons (u_var 6 (pv 6)) ua_nil)) (u_callB (call_reprG gd hr) sn_repr (by rfl) m_repr (by decide +kernel) (ua_cons (u_lst (ua_cons (u_var 5 (pv 5)) (ua_cons (u_var 5 (pv 5)) (ua_cons u_bl ua_nil)))) ua_nil)) (nomark _)) (us_one (us_ret u_bl)) us_nil))))))
    (us_one (us_ret u_bl)))))⟩
def d_law_0_b : MS := (ss (sPar 5 6 (dCons (dCallB (one reprD) (dCons (dVar 2) dNil)) (dCons (dCall fn__law_are_signs (dCons (dVar 2) dNil)) dNil)))
    (sIf (dOr (dB (dOp (eqD true) (dCallB (one reprD) (dCons (dLst (dCons (dCall fn_are_digits (dCons (dVar 2) dNil)) (dCons (dCallK fn_are_digits 0 1 (perm [0]) dNil (dCons (dVar 2) dNil)) dNil))) dNil)) (dCallB (one reprD) (dCons (dLst (dCons (dVar 6) (dCons (dVar 6) dNil))) dNil)))) (dB (dOp (eqD true) (dCallB (one reprD) (dCons (dVar 2) dNil)) (dVar 5)))) (sRet (ep (.bl false))) sNx))
def d_law_0 : MS := (sFor (dItems (dCall fn__law_some (dCons (dVar 1) dNil))) (mName 2) d_law_0_b)
def d_law_1_b : MS := (sIf (dOr (dNot (dB (dCall fn__law_tickets_right (dCons (dVar 1) (dCons (dVar 3) dNil))))) (dAnd (dB (dOp ltD (dCallB (one lenD) (dCons (dVar 3) dNil)) (ep (.int 10)))) (dNot (dB (dCall fn__law_rolls_right (dCons (dVar 1) (dCons (dVar 3) dNil))))))) (sRet (ep (.bl false))) sNx)
def d_law_1 : MS := (sFor (dItems (dTup (dCons (dCall fn__law_pick (dCons (dVar 1) (dCons (dLst (dCons (ep (.str "01")) (dCons (ep (.str "0")) (dCons (ep (.str "9")) (dCons (ep (.str "38")) (dCons (ep (.str "012")) dNil)))))) dNil))) (dCons (dCall fn__law_pick (dCons (dVar 1) (dCons (dLst (dCons (ep (.str "012")) (dCons (ep (.str "1357")) (dCons (ep (.str "0123456789")) (dCons (ep (.str "48")) dNil))))) dNil))) dNil)))) (mName 3) d_law_1_b)
def d_law_2 : MS := (sAsg (dCall fn__law_pick (dCons (dVar 1) (dCons (dLst (dCons (dTup (dCons (ep (.str "0123456789")) (dCons (ep (.int 3)) dNil))) (dCons (dTup (dCons (ep (.str "01")) (dCons (ep (.int 9)) dNil))) (dCons (dTup (dCons (ep (.str "012")) (dCons (ep (.int 6)) dNil))) dNil)))) dNil))) (mTup 2 (mCons (mName 3) (mCons (mName 4) mNil))))
def d_law_3 : MS := (sRet (dOp (eqD false) (dCallB (one lstsD) (dCons (dCall fn_roll (dCons (dVar 3) (dCons (dVar 4) dNil))) dNil)) (dLc (dItems (dCall fn__law_pages (dCons (dVar 3) (dCons (dVar 4) dNil)))) (mName 7) (dB (dOp (eqD false) (dCallB (one lenD) (dCons (dVar 7) dNil)) (dVar 4))) (dVar 7) [7])))
theorem sc_law : FnScope ["_law_script", "_law_deck_here", "_law_it", "_law_signs", "_law_size", "_law_was", "_law_due", "_law_page_here"] ["_law_script"] (defScope (top 18)) := ⟨rfl, rfl, rfl, by decide +kernel, rfl, by decide +kernel, by decide +kernel⟩
def d_law : MS := (ss d_law_0
    (ss d_law_1
    (ss d_law_2
    d_law_3)))
def d_first : ME D := (dCall fn__law_deck (dCons (dVar 0) dNil))
theorem kb_are_digits_0 {K : PySem.W.Frag} {f : Addr} {fd : FuncData} (F : FD K "are_digits" 2 f fd) : KBn K fd ["thing"] 0 ["thing"] (permU [0]) (permV [0]) :=
  kb_of [0] F (fun _ _ _ _ _ _ us ws l1 l2 => match us, ws, l1, l2 with | [], [_], _, _ => rfl)
theorem ok_law {P : Program} {w : World} {K : PySem.W.Frag} {mg : Str → Option Value} {base : Heap} {f : Addr} {fd : FuncData} {a__law_some : Addr} {e__law_some : FuncData} (c__law_some : Ce P w K mg base 3 "_law_some" ["_law_deck_here"] fn__law_some a__law_some e__law_some) {a__law_are_signs : Addr} {e__law_are_signs : FuncData} (c__law_are_signs : Ce P w K mg base 1 "_law_are_signs" ["_law_it"] fn__law_are_signs a__law_are_signs e__law_are_signs) {a_are_digits : Addr} {e_are_digits : FuncData} (c_are_digits : Ce P w K mg base 1 "are_digits" ["thing"] fn_are_digits a_are_digits e_are_digits) {a__law_pick : Addr} {e__law_pick : FuncData} (c__law_pick : Ce P w K mg base 2 "_law_pick" ["_law_deck_here", "_law_some_here"] fn__law_pick a__law_pick e__law_pick) {a__law_tickets_right : Addr} {e__law_tickets_right : FuncData} (c__law_tickets_right : Ce P w K mg base 4 "_law_tickets_right" ["_law_deck_here", "_law_signs"] fn__law_tickets_right a__law_tickets_right e__law_tickets_right) {a__law_rolls_right : Addr} {e__law_rolls_right : FuncData} (c__law_rolls_right : Ce P w K mg base 3 "_law_rolls_right" ["_law_deck_here", "_law_signs"] fn__law_rolls_right a__law_rolls_right e__law_rolls_right) {a_roll : Addr} {e_roll : FuncData} (c_roll : Ce P w K mg base 1 "roll" ["digits", "length"] fn_roll a_roll e_roll) {a__law_pages : Addr} {e__law_pages : FuncData} (c__law_pages : Ce P w K mg base 1 "_law_pages" ["_law_signs", "_law_most"] fn__law_pages a__law_pages e__law_pages) {a__law_deck : Addr} {e__law_deck : FuncData} (c__law_deck : Ce P w K mg base 1 "_law_deck" ["_law_script"] fn__law_deck a__law_deck e__law_deck) (F_are_digits : FD K "are_digits" 2 a_are_digits e_are_digits) (m_repr : mg "repr" = none) (m_len : mg "len" = none) (m_list : mg "list" = none) (F : FD K "law" 18 f fd) (law : ∀ ns : List Int, ns.length ≤ 63 → ∃ cs m t, d_first (.val (.scr ns) :: List.replicate 7 .emp) none = .ok (deckD cs m t) none ∧ ∃ k', d_law (.val (.scr ns) :: .val .deck :: List.replicate 6 .emp) (some ⟨cs, m, t⟩) = .ret (.bl true) k') : FnG P w K mg base 5 f fd ["_law_script"] (spL K 63) :=
  fn_law F sc_law rfl (fun cdv A outer s H E gd hr => (fun u => ⟨_, us_set (i := 1) sc_law.nd u, u.sn⟩) (u_call c__law_deck.ok gd (hr.mono (by decide)) c__law_deck.g c__law_deck.k c__law_deck.b (takes_of rfl rfl rfl rfl) (ua_cons (u_var 0 (pv 0)) ua_nil))) (fun cdv A outer s H E gd hr => ⟨_, (us_cons (us_for (passes_of rfl) (by rfl) (ui_any (u_call c__law_some.ok gd (hr.mono (by decide)) c__law_some.g c__law_some.k c__law_some.b (takes_of rfl rfl rfl rfl) (ua_cons (u_var 1 (pv 1)) ua_nil))) (ug_name (i := 2) sc_law.nd) (us_cons (us_par (i := 5) (j := 6) (by rfl) sc_law.nd (ua_cons (u_callB (call_reprG gd hr) sn_repr (by rfl) m_repr (by decide +kernel) (ua_cons (u_var 2 (pv 2)) ua_nil)) (ua_cons (u_call c__law_are_signs.ok gd (hr.mono (by decide)) c__law_are_signs.g c__law_are_signs.k c__law_are_signs.b (takes_of rfl rfl rfl rfl) (ua_cons (u_var 2 (pv 2)) ua_nil)) ua_nil)))
    (us_one (us_if (UW.ut (uw_or (ut_cmp (op_neG hr.units) sn_eq (u_callB (call_reprG gd hr) sn_repr (by rfl) m_repr (by decide +kernel) (ua_cons (u_lst (ua_cons (u_call c_are_digits.ok gd (hr.mono (by decide)) c_are_digits.g c_are_digits.k c_are_digits.b (takes_of rfl rfl rfl rfl) (ua_cons (u_var 2 (pv 2)) ua_nil)) (ua_cons (u_callK0 c_are_digits.ok gd (hr.mono (by decide)) c_are_digits.g c_are_digits.k (kb_are_digits_0 F_are_digits) (per_of [0]) (takes_of rfl rfl rfl rfl) (uk_cons (u_var 2 (pv 2)) uk_nil)) ua_nil))) ua_nil)) (u_callB (call_reprG gd hr) sn_repr (by rfl) m_repr (by decide +kernel) (ua_cons (u_lst (ua_cons (u_var 6 (pv 6)) (ua_cons (u_var 6 (pv 6)) ua_nil))) ua_nil)) (nomark _)) (uw_or1 (ut_cmp (op_neG hr.units) sn_eq (u_callB (call_reprG gd hr) sn_repr (by rfl) m_repr (by decide +kernel) (ua_cons (u_var 2 (pv 2)) ua_nil)) (u_var 5 (pv 5)) (nomark _))))) (us_one (us_ret u_bl)) us_nil))))
    (us_cons (us_for (passes_of rfl) (by rfl) (ui_any (u_tup (ua_cons (u_call c__law_pick.ok gd (hr.mono (by decide)) c__law_pick.g c__law_pick.k c__law_pick.b (takes_of rfl rfl rfl rfl) (ua_cons (u_var 1 (pv 1)) (ua_cons (u_lst (ua_cons u_str (ua_cons u_str (ua_cons u_str (ua_cons u_str (ua_cons u_str ua_nil)))))) ua_nil))) (ua_cons (u_call c__law_pick.ok gd (hr.mono (by decide)) c__law_pick.g c__law_pick.k c__law_pick.b (takes_of rfl rfl rfl rfl) (ua_cons (u_var 1 (pv 1)) (ua_cons (u_lst (ua_cons u_str (ua_cons u_str (ua_cons u_str (ua_cons u_str ua_nil))))) ua_nil))) ua_nil)))) (ug_name (i := 3) sc_law.nd) (us_one (us_if (UW.ut (uw_or (ut_not (ut_val (u_call c__law_tickets_right.ok gd (hr.mono (by decide)) c__law_tickets_right.g c__law_tickets_right.k c__law_tickets_right.b (takes_of rfl rfl rfl rfl) (ua_cons (u_var 1 (pv 1)) (ua_cons (u_var 3 (pv 3)) ua_nil))))) (uw_or1 (UW.ut (uw_and (ut_cmp (op_lts hr.units) sn_lt (u_callB call_lens sn_len (by rfl) m_len PySem.boot_len (ua_cons (u_var 3 (pv 3)) ua_nil)) u_int (nomark _)) (uw_and1 (ut_not (ut_val (u_call c__law_rolls_right.ok gd (hr.mono (by decide)) c__law_rolls_right.g c__law_rolls_right.k c__law_rolls_right.b (takes_of rfl rfl rfl rfl) (ua_cons (u_var 1 (pv 1)) (ua_cons (u_var 3 (pv 3)) ua_nil))))))))))) (us_one (us_ret u_bl)) us_nil)))
    (us_cons (us_asg (u_call c__law_pick.ok gd (hr.mono (by decide)) c__law_pick.g c__law_pick.k c__law_pick.b (takes_of rfl rfl rfl rfl) (ua_cons (u_var 1 (pv 1)) (ua_cons (u_lst (ua_cons (u_tup (ua_cons u_str (ua_cons u_int ua_nil))) (ua_cons (u_tup (ua_cons u_str (ua_cons u_int ua_nil))) (ua_cons (u_tup (ua_cons u_str (ua_cons u_int ua_nil))) ua_nil)))) ua_nil))) (ug_tup (by rfl) (ugs_cons (ug_name (i := 3) sc_law.nd) (ugs_cons (ug_name (i := 4) sc_law.nd) ugs_nil))))
    (us_one (us_ret (u_cmp (op_eqG hr.units) sn_eq (u_callTy (call_lists rfl) sn_lists (by rfl) m_list (by decide +kernel) (ua_cons (u_call c_roll.ok gd (hr.mono (by decide)) c_roll.g c_roll.k c_roll.b (takes_of rfl rfl rfl rfl) (ua_cons (u_var 3 (pv 3)) (ua_cons (u_var 4 (pv 4)) ua_nil))) ua_nil)) (u_lc (by rfl) sc_law.nd (ui_any (u_call c__law_pages.ok gd (hr.mono (by decide)) c__law_pages.g c__law_pages.k c__law_pages.b (takes_of rfl rfl rfl rfl) (ua_cons (u_var 3 (pv 3)) (ua_cons (u_var 4 (pv 4)) ua_nil)))) (blkOk_by (own := [("_law_page_here", 7)]) (by kernel_rfl)) (by decide) (fun _ _ _ _ _ => (ug_name (i := 7) sc_law.nd)) (fun _ _ _ _ _ => castTs (uts_one (ut_cmp (op_eqG hr.units) sn_eq (u_callB call_lens sn_len (by rfl) m_len PySem.boot_len (ua_cons (u_var 7 (pv 7)) ua_nil)) (u_var 4 (pv 4)) (nomark _)))) (fun _ _ _ _ _ => castE (u_var 7 (pv 7)))) (nomark _)))))))⟩) (by decide) law
end K01
namespace K01
open PySem PySem.Spec PyProof.Rows L2 G
theorem pick_ok {xs : List D} {b : Nat} {k : Option Dk} (ok : OkB (b + 1) k) (h : xs ≠ []) (hl : xs.length ≤ 1000000000) : ∃ x k', x ∈ xs ∧ fn__law_pick [.deck, .lst xs] k = .ok x k' ∧ OkB b k' := by
  have pos : 0 < xs.length := List.length_pos_iff.mpr h
  obtain ⟨r, k', e, r0, r1, ok'⟩ := draw_ok (p := ⟨60223, 223, 69621, 29⟩) (many := (xs.length : Int)) ok (by omega) (by omega)
  obtain ⟨x, hx, hat⟩ := atI_of r0 r1
  refine ⟨x, k', hx, ?_, ok'⟩
  unfold fn__law_pick d__law_pick d__law_pick_0
  simp [a_ss, a_sb, a_ret, a_nx, a_if, a_asg, a_par, a_for, a_name, a_fn, a_eb, a_ep, a_eo, a_var, a_op, a_B, a_un, a_andV, a_orV, a_notV, a_and, a_or, a_not, a_ifE, a_nil, a_cons, a_tup, a_lst, a_callB, a_call, a_callK, a_items, a_methT, a_slice, bE_ok, oE_some, bR_ok, bN_nx, bN_ret, oS_some, fR_nx, fR_ret, boolOf_bl, one, lenD, fn__law_draw, e, ixD, hat]
theorem pick_str {z : Str} {b : Nat} {k : Option Dk} (ok : OkB (b + 1) k) (h : z.cps.toList ≠ []) (hl : z.length ≤ 1000000) : ∃ c k', c ∈ z.cps.toList ∧ fn__law_pick [.deck, .str z] k = .ok (.str (sgn c)) k' ∧ OkB b k' := by
  have pos : 0 < z.cps.toList.length := List.length_pos_iff.mpr h
  have hz : z.length = z.cps.toList.length := rfl
  have hz2 : z.length ≤ sizeLine := Nat.le_trans hl (by decide)
  obtain ⟨r, k', e, r0, r1, ok'⟩ := draw_ok (p := ⟨60223, 223, 69621, 29⟩) (many := (z.length : Int)) ok (by omega) (by omega)
  obtain ⟨x, hx, hat⟩ := atI_of (xs := z.cps.toList) r0 (by omega)
  refine ⟨x, k', hx, ?_, ok'⟩
  unfold fn__law_pick d__law_pick d__law_pick_0
  simp [a_ss, a_sb, a_ret, a_nx, a_if, a_asg, a_par, a_for, a_name, a_fn, a_eb, a_ep, a_eo, a_var, a_op, a_B, a_un, a_andV, a_orV, a_notV, a_and, a_or, a_not, a_ifE, a_nil, a_cons, a_tup, a_lst, a_callB, a_call, a_callK, a_items, a_methT, a_slice, bE_ok, oE_some, bR_ok, bN_nx, bN_ret, oS_some, fR_nx, fR_ret, boolOf_bl, one, lenD, fn__law_draw, e, ixD, hat, chk, hz2]
/-! is_ticket -/
def inS (g : Str) (c : Nat) : Bool := decide (c ∈ g.cps.toList)
theorem len_signs {x : Str} (hl : x.length ≤ 1000000) : (G.signs x).length ≤ sizeLine := by
  unfold G.signs
  rw [List.length_map]
  exact Nat.le_trans hl (by decide)
theorem is_ticket_str {g x : Str} {k : Option Dk} (hl : x.length ≤ 1000000) : fn_is_ticket [.str g, .str x] k = .ok (.bl (x.cps.toList.all (inS g))) k := by
  have e : dLc (dItems (dVar 1)) (mName 2) (ep true) (dOp (inD false) (dVar 2) (dVar 0)) [2] [.val (.str g), .val (.str x), .emp] k = .ok (.lst (x.cps.toList.map fun c => D.bl (inS g c))) k := by
    rw [dLc_map (ds := G.signs x) (s1 := fun d => [.val (.str g), .val (.str x), .val d]) (e := fun d => (inD false d (.str g)).getD .non) rfl (len_signs hl) (fun _ _ => rfl) (fun d hd => by
        obtain ⟨c, hc, rfl⟩ := List.mem_map.mp hd
        rfl)]
    unfold G.signs
    rw [List.map_map]
    congr 3
    funext c
    show (some (D.bl (false ^^ decide (c ∈ g.cps.toList)))).getD .non = _
    simp [inS]
  unfold fn_is_ticket d_is_ticket d_is_ticket_0
  simp [a_ss, a_sb, a_ret, a_nx, a_if, a_asg, a_par, a_for, a_name, a_fn, a_eb, a_ep, a_eo, a_var, a_op, a_B, a_un, a_andV, a_orV, a_notV, a_and, a_or, a_not, a_ifE, a_nil, a_cons, a_tup, a_lst, a_callB, a_call, a_callK, a_items, a_methT, a_slice, bE_ok, oE_some, bR_ok, bN_nx, bN_ret, oS_some, fR_nx, fR_ret, boolOf_bl, one, isiD, tyName, kitB, allD, e, bools_map]
theorem is_page_str {g x : Str} {k : Option Dk} (hl : x.length ≤ 1000000) (hx : Low x) : fn__law_is_page [.str g, .str x] k = .ok (.bl (x.cps.toList.all (inS g))) k := by
  have e : dLc (dItems (dVar 1)) (mName 2) (dB (dOp (inD true) (dVar 2) (dVar 0))) (dVar 2) [2] [.val (.str g), .val (.str x), .emp] k = .ok (.lst ((x.cps.toList.filter fun c => !inS g c).map fun c => D.str (sgn c))) k := by
    rw [dLc_filter (ds := G.signs x) (s1 := fun d => [.val (.str g), .val (.str x), .val d]) (t := fun d => match inD true d (.str g) with | some (.bl b) => b | _ => false) rfl (len_signs hl) (fun _ _ => rfl) (fun d hd => by
        obtain ⟨c, hc, rfl⟩ := List.mem_map.mp hd
        rfl) (fun _ _ => rfl)]
    unfold G.signs
    rw [signs_filter (fun c => !inS g c)]
    intro c
    show (true ^^ decide (c ∈ g.cps.toList)) = _
    unfold inS
    simp
  have e2 := eqD_signs_nil (neg := false) (l := x.cps.toList.filter fun c => !inS g c) (fun c hc => hx c (List.mem_filter.mp hc).1)
  have e3 : (false ^^ decide ((x.cps.toList.filter fun c => !inS g c) = [])) = x.cps.toList.all (inS g) := by
    rw [Bool.false_xor, Bool.eq_iff_iff, decide_eq_true_eq, List.filter_eq_nil_iff, List.all_eq_true]
    constructor
    · intro h c hc; have := h c hc; simpa using this
    · intro h c hc; rw [h c hc]; simp
  rw [e3] at e2
  unfold fn__law_is_page d__law_is_page d__law_is_page_0
  simp [a_ss, a_sb, a_ret, a_nx, a_if, a_asg, a_par, a_for, a_name, a_fn, a_eb, a_ep, a_eo, a_var, a_op, a_B, a_un, a_andV, a_orV, a_notV, a_and, a_or, a_not, a_ifE, a_nil, a_cons, a_tup, a_lst, a_callB, a_call, a_callK, a_items, a_methT, a_slice, bE_ok, oE_some, bR_ok, bN_nx, bN_ret, oS_some, fR_nx, fR_ret, boolOf_bl, one, isiD, tyName, kitB, e, e2]
/-! the drawn page -/
theorem page_ok {g : Str} {b : Nat} {k : Option Dk} (ok : OkB (b + 31) k) (h : g.cps.toList ≠ []) (hl : g.length ≤ 1000000) : ∃ z k', fn__law_page [.deck, .str g, .int 30] k = .ok (.str z) k' ∧ z.length ≤ 30 ∧ (∀ c ∈ z.cps.toList, c ∈ g.cps.toList) ∧ OkB b k' := by
  obtain ⟨r, k1, e, r0, r1, ok1⟩ := draw_ok (p := ⟨60223, 223, 69621, 29⟩) (many := (31 : Int)) (b := b + 30) ok (by decide) (by decide)
  have hr : okI r = true := by rw [okI_iff]; omega
  have len : ((List.range r.toNat).map fun i => D.int ((i : Nat) : Int)).length ≤ 30 := by rw [List.length_map, List.length_range]; omega
  obtain ⟨ys, k2, e1, e2, ok2⟩ := lcL_draw (g := mName 3) (tt := ep true) (te := dCall fn__law_pick (dCons (dVar 0) (dCons (dVar 1) dNil))) (s0 := [.val .deck, .val (.str g), .val (.int 30), .emp])
    (P := fun _ y => ∃ c ∈ g.cps.toList, y = D.str (sgn c)) (c := 1) (ds := (List.range r.toNat).map fun i => D.int ((i : Nat) : Int)) (n := 0) (b := b) (k := k1) (Nat.le_trans (Nat.le_of_eq (Nat.zero_add _)) (Nat.le_trans len (by decide)))
    (fun d _ b k ok => by
      obtain ⟨c, k', hc, e, ok'⟩ := pick_str ok h hl
      refine ⟨_, rfl, .inr ⟨k, .str (sgn c), k', rfl, ?_, ⟨c, hc, rfl⟩, ok'⟩⟩
      simp [a_ss, a_sb, a_ret, a_nx, a_if, a_asg, a_par, a_for, a_name, a_fn, a_eb, a_ep, a_eo, a_var, a_op, a_B, a_un, a_andV, a_orV, a_notV, a_and, a_or, a_not, a_ifE, a_nil, a_cons, a_tup, a_lst, a_callB, a_call, a_callK, a_items, a_methT, a_slice, bE_ok, oE_some, bR_ok, bN_nx, bN_ret, oS_some, fR_nx, fR_ret, boolOf_bl, e]) (ok1.mono (by omega))
  have e3 : ∃ l : List Nat, ys = l.map (fun c => D.str (sgn c)) ∧ (∀ c ∈ l, c ∈ g.cps.toList) ∧ l.length = ys.length := by
    have := e2.all (Q := fun y => ∃ c ∈ g.cps.toList, y = D.str (sgn c)) (fun _ _ h => h)
    clear e1 e2
    induction ys with
    | nil => exact ⟨[], rfl, fun _ h => (by cases h), rfl⟩
    | cons y ys ih =>
      obtain ⟨l, h1, h2, h3⟩ := ih (fun z hz => this z (List.mem_cons_of_mem _ hz))
      obtain ⟨c, hc, rfl⟩ := this y (List.mem_cons_self ..)
      refine ⟨c :: l, by rw [List.map_cons, h1], fun d hd => ?_, by rw [List.length_cons, List.length_cons, h3]⟩
      rcases List.mem_cons.mp hd with rfl | hd
      · exact hc
      · exact h2 d hd
  obtain ⟨l, rfl, hl2, hl3⟩ := e3
  have hlen : l.length ≤ 30 := by rw [hl3]; exact Nat.le_trans e2.len len
  refine ⟨⟨l.toArray⟩, k2, ?_, by show l.toArray.size ≤ 30; simpa using hlen, by simpa using hl2, ok2⟩
  have ej := join_sgn (l := l) (by omega)
  unfold fn__law_page d__law_page d__law_page_0
  simp [a_ss, a_sb, a_ret, a_nx, a_if, a_asg, a_par, a_for, a_name, a_fn, a_eb, a_ep, a_eo, a_var, a_op, a_B, a_un, a_andV, a_orV, a_notV, a_and, a_or, a_not, a_ifE, a_nil, a_cons, a_tup, a_lst, a_callB, a_call, a_callK, a_items, a_methT, a_slice, bE_ok, oE_some, bR_ok, bN_nx, bN_ret, oS_some, fR_nx, fR_ret, boolOf_bl, a_lc, lR_ok, addD, fn__law_draw, e, rng1_of hr, wipeS, okTy, e1, ej]

/-! tickets -/
theorem reprD_ok {d : D} {p : PyData} (e : toPy d = some p) (h : reprP p = true) : ∃ t, reprD d = some (.str t) := by
  refine ⟨p.shown, ?_⟩
  unfold reprD
  rw [e]
  exact chk_pos h
def Good2 (g : Str) (it : D) : Prop := ∃ b t, (∀ k, fn_is_ticket [.str g, it] k = .ok (.bl b) k) ∧ (∀ k, fn__law_is_page [.str g, it] k = .ok (.bl b) k) ∧ reprD it = some (.str t)
theorem rep2 (b : Bool) : ∃ t, reprD (.lst [.bl b, .bl b]) = some (.str t) := by
  cases b
  · exact reprD_ok rfl (by decide +kernel)
  · exact reprD_ok rfl (by decide +kernel)
theorem rep3 (b : Bool) : ∃ t, reprD (.lst [.bl b, .bl b, .bl false]) = some (.str t) := by
  cases b
  · exact reprD_ok rfl (by decide +kernel)
  · exact reprD_ok rfl (by decide +kernel)
theorem tick_body {g : Str} {it : D} (h : Good2 g it) {a b c d e : Sl} {k : Option Dk} : ∃ c' d' e', d__law_tickets_right_2_b [.val .deck, .val (.str g), a, b, .val it, c, d, e] k = .nx [.val .deck, .val (.str g), a, b, .val it, c', d', e'] k := by
  obtain ⟨bb, t, h1, h2, h3⟩ := h
  obtain ⟨t2, h4⟩ := rep2 bb
  refine ⟨.val (.lst [.bl bb, .bl bb]), .val (.str t), .val (.bl bb), ?_⟩
  unfold d__law_tickets_right_2_b
  simp [a_ss, a_sb, a_ret, a_nx, a_if, a_asg, a_par, a_for, a_name, a_fn, a_eb, a_ep, a_eo, a_var, a_op, a_B, a_un, a_andV, a_orV, a_notV, a_and, a_or, a_not, a_ifE, a_nil, a_cons, a_tup, a_lst, a_callB, a_call, a_callK, a_items, a_methT, a_slice, bE_ok, oE_some, bR_ok, bN_nx, bN_ret, oS_some, fR_nx, fR_ret, boolOf_bl, one, h1, h2, h3, h4, perm, eqD_same_str, sizeLine]
theorem good_str {g x : Str} (hl : x.length ≤ 1000000) (hx : Low x) : Good2 g (.str x) := by
  obtain ⟨t, ht⟩ := repr_str hx hl
  exact ⟨_, t, fun k => is_ticket_str hl, fun k => is_page_str hl hx, ht⟩
theorem len_app (a b : Str) : (a ++ b).length = a.length + b.length := by
  show (a.cps ++ b.cps).size = a.cps.size + b.cps.size
  simp
theorem add_str {a b : Str} (h : a.length + b.length ≤ 1000000) : addD (.str a) (.str b) = some (.str (a ++ b)) := by
  show chk _ _ = _
  exact chk_pos (decide_eq_true (Nat.le_trans h (by decide)))
theorem tickets_ok {g : Str} {b : Nat} {k : Option Dk} (ok : OkB (b + 31) k) (h : g.cps.toList ≠ []) (hl : g.length ≤ 1000000) (hg : Low g) : ∃ k', fn__law_tickets_right [.deck, .str g] k = .ok (.bl true) k' ∧ OkB b k' := by
  obtain ⟨z, k', e, z1, z2, ok'⟩ := page_ok ok h hl
  refine ⟨k', ?_, ok'⟩
  have lz : Low z := fun c hc => hg c (z2 c hc)
  have lx : Low "x" := by intro c hc; have : c ∈ [120] := hc; simp at this; omega
  have lb : Low " " := by intro c hc; have : c ∈ [32] := hc; simp at this; omega
  have l0 : Low "0" := by intro c hc; have : c ∈ [48] := hc; simp at this; omega
  have l7 : Low "7" := by intro c hc; have : c ∈ [55] := hc; simp at this; omega
  have ln : Low "\n" := by intro c hc; have : c ∈ [10] := hc; simp at this; omega
  have le : Low "" := by intro c hc; have : c ∈ ([] : List Nat) := hc; simp at this
  have nx : (Str.ofString "x").length = 1 := by decide +kernel
  have nb : (Str.ofString " ").length = 1 := by decide +kernel
  have n0 : (Str.ofString "0").length = 1 := by decide +kernel
  have n7 : (Str.ofString "7").length = 1 := by decide +kernel
  have e1 : addD (.str z) (.str "x") = some (.str (z ++ "x")) := add_str (by rw [nx]; omega)
  have e2 : addD (.str " ") (.str z) = some (.str (" " ++ z)) := add_str (by rw [nb]; omega)
  have e3 : addD (.str z) (.str "0") = some (.str (z ++ "0")) := add_str (by rw [n0]; omega)
  have e4 : addD (.str z) (.str "7") = some (.str (z ++ "7")) := add_str (by rw [n7]; omega)
  have e5 : lstsD (.str z) = some (.lst (z.cps.toList.map fun c => D.str (sgn c))) := by
    show chk _ _ = _
    exact chk_pos (decide_eq_true (Nat.le_trans z1 (by decide)))
  let A : List D := [.str z, .str "", .str (z ++ "x"), .str (" " ++ z), .str (z ++ "0"), .str (z ++ "7"), .non, .int 0, .tup [.str z], .lst [.str z], .bl true, .dct [], .str "\n"]
  have s0 : d__law_tickets_right_0 [.val .deck, .val (.str g), .emp, .emp, .emp, .emp, .emp, .emp] k = .nx [.val .deck, .val (.str g), .val (.str z), .emp, .emp, .emp, .emp, .emp] k' := by
    unfold d__law_tickets_right_0
    simp [a_ss, a_sb, a_ret, a_nx, a_if, a_asg, a_par, a_for, a_name, a_fn, a_eb, a_ep, a_eo, a_var, a_op, a_B, a_un, a_andV, a_orV, a_notV, a_and, a_or, a_not, a_ifE, a_nil, a_cons, a_tup, a_lst, a_callB, a_call, a_callK, a_items, a_methT, a_slice, bE_ok, oE_some, bR_ok, bN_nx, bN_ret, oS_some, fR_nx, fR_ret, boolOf_bl, e]
  have s1 : d__law_tickets_right_1 [.val .deck, .val (.str g), .val (.str z), .emp, .emp, .emp, .emp, .emp] k' = .nx [.val .deck, .val (.str g), .val (.str z), .val (.lst A), .emp, .emp, .emp, .emp] k' := by
    unfold d__law_tickets_right_1
    simp [a_ss, a_sb, a_ret, a_nx, a_if, a_asg, a_par, a_for, a_name, a_fn, a_eb, a_ep, a_eo, a_var, a_op, a_B, a_un, a_andV, a_orV, a_notV, a_and, a_or, a_not, a_ifE, a_nil, a_cons, a_tup, a_lst, a_callB, a_call, a_callK, a_items, a_methT, a_slice, bE_ok, oE_some, bR_ok, bN_nx, bN_ret, oS_some, fR_nx, fR_ret, boolOf_bl, e1, e2, e3, e4, sizeLine, A]
  have e6 : addD (.lst A) (.lst [.lst (z.cps.toList.map fun c => D.str (sgn c))]) = some (.lst (A ++ [.lst (z.cps.toList.map fun c => D.str (sgn c))])) := by
    show chk _ _ = _
    exact chk_pos (decide_eq_true (show 13 + 1 ≤ sizeLine by decide))
  have loop := loopS_pure (g := mName 4) (body := d__law_tickets_right_2_b) (k := k') (I := fun s => ∃ a b c d, s = [.val .deck, .val (.str g), .val (.str z), .val (.lst A), a, b, c, d]) (ds := A ++ [.lst (z.cps.toList.map fun c => D.str (sgn c))])
    (s := [.val .deck, .val (.str g), .val (.str z), .val (.lst A), .emp, .emp, .emp, .emp]) (fun d hd s ⟨a, b, c, dd, hs⟩ => by
      subst hs
      have gd : Good2 g d := by
        simp only [A, List.cons_append, List.nil_append, List.mem_cons, List.not_mem_nil, or_false] at hd
        rcases hd with rfl | rfl | rfl | rfl | rfl | rfl | rfl | rfl | rfl | rfl | rfl | rfl | rfl | rfl
        · exact good_str (by omega) lz
        · exact good_str (by decide +kernel) le
        · exact good_str (by rw [len_app, nx]; omega) (low_app lz lx)
        · exact good_str (by rw [len_app, nb]; omega) (low_app lb lz)
        · exact good_str (by rw [len_app, n0]; omega) (low_app lz l0)
        · exact good_str (by rw [len_app, n7]; omega) (low_app lz l7)
        · obtain ⟨t, ht⟩ := reprD_ok (d := .non) rfl (by decide +kernel)
          exact ⟨false, t, fun k => rfl, fun k => rfl, ht⟩
        · obtain ⟨t, ht⟩ := reprD_ok (d := .int 0) rfl (by decide +kernel)
          exact ⟨false, t, fun k => rfl, fun k => rfl, ht⟩
        · obtain ⟨t, ht⟩ := repr_tup1 lz (by omega)
          exact ⟨false, t, fun k => rfl, fun k => rfl, ht⟩
        · obtain ⟨t, ht⟩ := repr_lst1 lz (by omega)
          exact ⟨false, t, fun k => rfl, fun k => rfl, ht⟩
        · obtain ⟨t, ht⟩ := reprD_ok (d := .bl true) rfl (by decide +kernel)
          exact ⟨false, t, fun k => rfl, fun k => rfl, ht⟩
        · obtain ⟨t, ht⟩ := reprD_ok (d := .dct []) rfl (by decide +kernel)
          exact ⟨false, t, fun k => rfl, fun k => rfl, ht⟩
        · exact good_str (by decide +kernel) ln
        · obtain ⟨t, ht⟩ := repr_signs (l := z.cps.toList) lz (Nat.le_trans (show z.cps.toList.length ≤ 30 from z1) (by decide))
          exact ⟨false, t, fun k => rfl, fun k => rfl, ht⟩
      obtain ⟨c', d', e', hb⟩ := tick_body gd (a := .val (.str z)) (b := .val (.lst A)) (c := b) (d := c) (e := dd) (k := k')
      exact ⟨_, rfl, _, hb, _, _, _, _, rfl⟩) ⟨_, _, _, _, rfl⟩
  obtain ⟨s', l1, a, b', c, d, rfl⟩ := loop
  have s2 : d__law_tickets_right_2 [.val .deck, .val (.str g), .val (.str z), .val (.lst A), .emp, .emp, .emp, .emp] k' = .nx [.val .deck, .val (.str g), .val (.str z), .val (.lst A), a, b', c, d] k' := by
    unfold d__law_tickets_right_2
    simp [a_ss, a_sb, a_ret, a_nx, a_if, a_asg, a_par, a_for, a_name, a_fn, a_eb, a_ep, a_eo, a_var, a_op, a_B, a_un, a_andV, a_orV, a_notV, a_and, a_or, a_not, a_ifE, a_nil, a_cons, a_tup, a_lst, a_callB, a_call, a_callK, a_items, a_methT, a_slice, bE_ok, oE_some, bR_ok, bN_nx, bN_ret, oS_some, fR_nx, fR_ret, boolOf_bl, one, e5, e6, itemsOf, sizeLine]
    simpa using l1
  unfold fn__law_tickets_right d__law_tickets_right d__law_tickets_right_3
  simp [a_ss, a_sb, a_ret, a_nx, a_if, a_asg, a_par, a_for, a_name, a_fn, a_eb, a_ep, a_eo, a_var, a_op, a_B, a_un, a_andV, a_orV, a_notV, a_and, a_or, a_not, a_ifE, a_nil, a_cons, a_tup, a_lst, a_callB, a_call, a_callK, a_items, a_methT, a_slice, bE_ok, oE_some, bR_ok, bN_nx, bN_ret, oS_some, fR_nx, fR_ret, boolOf_bl, s0, s1, s2]

end K01
namespace K01
open PySem PySem.Spec PyProof.Rows L2 G
def every (g : Str) : List D := match fn__law_pages [.str g, .int 3] none with
  | .ok (.lst l) _ => l
  | _ => []
def lev (g : Str) (n : Int) : List D := (every g).filter fun x => match lenD x with
  | some (.int i) => decide (i = n)
  | _ => false
def repOk (d : D) : Bool := match toPy d with
  | some p => p.showable && p.layable0 && p.intsShort 13 && decide (p.depth ≤ 60)
  | none => false
theorem repOk_some {d : D} (h : repOk d = true) : ∃ t, reprD d = some (.str t) := by
  unfold repOk at h
  split at h
  · rename_i p e
    simp only [Bool.and_eq_true, decide_eq_true_eq] at h
    exact ⟨_, reprD_of e h.1.1.1 h.1.1.2 h.1.2 h.2⟩
  · cases h
def fltD : ME D := dLc (dItems (dVar 2)) (mName 9) (dB (dOp (eqD false) (dCallB (one lenD) (dCons (dVar 9) dNil)) (dVar 3))) (dVar 9) [9]
structure LevFacts (g : Str) (n : Int) : Prop where
  ro : (fun k => fn_roll [.str g, .int n] k) = fun k => .ok (.tup (lev g n)) k
  fl : (fun (k : Option Dk) (a b c d e f : Sl) => fltD [.val .deck, .val (.str g), .val (.lst (every g)), .val (.int n), a, b, c, d, e, f] k) = fun k a b c d e f => .ok (.lst (lev g n)) k
  rp : repOk (.lst [.tup (lev g n), .tup (lev g n)]) = true
def lt2 (x y : List Nat) : Bool := x.length.blt y.length || (x.length.beq y.length && decide (x < y))
theorem ah_eq (x y : Str) : PySem.W.dataLt (.tuple [.int x.length, .str x]) (.tuple [.int y.length, .str y]) = lt2 x.cps.toList y.cps.toList := by
  show PyProof.Rows.lexLt PyProof.Rows.itemOrd [.inl 1, .inl (x.length : Int), .inl 1, .inr x.cps.toList, .inl 0] [.inl 1, .inl (y.length : Int), .inl 1, .inr y.cps.toList, .inl 0] = _
  have hx : x.length = x.cps.toList.length := rfl
  have hy : y.length = y.cps.toList.length := rfl
  rw [PyProof.Rows.lex_self (O := PyProof.Rows.itemOrd)]
  unfold lt2
  by_cases e : x.length = y.length
  · rw [e, PyProof.Rows.lex_self (O := PyProof.Rows.itemOrd), PyProof.Rows.lex_self (O := PyProof.Rows.itemOrd)]
    rw [← hx, ← hy, e]
    have b1 : y.length.blt y.length = false := by rw [Bool.eq_false_iff]; intro h; exact Nat.lt_irrefl _ (Nat.blt_eq.mp h)
    rw [b1, show y.length.beq y.length = true from Nat.beq_refl _]
    by_cases q : x.cps.toList = y.cps.toList
    · rw [q, PyProof.Rows.lex_self (O := PyProof.Rows.itemOrd), PyProof.Rows.lex_self (O := PyProof.Rows.itemOrd)]
      have : ¬ y.cps.toList < y.cps.toList := List.lt_irrefl _
      rw [decide_eq_false this]
      rfl
    · rw [PyProof.Rows.lex_diff (O := PyProof.Rows.itemOrd) (fun h => q (Sum.inr.inj h))]
      rfl
  · have hne : (Sum.inl (x.length : Int) : Int ⊕ List Nat) ≠ Sum.inl (y.length : Int) := fun h => e (by have := Sum.inl.inj h; omega)
    rw [PyProof.Rows.lex_diff (O := PyProof.Rows.itemOrd) hne]
    rw [← hx, ← hy]
    rw [show x.length.beq y.length = false from by rw [Bool.eq_false_iff]; intro h; exact e (Nat.eq_of_beq_eq_true h)]
    show decide ((x.length : Int) < (y.length : Int)) = _
    rw [Bool.false_and, Bool.or_false, Bool.eq_iff_iff, decide_eq_true_eq, Nat.blt_eq]
    omega
def cpsD : D → List Nat
  | .str x => x.cps.toList
  | _ => []
def sortedB (l : List (List Nat)) : Bool := l.zipIdx.all fun p => l.zipIdx.all fun q => lt2 p.1 q.1 == p.2.blt q.2
def smallS : D → Bool
  | .str x => decide (x.length ≤ 1000)
  | _ => false
structure RollFacts (g : Str) : Prop where
  ev : (fun k => fn__law_pages [.str g, .int 3] k) = fun k => .ok (.lst (every g)) k
  l0 : LevFacts g 0
  l1 : LevFacts g 1
  l2 : LevFacts g 2
  l3 : LevFacts g 3
  ix : (every g).map (fun x => indexD (.lst (every g)) [x]) = (List.range (every g).length).map (fun i => some (.int (i : Nat)))
  so : sortedB ((every g).map cpsD) = true
  ln : (decide ((every g).length ≤ 1000) && !(every g).isEmpty && (every g).all smallS) = true
theorem rf0 : RollFacts "0" := ⟨by kernel_rfl, ⟨by kernel_rfl, by kernel_rfl, by decide +kernel⟩, ⟨by kernel_rfl, by kernel_rfl, by decide +kernel⟩, ⟨by kernel_rfl, by kernel_rfl, by decide +kernel⟩, ⟨by kernel_rfl, by kernel_rfl, by decide +kernel⟩, by kernel_rfl, by decide +kernel, by decide +kernel⟩
theorem rf9 : RollFacts "9" := ⟨by kernel_rfl, ⟨by kernel_rfl, by kernel_rfl, by decide +kernel⟩, ⟨by kernel_rfl, by kernel_rfl, by decide +kernel⟩, ⟨by kernel_rfl, by kernel_rfl, by decide +kernel⟩, ⟨by kernel_rfl, by kernel_rfl, by decide +kernel⟩, by kernel_rfl, by decide +kernel, by decide +kernel⟩
theorem rf01 : RollFacts "01" := ⟨by kernel_rfl, ⟨by kernel_rfl, by kernel_rfl, by decide +kernel⟩, ⟨by kernel_rfl, by kernel_rfl, by decide +kernel⟩, ⟨by kernel_rfl, by kernel_rfl, by decide +kernel⟩, ⟨by kernel_rfl, by kernel_rfl, by decide +kernel⟩, by kernel_rfl, by decide +kernel, by decide +kernel⟩
theorem rf38 : RollFacts "38" := ⟨by kernel_rfl, ⟨by kernel_rfl, by kernel_rfl, by decide +kernel⟩, ⟨by kernel_rfl, by kernel_rfl, by decide +kernel⟩, ⟨by kernel_rfl, by kernel_rfl, by decide +kernel⟩, ⟨by kernel_rfl, by kernel_rfl, by decide +kernel⟩, by kernel_rfl, by decide +kernel, by decide +kernel⟩
theorem rf48 : RollFacts "48" := ⟨by kernel_rfl, ⟨by kernel_rfl, by kernel_rfl, by decide +kernel⟩, ⟨by kernel_rfl, by kernel_rfl, by decide +kernel⟩, ⟨by kernel_rfl, by kernel_rfl, by decide +kernel⟩, ⟨by kernel_rfl, by kernel_rfl, by decide +kernel⟩, by kernel_rfl, by decide +kernel, by decide +kernel⟩
theorem rf012 : RollFacts "012" := ⟨by kernel_rfl, ⟨by kernel_rfl, by kernel_rfl, by decide +kernel⟩, ⟨by kernel_rfl, by kernel_rfl, by decide +kernel⟩, ⟨by kernel_rfl, by kernel_rfl, by decide +kernel⟩, ⟨by kernel_rfl, by kernel_rfl, by decide +kernel⟩, by kernel_rfl, by decide +kernel, by decide +kernel⟩
theorem rf1357 : RollFacts "1357" := ⟨by kernel_rfl, ⟨by kernel_rfl, by kernel_rfl, by decide +kernel⟩, ⟨by kernel_rfl, by kernel_rfl, by decide +kernel⟩, ⟨by kernel_rfl, by kernel_rfl, by decide +kernel⟩, ⟨by kernel_rfl, by kernel_rfl, by decide +kernel⟩, by kernel_rfl, by decide +kernel, by decide +kernel⟩
def dig (d : D) : Bool := match fn_are_digits [d] none with
  | .ok (.bl b) _ => b
  | _ => false
def isRep (d : D) : Bool := match reprD d with
  | some (.str _) => true
  | _ => false
def candsA : List D := [.str "0", .str "9", .str "01", .str "0123456789", .str "19", .str "357", .str "10", .str "00", .str "011", .str "", .str "a", .str "0a", .str "-1", .str " 1", .str "1 ", .str "0,1", .non]
def candsB : List D := [.bl true, .tup [], .lst [], .lst [.str "0"], .tup [.str "0", .str "1"], .dct [], .dct [(Sum.inr (Str.ofString "0"), .int 1)], .int (10 ^ 39), .str "0\n", .str "123456789", .str "9876543210", .str (repS "x" 40)]
def cands : List D := candsA ++ candsB
theorem c1 : (cands.map fun d => fun (k : Option Dk) => fn_are_digits [d] k) = cands.map fun d => fun k => .ok (.bl (dig d)) k := by kernel_rfl
theorem c2 : (cands.map fun d => fun (k : Option Dk) => fn__law_are_signs [d] k) = cands.map fun d => fun k => .ok (.bl (dig d)) k := by kernel_rfl
theorem c3 : (cands.all isRep) = true := by decide +kernel
end K01
namespace K01
open PySem PySem.Spec PyProof.Rows L2 G
def slots3 (g : Str) (n : Int) (z a b c d e : Sl) : List Sl := [z, a, b, .val (.str g), .val (.int n), c, d, e]
theorem fin1 : (fun (k : Option Dk) (z a b c d e : Sl) => d_law_3 (slots3 "0123456789" 3 z a b c d e) k) = fun k z a b c d e => .ret (.bl true) k := by kernel_rfl
theorem fin2 : (fun (k : Option Dk) (z a b c d e : Sl) => d_law_3 (slots3 "01" 9 z a b c d e) k) = fun k z a b c d e => .ret (.bl true) k := by kernel_rfl
theorem fin3 : (fun (k : Option Dk) (z a b c d e : Sl) => d_law_3 (slots3 "012" 6 z a b c d e) k) = fun k z a b c d e => .ret (.bl true) k := by kernel_rfl
end K01
namespace K01
open PySem PySem.Spec PyProof.Rows L2 G
/-! rolls -/
theorem map_at {α β : Type} {f : α → β} {g : Nat → β} {l : List α} {n : Nat} (h : l.map f = (List.range n).map g) {i : Nat} {x : α} (hx : l[i]? = some x) : f x = g i := by
  have e1 : (l.map f)[i]? = some (f x) := by rw [List.getElem?_map, hx]; rfl
  rw [h, List.getElem?_map] at e1
  cases q : (List.range n)[i]? with
  | none => rw [q] at e1; cases e1
  | some j =>
    rw [q] at e1
    have : j = i := by
      obtain ⟨hi, e⟩ := List.getElem?_eq_some_iff.mp q
      rw [List.getElem_range] at e
      exact e.symm
    subst this
    exact (Option.some.inj e1).symm
theorem sorted_at {l : List (List Nat)} (h : sortedB l = true) {i j : Nat} {x y : List Nat} (hx : l[i]? = some x) (hy : l[j]? = some y) : lt2 x y = decide (i < j) := by
  have m : ∀ {i : Nat} {x : List Nat}, l[i]? = some x → (x, i) ∈ l.zipIdx := fun {i x} hx => by
    rw [List.mem_zipIdx_iff_getElem?]; exact hx
  have h1 := List.all_eq_true.mp h _ (m hx)
  have h2 := List.all_eq_true.mp h1 _ (m hy)
  have h3 := eq_of_beq h2
  dsimp only at h3
  rw [h3, Bool.eq_iff_iff, Nat.blt_eq, decide_eq_true_eq]
theorem is_ahead_str {x y : Str} {k : Option Dk} (hx : x.length ≤ 1000) (hy : y.length ≤ 1000) : fn_is_ahead [.str x, .str y] k = .ok (.bl (lt2 x.cps.toList y.cps.toList)) k := by
  have key : ∀ {z : Str} {k : Option Dk}, z.length ≤ 1000 → fn_ticket_key [.str z] k = .ok (.tup [.int z.length, .str z]) k := fun {z k} hz => by
    have hl : lenD (.str z) = some (.int z.length) := by
      show chk _ _ = _
      exact chk_pos (decide_eq_true (Nat.le_trans hz (by decide)))
    unfold fn_ticket_key d_ticket_key d_ticket_key_0
    simp [a_ss, a_sb, a_ret, a_nx, a_if, a_asg, a_par, a_for, a_name, a_fn, a_eb, a_ep, a_eo, a_var, a_op, a_B, a_un, a_andV, a_orV, a_notV, a_and, a_or, a_not, a_ifE, a_nil, a_cons, a_tup, a_lst, a_callB, a_call, a_callK, a_items, a_methT, a_slice, bE_ok, oE_some, bR_ok, bN_nx, bN_ret, oS_some, fR_nx, fR_ret, boolOf_bl, one, hl, sizeLine]
  have lt : ltD (.tup [.int x.length, .str x]) (.tup [.int y.length, .str y]) = some (.bl (lt2 x.cps.toList y.cps.toList)) := by
    rw [← ah_eq]
    show chk _ _ = _
    exact chk_pos rfl
  unfold fn_is_ahead d_is_ahead d_is_ahead_0
  simp [a_ss, a_sb, a_ret, a_nx, a_if, a_asg, a_par, a_for, a_name, a_fn, a_eb, a_ep, a_eo, a_var, a_op, a_B, a_un, a_andV, a_orV, a_notV, a_and, a_or, a_not, a_ifE, a_nil, a_cons, a_tup, a_lst, a_callB, a_call, a_callK, a_items, a_methT, a_slice, bE_ok, oE_some, bR_ok, bN_nx, bN_ret, oS_some, fR_nx, fR_ret, boolOf_bl, key hx, key hy, lt]
theorem lev_body {g : Str} {n : Int} (L : LevFacts g n) {a b c d e f : Sl} {k : Option Dk} : ∃ b', d__law_rolls_right_1_b [.val .deck, .val (.str g), .val (.lst (every g)), .val (.int n), a, b, c, d, e, f] k = .nx [.val .deck, .val (.str g), .val (.lst (every g)), .val (.int n), a, b', c, d, e, f] k := by
  have ro : ∀ k, fn_roll [.str g, .int n] k = .ok (.tup (lev g n)) k := fun k => congrFun L.ro k
  have fl : fltD [.val .deck, .val (.str g), .val (.lst (every g)), .val (.int n), a, b, c, d, e, f] k = .ok (.lst (lev g n)) k :=
    congrFun (congrFun (congrFun (congrFun (congrFun (congrFun (congrFun L.fl k) a) b) c) d) e) f
  unfold fltD at fl
  obtain ⟨t, ht⟩ := repOk_some L.rp
  refine ⟨.val (.tup (lev g n)), ?_⟩
  unfold d__law_rolls_right_1_b
  simp [a_ss, a_sb, a_ret, a_nx, a_if, a_asg, a_par, a_for, a_name, a_fn, a_eb, a_ep, a_eo, a_var, a_op, a_B, a_un, a_andV, a_orV, a_notV, a_and, a_or, a_not, a_ifE, a_nil, a_cons, a_tup, a_lst, a_callB, a_call, a_callK, a_items, a_methT, a_slice, bE_ok, oE_some, bR_ok, bN_nx, bN_ret, oS_some, fR_nx, fR_ret, boolOf_bl, one, fl, tupD, ro, perm, ht, eqD_same_str, sizeLine]
theorem rolls_ok {g : Str} (F : RollFacts g) {b : Nat} {k : Option Dk} (ok : OkB (b + 16) k) : ∃ k', fn__law_rolls_right [.deck, .str g] k = .ok (.bl true) k' ∧ OkB b k' := by
  have hln := F.ln
  simp only [Bool.and_eq_true, decide_eq_true_eq] at hln
  have hne : every g ≠ [] := by
    intro z
    rw [z] at hln
    simp at hln
  have hlen : (every g).length ≤ 1000 := hln.1.1
  have small : ∀ x ∈ every g, ∃ z, x = .str z ∧ z.length ≤ 1000 := fun x hx => by
    have := List.all_eq_true.mp hln.2 x hx
    unfold smallS at this
    split at this
    · exact ⟨_, rfl, of_decide_eq_true this⟩
    · cases this
  have ev : ∀ k, fn__law_pages [.str g, .int 3] k = .ok (.lst (every g)) k := fun k => congrFun F.ev k
  have s0 : d__law_rolls_right_0 [.val .deck, .val (.str g), .emp, .emp, .emp, .emp, .emp, .emp, .emp, .emp] k = .nx [.val .deck, .val (.str g), .val (.lst (every g)), .emp, .emp, .emp, .emp, .emp, .emp, .emp] k := by
    unfold d__law_rolls_right_0
    simp [a_ss, a_sb, a_ret, a_nx, a_if, a_asg, a_par, a_for, a_name, a_fn, a_eb, a_ep, a_eo, a_var, a_op, a_B, a_un, a_andV, a_orV, a_notV, a_and, a_or, a_not, a_ifE, a_nil, a_cons, a_tup, a_lst, a_callB, a_call, a_callK, a_items, a_methT, a_slice, bE_ok, oE_some, bR_ok, bN_nx, bN_ret, oS_some, fR_nx, fR_ret, boolOf_bl, ev]
  obtain ⟨s1', m1, a0, b0, c0, d0, e0, f0, h0, rfl⟩ := loopS_pure (g := mName 3) (body := d__law_rolls_right_1_b) (k := k) (I := fun s => ∃ a b c d e f h, s = [.val .deck, .val (.str g), .val (.lst (every g)), a, b, c, d, e, f, h])
    (ds := [.int 0, .int 1, .int 2, .int 3]) (s := [.val .deck, .val (.str g), .val (.lst (every g)), .emp, .emp, .emp, .emp, .emp, .emp, .emp]) (fun it hit s ⟨a, b, c, d, e, f, h, hs⟩ => by
      subst hs
      have : ∃ n, it = .int n ∧ LevFacts g n := by
        simp only [List.mem_cons, List.not_mem_nil, or_false] at hit
        rcases hit with rfl | rfl | rfl | rfl
        · exact ⟨_, rfl, F.l0⟩
        · exact ⟨_, rfl, F.l1⟩
        · exact ⟨_, rfl, F.l2⟩
        · exact ⟨_, rfl, F.l3⟩
      obtain ⟨n, rfl, L⟩ := this
      obtain ⟨b', hb⟩ := lev_body L (a := b) (b := c) (c := d) (d := e) (e := f) (f := h) (k := k)
      exact ⟨_, rfl, _, hb, _, _, _, _, _, _, _, rfl⟩) ⟨_, _, _, _, _, _, _, rfl⟩
  have s1 : d__law_rolls_right_1 [.val .deck, .val (.str g), .val (.lst (every g)), .emp, .emp, .emp, .emp, .emp, .emp, .emp] k = .nx [.val .deck, .val (.str g), .val (.lst (every g)), a0, b0, c0, d0, e0, f0, h0] k := by
    unfold d__law_rolls_right_1
    rw [a_for]
    exact m1
  obtain ⟨s', k', l1, ⟨a, b', c, d, e, f, h, rfl⟩, ok'⟩ := loopS_inv (g := mName 4) (body := d__law_rolls_right_2_b) (I := fun s => ∃ a b c d e f h, s = [.val .deck, .val (.str g), .val (.lst (every g)), a, b, c, d, e, f, h]) (c := 2)
    (ds := [.int 0, .int 1, .int 2, .int 3, .int 4, .int 5, .int 6, .int 7]) (b := b) (s := [.val .deck, .val (.str g), .val (.lst (every g)), a0, b0, c0, d0, e0, f0, h0]) (k := k) (fun it _ b s k ⟨a, b', c, d, e, f, h, hs⟩ ok => by
      subst hs
      obtain ⟨x, k1, hx, e1, ok1⟩ := pick_ok (xs := every g) (b := b + 1) ok hne (by omega)
      obtain ⟨y, k2, hy, e2, ok2⟩ := pick_ok (xs := every g) (b := b) ok1 hne (by omega)
      obtain ⟨x, rfl, sx⟩ := small x hx
      obtain ⟨y, rfl, sy⟩ := small y hy
      obtain ⟨i, hi⟩ := List.getElem?_of_mem hx
      obtain ⟨j, hj⟩ := List.getElem?_of_mem hy
      have ix := map_at F.ix hi
      have iy := map_at F.ix hj
      have mi : ((every g).map cpsD)[i]? = some x.cps.toList := by rw [List.getElem?_map, hi]; rfl
      have mj : ((every g).map cpsD)[j]? = some y.cps.toList := by rw [List.getElem?_map, hj]; rfl
      have axy : ∀ k, fn_is_ahead [.str x, .str y] k = .ok (.bl (decide (i < j))) k := fun k => by rw [is_ahead_str sx sy, sorted_at F.so mi mj]
      have axx : ∀ k, fn_is_ahead [.str x, .str x] k = .ok (.bl false) k := fun k => by rw [is_ahead_str sx sx, sorted_at F.so mi mi, decide_eq_false (Nat.lt_irrefl i)]
      have lt : ltD (.int (i : Nat)) (.int (j : Nat)) = some (.bl (decide (i < j))) := by
        show some (D.bl (decide ((i : Int) < (j : Int)))) = _
        simp
      obtain ⟨t, ht⟩ := rep3 (decide (i < j))
      refine ⟨_, rfl, [.val .deck, .val (.str g), .val (.lst (every g)), a, .val it, .val (.bl (decide (i < j))), .val (.lst [.bl (decide (i < j)), .bl (decide (i < j)), .bl false]), .val (.str x), .val (.str y), h], k2, ?_, ⟨_, _, _, _, _, _, _, rfl⟩, ok2⟩
      have t1 : sPar 7 8 (dCons (dCall fn__law_pick (dCons (dVar 0) (dCons (dVar 2) dNil))) (dCons (dCall fn__law_pick (dCons (dVar 0) (dCons (dVar 2) dNil))) dNil)) [.val .deck, .val (.str g), .val (.lst (every g)), a, .val it, c, d, e, f, h] k
          = .nx [.val .deck, .val (.str g), .val (.lst (every g)), a, .val it, c, d, .val (.str x), .val (.str y), h] k2 := by simp [a_ss, a_sb, a_ret, a_nx, a_if, a_asg, a_par, a_for, a_name, a_fn, a_eb, a_ep, a_eo, a_var, a_op, a_B, a_un, a_andV, a_orV, a_notV, a_and, a_or, a_not, a_ifE, a_nil, a_cons, a_tup, a_lst, a_callB, a_call, a_callK, a_items, a_methT, a_slice, bE_ok, oE_some, bR_ok, bN_nx, bN_ret, oS_some, fR_nx, fR_ret, boolOf_bl, e1, e2]
      clear e1 e2 mi mj
      generalize decide (i < j) = bb at *
      unfold d__law_rolls_right_2_b
      simp only [List.set_cons_succ, List.set_cons_zero]
      rw [a_ss, t1]
      simp [a_ss, a_sb, a_ret, a_nx, a_if, a_asg, a_par, a_for, a_name, a_fn, a_eb, a_ep, a_eo, a_var, a_op, a_B, a_un, a_andV, a_orV, a_notV, a_and, a_or, a_not, a_ifE, a_nil, a_cons, a_tup, a_lst, a_callB, a_call, a_callK, a_items, a_methT, a_slice, bE_ok, oE_some, bR_ok, bN_nx, bN_ret, oS_some, fR_nx, fR_ret, boolOf_bl, one, okTy, ix, iy, lt, axy, axx, perm, ht, eqD_same_str, sizeLine]) ⟨_, _, _, _, _, _, _, rfl⟩ ok
  refine ⟨k', ?_, ok'⟩
  have s2 : d__law_rolls_right_2 [.val .deck, .val (.str g), .val (.lst (every g)), a0, b0, c0, d0, e0, f0, h0] k = .nx [.val .deck, .val (.str g), .val (.lst (every g)), a, b', c, d, e, f, h] k' := by
    unfold d__law_rolls_right_2
    rw [a_for]
    exact l1
  unfold fn__law_rolls_right d__law_rolls_right d__law_rolls_right_3
  simp [a_ss, a_sb, a_ret, a_nx, a_if, a_asg, a_par, a_for, a_name, a_fn, a_eb, a_ep, a_eo, a_var, a_op, a_B, a_un, a_andV, a_orV, a_notV, a_and, a_or, a_not, a_ifE, a_nil, a_cons, a_tup, a_lst, a_callB, a_call, a_callK, a_items, a_methT, a_slice, bE_ok, oE_some, bR_ok, bN_nx, bN_ret, oS_some, fR_nx, fR_ret, boolOf_bl, s0, s1, s2]
/-! digits, of any string -/
def figs : Str := "0123456789"
def lt1 (l : List Nat) (i : Nat) : Bool := decide (l.getD i 0 < l.getD (i + 1) 0)
def ascB (l : List Nat) : Bool := (List.range (l.length - 1)).all (lt1 l)
theorem figs_of {c : Nat} (h : inS "0123456789" c = true) : 48 ≤ c ∧ c ≤ 57 := by
  have : c ∈ [48, 49, 50, 51, 52, 53, 54, 55, 56, 57] := of_decide_eq_true h
  simp only [List.mem_cons, List.not_mem_nil, or_false] at this
  omega
theorem asc_len {l : List Nat} (h1 : ascB l = true) (h2 : l.all (inS "0123456789") = true) : l.length ≤ 10 := by
  have low : ∀ i, i < l.length → 48 + i ≤ l.getD i 0 := fun i => by
    induction i with
    | zero =>
      intro h
      have := figs_of (List.all_eq_true.mp h2 (l[0]) (List.getElem_mem h))
      rw [List.getD_eq_getElem?_getD, List.getElem?_eq_getElem h]
      simpa using this.1
    | succ i ih =>
      intro h
      have a := ih (by omega)
      have b := List.all_eq_true.mp h1 i (List.mem_range.mpr (by omega))
      have b := of_decide_eq_true b
      omega
  by_cases z : l.length ≤ 10
  · exact z
  · have h : 10 < l.length := by omega
    have a := low 10 h
    have b := figs_of (List.all_eq_true.mp h2 (l[10]) (List.getElem_mem h))
    rw [List.getD_eq_getElem?_getD, List.getElem?_eq_getElem h] at a
    simp at a
    omega
theorem ix_str {x : Str} {i : Nat} (h : i < x.length) (hl : x.length ≤ 1000) : ixD (.str x) (.int (i : Nat)) = some (.str (sgn (x.cps.toList.getD i 0))) := by
  have h' : i < x.cps.toList.length := h
  have e : atI x.cps.toList (i : Nat) = some (x.cps.toList.getD i 0) := by
    rw [List.getD_eq_getElem?_getD]
    exact atI_nat (by rw [List.getElem?_eq_getElem h']; rfl)
  show (match atI x.cps.toList (i : Nat) with
    | some c => chk (decide (x.length ≤ sizeLine)) (.str (sgn c))
    | none => none) = _
  rw [e]
  exact chk_pos (decide_eq_true (Nat.le_trans hl (by decide)))
theorem lt_sgn (a b : Nat) : ltD (.str (sgn a)) (.str (sgn b)) = some (.bl (decide (a < b))) := by
  show some (D.bl (decide ([a] < [b]))) = _
  congr 2
  rw [decide_eq_decide]
  constructor
  · intro h
    cases h with
    | rel h => exact h
    | cons h => cases h
  · intro h; exact .rel h
theorem len_str {x : Str} (hl : x.length ≤ 1000) : lenD (.str x) = some (.int x.length) := by
  show chk _ _ = _
  exact chk_pos (decide_eq_true (Nat.le_trans hl (by decide)))
theorem are_digits_str {x : Str} {k : Option Dk} (hl : x.length ≤ 1000) : fn_are_digits [.str x] k = .ok (.bl (decide (x.cps.toList ≠ []) && (x.cps.toList.all (inS "0123456789") && ascB x.cps.toList))) k := by
  have hlen : x.length = x.cps.toList.length := rfl
  have e0 : eqD false (.str x) (.str "") = some (.bl (decide (x.cps.toList = []))) := by
    show some (D.bl (false ^^ decide (x.cps.toList = (Str.ofString "").cps.toList))) = _
    rw [show (Str.ofString "").cps.toList = [] by decide +kernel, Bool.false_xor]
  by_cases z : x.cps.toList = []
  · rw [decide_eq_true z] at e0
    unfold fn_are_digits d_are_digits d_are_digits_0
    simp [a_ss, a_sb, a_ret, a_nx, a_if, a_asg, a_par, a_for, a_name, a_fn, a_eb, a_ep, a_eo, a_var, a_op, a_B, a_un, a_andV, a_orV, a_notV, a_and, a_or, a_not, a_ifE, a_nil, a_cons, a_tup, a_lst, a_callB, a_call, a_callK, a_items, a_methT, a_slice, bE_ok, oE_some, bR_ok, bN_nx, bN_ret, oS_some, fR_nx, fR_ret, boolOf_bl, isiD, tyName, kitB, e0, z]
  · rw [decide_eq_false z] at e0
    have pos : 0 < x.cps.toList.length := List.length_pos_iff.mpr z
    have e1 : dLc (dItems (dVar 0)) (mName 1) (ep true) (dOp (inD false) (dVar 1) (ep (.str "0123456789"))) [1] [.val (.str x), .emp, .emp] k = .ok (.lst (x.cps.toList.map fun c => D.bl (inS "0123456789" c))) k := by
      rw [dLc_map (ds := G.signs x) (s1 := fun d => [.val (.str x), .val d, .emp]) (e := fun d => (inD false d (.str "0123456789")).getD .non) rfl (len_signs (by omega)) (fun _ _ => rfl) (fun d hd => by
          obtain ⟨c, hc, rfl⟩ := List.mem_map.mp hd
          rfl)]
      unfold G.signs
      rw [List.map_map]
      congr 3
      funext c
      show (some (D.bl (false ^^ decide (c ∈ (Str.ofString "0123456789").cps.toList)))).getD .non = _
      simp [inS]
    have hok : okI ((x.length : Int) - 1) = true := by rw [okI_iff]; omega
    have tn : ((x.length : Int) - 1).toNat = x.cps.toList.length - 1 := by omega
    have e2 : dLc (eb (dCons (dOp subD (dCallB (one lenD) (dCons (dVar 0) dNil)) (ep (.int 1))) dNil) fun ds => eo (rng1 ds)) (mName 2) (ep true) (dOp ltD (dOp ixD (dVar 0) (dVar 2)) (dOp ixD (dVar 0) (dOp addD (dVar 2) (ep (.int 1))))) [2] [.val (.str x), .emp, .emp] k
        = .ok (.lst ((List.range (x.cps.toList.length - 1)).map fun i => D.bl (lt1 x.cps.toList i))) k := by
      have sub : subD (.int (x.length : Int)) (.int 1) = some (.int ((x.length : Int) - 1)) := rfl
      rw [dLc_map (ds := (List.range (x.cps.toList.length - 1)).map fun i => D.int (i : Nat)) (s1 := fun d => [.val (.str x), .emp, .val d]) (e := fun d => match d with
          | .int i => .bl (lt1 x.cps.toList i.toNat)
          | _ => .non) (by simp [a_ss, a_sb, a_ret, a_nx, a_if, a_asg, a_par, a_for, a_name, a_fn, a_eb, a_ep, a_eo, a_var, a_op, a_B, a_un, a_andV, a_orV, a_notV, a_and, a_or, a_not, a_ifE, a_nil, a_cons, a_tup, a_lst, a_callB, a_call, a_callK, a_items, a_methT, a_slice, bE_ok, oE_some, bR_ok, bN_nx, bN_ret, oS_some, fR_nx, fR_ret, boolOf_bl, one, len_str hl, sub, rng1_of hok, tn]) (by rw [List.length_map, List.length_range]; exact Nat.le_trans (show x.cps.toList.length - 1 ≤ 1000 by omega) (by decide)) (fun _ _ => rfl) (fun d hd => by
          obtain ⟨i, hi, rfl⟩ := List.mem_map.mp hd
          have hi := List.mem_range.mp hi
          have a1 := ix_str (x := x) (i := i) (by omega) hl
          have a2 := ix_str (x := x) (i := i + 1) (by omega) hl
          have a3 : addD (.int (i : Nat)) (.int 1) = some (.int ((i + 1 : Nat) : Int)) := rfl
          simp only [a_ss, a_sb, a_ret, a_nx, a_if, a_asg, a_par, a_for, a_name, a_fn, a_eb, a_ep, a_eo, a_var, a_op, a_B, a_un, a_andV, a_orV, a_notV, a_and, a_or, a_not, a_ifE, a_nil, a_cons, a_tup, a_lst, a_callB, a_call, a_callK, a_items, a_methT, a_slice, bE_ok, oE_some, bR_ok, bN_nx, bN_ret, oS_some, fR_nx, fR_ret, boolOf_bl, List.getElem?_cons_succ, List.getElem?_cons_zero, a1, a2, a3, lt_sgn, Int.toNat_natCast, lt1])]
      rw [List.map_map]
      rfl
    unfold fn_are_digits d_are_digits d_are_digits_0 d_are_digits_1
    simp [a_ss, a_sb, a_ret, a_nx, a_if, a_asg, a_par, a_for, a_name, a_fn, a_eb, a_ep, a_eo, a_var, a_op, a_B, a_un, a_andV, a_orV, a_notV, a_and, a_or, a_not, a_ifE, a_nil, a_cons, a_tup, a_lst, a_callB, a_call, a_callK, a_items, a_methT, a_slice, bE_ok, oE_some, bR_ok, bN_nx, bN_ret, oS_some, fR_nx, fR_ret, boolOf_bl, isiD, tyName, kitB, e0, e1, e2, one, allD, bools_map, z]
    cases x.cps.all (inS "0123456789") <;> simp [a_ss, a_sb, a_ret, a_nx, a_if, a_asg, a_par, a_for, a_name, a_fn, a_eb, a_ep, a_eo, a_var, a_op, a_B, a_un, a_andV, a_orV, a_notV, a_and, a_or, a_not, a_ifE, a_nil, a_cons, a_tup, a_lst, a_callB, a_call, a_callK, a_items, a_methT, a_slice, bE_ok, oE_some, bR_ok, bN_nx, bN_ret, oS_some, fR_nx, fR_ret, boolOf_bl, e2, one, allD, bools_map, ascB]
theorem toPys_ints : ∀ l : List Int, toPys (l.map D.int) = some (l.map PyData.int)
  | [] => rfl
  | c :: l => by
    show (match toPy (D.int c), toPys (l.map D.int) with
      | some p, some ps => some (p :: ps)
      | _, _ => none) = _
    rw [toPys_ints l]; rfl
theorem eqD_ints_nil {l : List Int} : eqD false (.lst (l.map D.int)) (.lst []) = some (.bl (decide (l = []))) := by
  show eqD' false _ _ = _
  unfold eqD'
  show (match (toPys (l.map D.int)).map PyData.list, some (PyData.list []) with
    | some p, some q => chk (SeqAt.shaped p && SeqAt.shaped q) (.bl (false ^^ PyData.eqv p q))
    | _, _ => none) = _
  rw [toPys_ints]
  show chk (SeqAt.shaped (.list (l.map PyData.int)) && SeqAt.shaped (.list [])) (.bl (false ^^ PyData.eqv (.list (l.map PyData.int)) (.list []))) = _
  rw [shaped_ints, chk_pos (by decide)]
  cases l with
  | nil => rfl
  | cons c l => rfl
theorem le_ints (a b : Int) : leD (.int a) (.int b) = some (.bl (decide (a ≤ b))) := rfl
theorem a_chain {f g : D → D → Option D} {ta tb tc : ME D} {s : List Sl} {k : Option Dk} : dChain f g ta tb tc s k = bE (ta s k) fun x k1 => bE (tb s k1) fun y k2 => bE (oE (f x y) k2) fun z k3 => match z with
  | .bl true => bE (tc s k3) fun w k4 => oE (g y w) k4
  | .bl false => .ok (.bl false) k3
  | _ => .no := by
  unfold dChain
  simp only [a_eb, a_eo]
  congr 1
  funext x k1
  congr 1
  funext y k2
  congr 1
  funext z k3
  cases z with
  | bl b => cases b <;> rfl
  | _ => rfl
def flt1 (l : List Nat) : D → Bool
  | .int i => !lt1 l (i.toNat - 1)
  | _ => false
theorem asc_filter (l : List Nat) : ∃ m : List Int, ((List.range (l.length - 1)).map fun n => D.int (1 + (n : Nat))).filter (flt1 l) = m.map D.int ∧ decide (m = []) = ascB l := by
  refine ⟨((List.range (l.length - 1)).filter fun n => !lt1 l n).map fun n => (1 + (n : Nat) : Int), ?_, ?_⟩
  · rw [List.filter_map, List.map_map]
    have hf := List.filter_congr (l := List.range (l.length - 1)) (p := flt1 l ∘ fun n : Nat => D.int (1 + (n : Nat))) (q := fun n => !lt1 l n) (fun n _ => by
      show (!lt1 l ((1 + (n : Nat) : Int).toNat - 1)) = _
      rw [show (1 + (n : Nat) : Int).toNat - 1 = n by omega])
    rw [hf]
    rfl
  · unfold ascB
    rw [Bool.eq_iff_iff, decide_eq_true_eq, List.map_eq_nil_iff, List.filter_eq_nil_iff, List.all_eq_true]
    constructor
    · intro h c hc; have := h c hc; simpa using this
    · intro h c hc; rw [h c hc]; simp
end K01
namespace K01
open PySem PySem.Spec PyProof.Rows L2 G
def tst1 : ME Bool := dNot (dB (dOp ltD (dOp ixD (dVar 0) (dOp subD (dVar 1) (ep (.int 1)))) (dOp ixD (dVar 0) (dVar 1))))
theorem tst1_ok {x : Str} {k : Option Dk} {i : Nat} (hl : x.length ≤ 1000) (hi : i + 1 < x.length) : tst1 [.val (.str x), .val (.int (1 + (i : Nat))), .emp] k = .ok (flt1 x.cps.toList (.int (1 + (i : Nat)))) k := by
  have a1 := ix_str (x := x) (i := i) (by omega) hl
  have a2 : ixD (.str x) (.int (1 + (i : Nat))) = some (.str (sgn (x.cps.toList.getD (i + 1) 0))) := by
    have := ix_str (x := x) (i := i + 1) hi hl
    rw [show (1 + (i : Nat) : Int) = ((i + 1 : Nat) : Int) by omega]
    exact this
  have a3 : subD (.int (1 + (i : Nat))) (.int 1) = some (.int (i : Nat)) := by
    have e : subD (.int (1 + (i : Nat))) (.int 1) = some (.int (1 + (i : Nat) - 1)) := rfl
    rw [e, show (1 + (i : Nat) - 1 : Int) = (i : Nat) by omega]
  have a4 : flt1 x.cps.toList (.int (1 + (i : Nat))) = !lt1 x.cps.toList i := by
    unfold flt1
    have : (1 + (i : Nat) : Int).toNat - 1 = i := by omega
    dsimp only
    rw [this]
  rw [a4]
  unfold tst1 lt1
  simp only [a_ss, a_sb, a_ret, a_nx, a_if, a_asg, a_par, a_for, a_name, a_fn, a_eb, a_ep, a_eo, a_var, a_op, a_B, a_un, a_andV, a_orV, a_notV, a_and, a_or, a_not, a_ifE, a_nil, a_cons, a_tup, a_lst, a_callB, a_call, a_callK, a_items, a_methT, a_slice, bE_ok, oE_some, bR_ok, bN_nx, bN_ret, oS_some, fR_nx, fR_ret, boolOf_bl, List.getElem?_cons_succ, List.getElem?_cons_zero, a1, a2, a3, lt_sgn]
def rgD : ME (List D) := eb (dCons (ep (.int 1)) (dCons (dCallB (one lenD) (dCons (dVar 0) dNil)) dNil)) fun ds => eo (rng2 ds)
theorem rgD_ok {x : Str} {k : Option Dk} {ds : List D} (hl : x.length ≤ 1000) (rg : rng2 [.int 1, .int x.length] = some ds) : rgD [.val (.str x), .emp, .emp] k = .ok ds k := by
  have h : dCons (ep (.int 1)) (dCons (dCallB (one lenD) (dCons (dVar 0) dNil)) dNil) [.val (.str x), .emp, .emp] k = .ok [.int 1, .int x.length] k := by
    simp only [a_ss, a_sb, a_ret, a_nx, a_if, a_asg, a_par, a_for, a_name, a_fn, a_eb, a_ep, a_eo, a_var, a_op, a_B, a_un, a_andV, a_orV, a_notV, a_and, a_or, a_not, a_ifE, a_nil, a_cons, a_tup, a_lst, a_callB, a_call, a_callK, a_items, a_methT, a_slice, bE_ok, oE_some, bR_ok, bN_nx, bN_ret, oS_some, fR_nx, fR_ret, boolOf_bl, one, List.getElem?_cons_succ, List.getElem?_cons_zero, len_str hl]
  unfold rgD
  rw [a_eb, h, bE_ok, a_eo, rg, oE_some]
theorem e4_ok {x : Str} {k : Option Dk} (hl : x.length ≤ 1000) (rg : rng2 [.int 1, .int x.length] = some ((List.range (x.cps.toList.length - 1)).map fun n => D.int (1 + (n : Nat)))) :
    dLc rgD (mName 1) tst1 (dVar 1) [1] [.val (.str x), .emp, .emp] k = .ok (.lst (((List.range (x.cps.toList.length - 1)).map fun n => D.int (1 + (n : Nat))).filter (flt1 x.cps.toList))) k := by
  have hlen : x.length = x.cps.toList.length := rfl
  have h1 : ((List.range (x.cps.toList.length - 1)).map fun n => D.int (1 + (n : Nat))).length ≤ sizeLine := by
    rw [List.length_map, List.length_range]
    exact Nat.le_trans (show x.cps.toList.length - 1 ≤ 1000 by omega) (by decide)
  have h2 : ∀ d ∈ (List.range (x.cps.toList.length - 1)).map (fun n => D.int (1 + (n : Nat))), tst1 [.val (.str x), .val d, .emp] k = .ok (flt1 x.cps.toList d) k := fun d hd => by
    obtain ⟨i, hi, rfl⟩ := List.mem_map.mp hd
    have hi := List.mem_range.mp hi
    exact tst1_ok hl (by omega)
  exact dLc_filter (s1 := fun d => [.val (.str x), .val d, .emp]) (rgD_ok hl rg) h1 (fun _ _ => rfl) h2 (fun _ _ => rfl)
theorem are_signs_str {x : Str} {k : Option Dk} (hl : x.length ≤ 1000) (hx : Low x) : fn__law_are_signs [.str x] k = .ok (.bl (decide (x.cps.toList ≠ []) && (x.cps.toList.all (inS "0123456789") && ascB x.cps.toList))) k := by
  have hlen : x.length = x.cps.toList.length := rfl
  by_cases z : x.cps.toList = []
  · have l0 : x.length = 0 := by rw [hlen, z]; rfl
    have c1 : leD (.int 1) (.int x.length) = some (.bl false) := by rw [l0]; rfl
    unfold fn__law_are_signs d__law_are_signs d__law_are_signs_0
    simp [a_ss, a_sb, a_ret, a_nx, a_if, a_asg, a_par, a_for, a_name, a_fn, a_eb, a_ep, a_eo, a_var, a_op, a_B, a_un, a_andV, a_orV, a_notV, a_and, a_or, a_not, a_ifE, a_nil, a_cons, a_tup, a_lst, a_callB, a_call, a_callK, a_items, a_methT, a_slice, bE_ok, oE_some, bR_ok, bN_nx, bN_ret, oS_some, fR_nx, fR_ret, boolOf_bl, isiD, tyName, kitB, one, len_str hl, a_chain, c1, z]
  · have pos : 0 < x.cps.toList.length := List.length_pos_iff.mpr z
    have c1 : leD (.int 1) (.int x.length) = some (.bl true) := by rw [le_ints, decide_eq_true (by omega)]
    have e1 : dLc (dItems (dVar 0)) (mName 2) (dB (dOp (inD true) (dVar 2) (ep (.str "0123456789")))) (dVar 2) [2] [.val (.str x), .emp, .emp] k = .ok (.lst ((x.cps.toList.filter fun c => !inS "0123456789" c).map fun c => D.str (sgn c))) k := by
      rw [dLc_filter (ds := G.signs x) (s1 := fun d => [.val (.str x), .emp, .val d]) (t := fun d => match inD true d (.str "0123456789") with | some (.bl b) => b | _ => false) rfl (len_signs (by omega)) (fun _ _ => rfl) (fun d hd => by
          obtain ⟨c, hc, rfl⟩ := List.mem_map.mp hd
          rfl) (fun _ _ => rfl)]
      unfold G.signs
      rw [signs_filter (fun c => !inS "0123456789" c)]
      intro c
      show (true ^^ decide (c ∈ (Str.ofString "0123456789").cps.toList)) = _
      unfold inS
      simp
    have e2 := eqD_signs_nil (neg := true) (l := x.cps.toList.filter fun c => !inS "0123456789" c) (fun c hc => hx c (List.mem_filter.mp hc).1)
    have e3 : (true ^^ decide ((x.cps.toList.filter fun c => !inS "0123456789" c) = [])) = !x.cps.toList.all (inS "0123456789") := by
      rw [Bool.true_xor]
      congr 1
      rw [Bool.eq_iff_iff, decide_eq_true_eq, List.filter_eq_nil_iff, List.all_eq_true]
      constructor
      · intro h c hc; have := h c hc; simpa using this
      · intro h c hc; rw [h c hc]; simp
    rw [e3] at e2
    have hok : okI ((x.length : Int)) = true := by rw [okI_iff]; omega
    have hok1 : okI 1 = true := by decide
    have tn : ((x.length : Int) - 1).toNat = x.cps.toList.length - 1 := by omega
    have rg : rng2 [.int 1, .int x.length] = some ((List.range (x.cps.toList.length - 1)).map fun n => D.int (1 + (n : Nat))) := by
      show (if okI 1 = true ∧ okI (x.length : Int) = true then some ((List.range ((x.length : Int) - 1).toNat).map fun n => D.int (1 + (n : Nat))) else none) = _
      rw [if_pos ⟨hok1, hok⟩, tn]
    have e4 : dLc (eb (dCons (ep (.int 1)) (dCons (dCallB (one lenD) (dCons (dVar 0) dNil)) dNil)) fun ds => eo (rng2 ds)) (mName 1) (dNot (dB (dOp ltD (dOp ixD (dVar 0) (dOp subD (dVar 1) (ep (.int 1)))) (dOp ixD (dVar 0) (dVar 1))))) (dVar 1) [1] [.val (.str x), .emp, .emp] k
        = .ok (.lst (((List.range (x.cps.toList.length - 1)).map fun n => D.int (1 + (n : Nat))).filter (flt1 x.cps.toList))) k := by
      exact e4_ok hl rg
    have e5 := asc_filter x.cps.toList
    obtain ⟨l, e5, e6⟩ := e5
    rw [e5] at e4
    have e7 := eqD_ints_nil (l := l)
    rw [e6] at e7
    have key : x.cps.toList.all (inS "0123456789") = true → decide ((x.length : Int) ≤ 10) = false → ascB x.cps.toList = false := fun h1 h2 => by
      rw [Bool.eq_false_iff]
      intro h3
      have := asc_len h3 h1
      have := of_decide_eq_false h2
      omega
    unfold fn__law_are_signs d__law_are_signs d__law_are_signs_0 d__law_are_signs_1
    generalize hA : x.cps.toList.all (inS "0123456789") = A at *
    generalize hB : ascB x.cps.toList = B at *
    have c2 := le_ints (x.length : Int) 10
    generalize hC : decide ((x.length : Int) ≤ 10) = C at *
    simp only [a_ss, a_sb, a_ret, a_nx, a_if, a_asg, a_par, a_for, a_name, a_fn, a_eb, a_ep, a_eo, a_var, a_op, a_B, a_un, a_andV, a_orV, a_notV, a_and, a_or, a_not, a_ifE, a_nil, a_cons, a_tup, a_lst, a_callB, a_call, a_callK, a_items, a_methT, a_slice, bE_ok, oE_some, bR_ok, bN_nx, bN_ret, oS_some, fR_nx, fR_ret, boolOf_bl, isiD, tyName, kitB, one, len_str hl, a_chain, c1, c2, e1, e2, e4, e7]
    cases A <;> cases B <;> cases C <;> simp [a_ss, a_sb, a_ret, a_nx, a_if, a_asg, a_par, a_for, a_name, a_fn, a_eb, a_ep, a_eo, a_var, a_op, a_B, a_un, a_andV, a_orV, a_notV, a_and, a_or, a_not, a_ifE, a_nil, a_cons, a_tup, a_lst, a_callB, a_call, a_callK, a_items, a_methT, a_slice, bE_ok, oE_some, bR_ok, bN_nx, bN_ret, oS_some, fR_nx, fR_ret, boolOf_bl, isiD, tyName, kitB, one, len_str hl, a_chain, c1, c2, e1, e2, e4, e7, sizeLine, z] at key ⊢
end K01
namespace K01
open PySem PySem.Spec PyProof.Rows L2 G
/-! the values of all kinds -/
def ds10 : List Nat := [48, 49, 50, 51, 52, 53, 54, 55, 56, 57]
def strL (l : List Nat) : Str := ⟨l.toArray⟩
def tri (l : List Nat) : List D := [.str (strL l), .str (revS (strL l)), .str (strL l ++ cutS (strL l) (some (-1)) none)]
def Good1 (it : D) : Prop := ∃ b t, (∀ k, fn_are_digits [it] k = .ok (.bl b) k) ∧ (∀ k, fn__law_are_signs [it] k = .ok (.bl b) k) ∧ reprD it = some (.str t)
theorem isRep_some {d : D} (h : isRep d = true) : ∃ t, reprD d = some (.str t) := by
  unfold isRep at h
  split at h
  · rename_i t e; exact ⟨t, e⟩
  · cases h
theorem good_cand {d : D} (h : d ∈ cands) : Good1 d := by
  obtain ⟨t, ht⟩ := isRep_some (List.all_eq_true.mp c3 d h)
  exact ⟨_, t, fun k => congrFun (List.map_inj_left.mp c1 d h) k, fun k => congrFun (List.map_inj_left.mp c2 d h) k, ht⟩
theorem good1_str {z : Str} (h : Low z) (hl : z.length ≤ 1000) : Good1 (.str z) := by
  obtain ⟨t, ht⟩ := repr_str h (by omega)
  exact ⟨_, t, fun k => are_digits_str hl, fun k => are_signs_str hl h, ht⟩
theorem some_ok {b : Nat} {k : Option Dk} (ok : OkB (b + 16) k) : ∃ ds k', fn__law_some [.deck] k = .ok (.lst ds) k' ∧ (∀ d ∈ ds, Good1 d) ∧ ds.length ≤ 9 ∧ OkB b k' := by
  have s0 : d__law_some_0 [.val .deck, .emp, .emp, .emp, .emp] k = .nx [.val .deck, .val (.lst candsA), .emp, .emp, .emp] k := by
    unfold d__law_some_0 candsA
    simp [a_ss, a_sb, a_ret, a_nx, a_if, a_asg, a_par, a_for, a_name, a_fn, a_eb, a_ep, a_eo, a_var, a_op, a_B, a_un, a_andV, a_orV, a_notV, a_and, a_or, a_not, a_ifE, a_nil, a_cons, a_tup, a_lst, a_callB, a_call, a_callK, a_items, a_methT, a_slice, bE_ok, oE_some, bR_ok, bN_nx, bN_ret, oS_some, fR_nx, fR_ret, boolOf_bl, sizeLine]
  have eB : d__law_some_1 [.val .deck, .val (.lst candsA), .emp, .emp, .emp] k = .nx [.val .deck, .val (.lst cands), .emp, .emp, .emp] k := by
    kernel_rfl
  -- the signs
  obtain ⟨ys, k1, e1, e2, ok1⟩ := lcL_draw (g := mName 3) (tt := dB (dOp (eqD false) (dCall fn__law_draw (dCons (dVar 0) (dCons (ep (.int 2)) dNil))) (ep (.int 0)))) (te := dVar 3) (s0 := [.val .deck, .val (.lst cands), .emp, .emp, .emp])
    (P := fun d y => y = d) (c := 1) (ds := ds10.map fun c => D.str (sgn c)) (n := 0) (b := b + 6) (k := k) (by decide)
    (fun d _ b k ok => by
      obtain ⟨r, k', e, r0, r1, ok'⟩ := draw_ok (p := ⟨60223, 223, 69621, 29⟩) (many := (2 : Int)) (b := b) ok (by decide) (by decide)
      have hq : eqD false (.int r) (.int 0) = some (.bl (decide (r = 0))) := by
        show some (D.bl (false ^^ decide (r = 0))) = _
        simp
      refine ⟨_, rfl, ?_⟩
      by_cases h : r = 0
      · refine .inr ⟨k', d, k', ?_, rfl, rfl, ok'⟩
        rw [decide_eq_true h] at hq
        simp [a_ss, a_sb, a_ret, a_nx, a_if, a_asg, a_par, a_for, a_name, a_fn, a_eb, a_ep, a_eo, a_var, a_op, a_B, a_un, a_andV, a_orV, a_notV, a_and, a_or, a_not, a_ifE, a_nil, a_cons, a_tup, a_lst, a_callB, a_call, a_callK, a_items, a_methT, a_slice, bE_ok, oE_some, bR_ok, bN_nx, bN_ret, oS_some, fR_nx, fR_ret, boolOf_bl, fn__law_draw, e, hq]
      · refine .inl ⟨k', ?_, ok'⟩
        rw [decide_eq_false h] at hq
        simp [a_ss, a_sb, a_ret, a_nx, a_if, a_asg, a_par, a_for, a_name, a_fn, a_eb, a_ep, a_eo, a_var, a_op, a_B, a_un, a_andV, a_orV, a_notV, a_and, a_or, a_not, a_ifE, a_nil, a_cons, a_tup, a_lst, a_callB, a_call, a_callK, a_items, a_methT, a_slice, bE_ok, oE_some, bR_ok, bN_nx, bN_ret, oS_some, fR_nx, fR_ret, boolOf_bl, fn__law_draw, e, hq]) (ok.mono (by show b + 6 + 1 * 10 ≤ b + 16; omega))
  obtain ⟨l, hl, rfl⟩ := List.sublist_map_iff.mp e2.sub
  have hll : l.length ≤ 10 := hl.length_le
  have hlow : ∀ c ∈ l, c < 128 := fun c hc => by
    have : c ∈ ds10 := hl.subset hc
    simp only [ds10, List.mem_cons, List.not_mem_nil, or_false] at this
    omega
  have ej := join_sgn (l := l) (by omega)
  have it0 : itemsOf (.str "0123456789") = some (ds10.map fun c => D.str (sgn c)) := by kernel_rfl
  have s2 : d__law_some_2 [.val .deck, .val (.lst cands), .emp, .emp, .emp] k = .nx [.val .deck, .val (.lst cands), .val (.str (strL l)), .emp, .emp] k1 := by
    unfold d__law_some_2 strL
    simp only [a_ss, a_sb, a_ret, a_nx, a_if, a_asg, a_par, a_for, a_name, a_fn, a_eb, a_ep, a_eo, a_var, a_op, a_B, a_un, a_andV, a_orV, a_notV, a_and, a_or, a_not, a_ifE, a_nil, a_cons, a_tup, a_lst, a_callB, a_call, a_callK, a_items, a_methT, a_slice, bE_ok, oE_some, bR_ok, bN_nx, bN_ret, oS_some, fR_nx, fR_ret, boolOf_bl, a_lc, it0, wipeS, List.set_cons_succ, List.set_cons_zero, e1, lR_ok, okTy, beq_self_eq_true, ej]
  -- six of the list
  obtain ⟨zs, k2, f1, f2, ok2⟩ := lcL_draw (g := mName 4) (tt := ep true) (te := dCall fn__law_pick (dCons (dVar 0) (dCons (dVar 1) dNil))) (s0 := [.val .deck, .val (.lst cands), .val (.str (strL l)), .emp, .emp])
    (P := fun _ y => y ∈ cands) (c := 1) (ds := [.int 0, .int 1, .int 2, .int 3, .int 4, .int 5]) (n := 0) (b := b) (k := k1) (by decide)
    (fun d _ b k ok => by
      obtain ⟨x, k', hx, e, ok'⟩ := pick_ok (xs := cands) ok (by unfold cands candsA; simp) (by unfold cands candsA candsB; simp)
      refine ⟨_, rfl, .inr ⟨k, x, k', rfl, ?_, hx, ok'⟩⟩
      simp [a_ss, a_sb, a_ret, a_nx, a_if, a_asg, a_par, a_for, a_name, a_fn, a_eb, a_ep, a_eo, a_var, a_op, a_B, a_un, a_andV, a_orV, a_notV, a_and, a_or, a_not, a_ifE, a_nil, a_cons, a_tup, a_lst, a_callB, a_call, a_callK, a_items, a_methT, a_slice, bE_ok, oE_some, bR_ok, bN_nx, bN_ret, oS_some, fR_nx, fR_ret, boolOf_bl, e]) ok1
  have hz : zs.length ≤ 6 := f2.len
  have hcp : (strL l).cps.toList = l := by simp [strL]
  have hs : (strL l).length = l.length := by show l.toArray.size = _; simp
  have r1 : revD (.str (strL l)) = some (.str (revS (strL l))) := by
    show chk _ _ = _
    exact chk_pos (decide_eq_true (by rw [hs]; exact Nat.le_trans hll (by decide)))
  have r2 : sliceD (.str (strL l)) (some (-1)) none = some (.str (cutS (strL l) (some (-1)) none)) := by
    show chk _ _ = _
    exact chk_pos (decide_eq_true (by rw [hs]; exact Nat.le_trans hll (by decide)))
  have hsub : ∀ c ∈ (cutS (strL l) (some (-1)) none).cps.toList, c ∈ l := fun c hc => by
    unfold cutS at hc
    simp only [] at hc
    have := List.mem_of_mem_drop (List.mem_of_mem_take hc)
    rwa [hcp] at this
  have hc : (cutS (strL l) (some (-1)) none).length ≤ 10 := by
    unfold cutS
    show (List.toArray _).size ≤ 10
    rw [List.size_toArray]
    refine Nat.le_trans (List.length_take_le' ..) (Nat.le_trans (List.length_drop ▸ Nat.sub_le _ _) ?_)
    rw [hcp]
    exact hll
  have r3 : addD (.str (strL l)) (.str (cutS (strL l) (some (-1)) none)) = some (.str (strL l ++ cutS (strL l) (some (-1)) none)) := add_str (by rw [hs]; omega)
  have r4 : addD (.lst zs) (.lst (tri l)) = some (.lst (zs ++ tri l)) := by
    show chk _ _ = _
    refine chk_pos (decide_eq_true (Nat.le_trans (Nat.add_le_add hz (Nat.le_refl 3)) (by decide)))
  have s3 : d__law_some_3 [.val .deck, .val (.lst cands), .val (.str (strL l)), .emp, .emp] k1 = .ret (.lst (zs ++ tri l)) k2 := by
    have q : dLc (eb (dCons (ep (.int 6)) dNil) fun ds => eo (rng1 ds)) (mName 4) (ep true) (dCall fn__law_pick (dCons (dVar 0) (dCons (dVar 1) dNil))) [4] [.val .deck, .val (.lst cands), .val (.str (strL l)), .emp, .emp] k1 = .ok (.lst zs) k2 := by
      have rr : (eb (dCons (ep (.int 6)) dNil) fun ds => eo (rng1 ds)) [.val .deck, .val (.lst cands), .val (.str (strL l)), .emp, .emp] k1 = .ok [.int 0, .int 1, .int 2, .int 3, .int 4, .int 5] k1 := by kernel_rfl
      rw [a_lc, rr, bE_ok]
      rw [show wipeS [Sl.val .deck, Sl.val (.lst cands), Sl.val (.str (strL l)), .emp, .emp] [4] = [Sl.val .deck, Sl.val (.lst cands), Sl.val (.str (strL l)), .emp, .emp] from rfl, f1, lR_ok]
    unfold d__law_some_3
    unfold tri at r4 ⊢
    simp only [a_ss, a_sb, a_ret, a_nx, a_if, a_asg, a_par, a_for, a_name, a_fn, a_eb, a_ep, a_eo, a_var, a_op, a_B, a_un, a_andV, a_orV, a_notV, a_and, a_or, a_not, a_ifE, a_nil, a_cons, a_tup, a_lst, a_callB, a_call, a_callK, a_items, a_methT, a_slice, bE_ok, oE_some, bR_ok, bN_nx, bN_ret, oS_some, fR_nx, fR_ret, boolOf_bl, q, List.getElem?_cons_succ, List.getElem?_cons_zero, negD, intOf, r1, r2, r3, List.length_cons, List.length_nil]
    rw [if_pos (by decide)]
    simp only [a_ss, a_sb, a_ret, a_nx, a_if, a_asg, a_par, a_for, a_name, a_fn, a_eb, a_ep, a_eo, a_var, a_op, a_B, a_un, a_andV, a_orV, a_notV, a_and, a_or, a_not, a_ifE, a_nil, a_cons, a_tup, a_lst, a_callB, a_call, a_callK, a_items, a_methT, a_slice, bE_ok, oE_some, bR_ok, bN_nx, bN_ret, oS_some, fR_nx, fR_ret, boolOf_bl, r4]
  refine ⟨zs ++ tri l, k2, ?_, ?_, by rw [List.length_append]; exact Nat.add_le_add hz (Nat.le_refl 3), ok2⟩
  · unfold fn__law_some d__law_some
    simp [a_ss, a_sb, a_ret, a_nx, a_if, a_asg, a_par, a_for, a_name, a_fn, a_eb, a_ep, a_eo, a_var, a_op, a_B, a_un, a_andV, a_orV, a_notV, a_and, a_or, a_not, a_ifE, a_nil, a_cons, a_tup, a_lst, a_callB, a_call, a_callK, a_items, a_methT, a_slice, bE_ok, oE_some, bR_ok, bN_nx, bN_ret, oS_some, fR_nx, fR_ret, boolOf_bl, s0, eB, s2, s3]
  · intro d hd
    rcases List.mem_append.mp hd with h | h
    · exact good_cand (f2.all (Q := fun y => y ∈ cands) (fun _ _ h => h) d h)
    · have l1 : Low (strL l) := fun c hc => hlow c (by rwa [hcp] at hc)
      have l3 : Low (cutS (strL l) (some (-1)) none) := fun c hc => hlow c (hsub c hc)
      unfold tri at h
      simp only [List.mem_cons, List.not_mem_nil, or_false] at h
      rcases h with rfl | rfl | rfl
      · exact good1_str l1 (by omega)
      · refine good1_str (fun c hc => hlow c ?_) ?_
        · have : c ∈ (strL l).cps.toList.reverse := by simpa [revS] using hc
          rw [hcp] at this
          exact List.mem_reverse.mp this
        · show (List.toArray _).size ≤ 1000
          rw [List.size_toArray, List.length_reverse, hcp]
          omega
      · exact good1_str (low_app l1 l3) (by rw [len_app]; omega)
end K01
namespace K01
open PySem PySem.Spec PyProof.Rows L2 G
theorem deck_ok {ns : List Int} (h : ns.length ≤ 63) : ∃ cs m, fn__law_deck [.scr ns] none = .ok (deckD cs m 0) none ∧ cs.length ≤ 63 := by
  obtain ⟨cs, hcs, hlen⟩ : ∃ cs : List Int, G.cutD (ns.map D.int) none (some 63) = cs.map D.int ∧ cs.length ≤ 63 := by
    refine ⟨(ns.drop (HT.sIx (ns.map D.int).length 0 none)).take (HT.sIx (ns.map D.int).length (ns.map D.int).length (some 63) - HT.sIx (ns.map D.int).length 0 none), ?_, ?_⟩
    · unfold G.cutD
      rw [← List.map_drop, ← List.map_take]
    · refine Nat.le_trans (List.length_take_le' ..) (Nat.le_trans (List.length_drop ▸ Nat.sub_le _ _) h)
  obtain ⟨s', l1, a, m, m0, m1, rfl⟩ := loopS_pure (g := mName 1) (body := d__law_deck_1_b) (k := none) (I := fun s => ∃ a m, (0 : Int) ≤ m ∧ m < 2147483648 ∧ s = [.val (.scr ns), a, .val (.lst (cs.map D.int)), .val (.int m)])
    (ds := cs.map D.int) (s := [.val (.scr ns), .emp, .val (.lst (cs.map D.int)), .val (.int 10870010)]) (fun d hd s ⟨a, m, m0, m1, hs⟩ => by
      subst hs
      obtain ⟨c, _, rfl⟩ := List.mem_map.mp hd
      have hm : okMul m 39373 = true := by
        unfold okMul
        rw [decide_eq_true_eq]
        have h1 : m.natAbs < 2 ^ 31 := by omega
        have h2 : m.natAbs.log2 < 31 ∨ m.natAbs = 0 := by
          by_cases z : m.natAbs = 0
          · exact .inr z
          · exact .inl ((Nat.log2_lt z).mpr h1)
        have h3 : (39373 : Int).natAbs.log2 = 15 := by decide +kernel
        rw [h3]
        rcases h2 with h2 | h2
        · omega
        · rw [h2]
          have : Nat.log2 0 = 0 := by decide +kernel
          omega
      refine ⟨_, rfl, [.val (.scr ns), .val (.int c), .val (.lst (cs.map D.int)), .val (.int ((m * 39373 + c % 2147483629 + 223) % 2147483587))], ?_, _, _, Int.emod_nonneg _ (by decide), Int.lt_trans (Int.emod_lt_of_pos _ (by decide)) (by decide), rfl⟩
      unfold d__law_deck_1_b
      simp [a_ss, a_sb, a_ret, a_nx, a_if, a_asg, a_par, a_for, a_name, a_fn, a_eb, a_ep, a_eo, a_var, a_op, a_B, a_un, a_andV, a_orV, a_notV, a_and, a_or, a_not, a_ifE, a_nil, a_cons, a_tup, a_lst, a_callB, a_call, a_callK, a_items, a_methT, a_slice, bE_ok, oE_some, bR_ok, bN_nx, bN_ret, oS_some, fR_nx, fR_ret, boolOf_bl, one, G.intD, addD, mulsD, modD, iiD, hm, chk]) ⟨_, _, by decide, by decide, rfl⟩
  refine ⟨cs.reverse, m, ?_, by rw [List.length_reverse]; exact hlen⟩
  have s0 : d__law_deck_0 [.val (.scr ns), .emp, .emp, .emp] none = .nx [.val (.scr ns), .emp, .val (.lst (cs.map D.int)), .val (.int 10870010)] none := by
    unfold d__law_deck_0
    simp [a_ss, a_sb, a_ret, a_nx, a_if, a_asg, a_par, a_for, a_name, a_fn, a_eb, a_ep, a_eo, a_var, a_op, a_B, a_un, a_andV, a_orV, a_notV, a_and, a_or, a_not, a_ifE, a_nil, a_cons, a_tup, a_lst, a_callB, a_call, a_callK, a_items, a_methT, a_slice, bE_ok, oE_some, bR_ok, bN_nx, bN_ret, oS_some, fR_nx, fR_ret, boolOf_bl, one, sliceD, intOf, hcs, lstsD]
  have s1 : d__law_deck_1 [.val (.scr ns), .emp, .val (.lst (cs.map D.int)), .val (.int 10870010)] none = .nx [.val (.scr ns), a, .val (.lst (cs.map D.int)), .val (.int m)] none := by
    unfold d__law_deck_1
    rw [a_for]
    exact l1
  have s2 : d__law_deck_2 [.val (.scr ns), a, .val (.lst (cs.map D.int)), .val (.int m)] none = .ret (deckD cs.reverse m 0) none := by
    unfold deckD
    rw [List.map_reverse]
    rfl
  unfold fn__law_deck d__law_deck
  simp [a_ss, a_sb, a_ret, a_nx, a_if, a_asg, a_par, a_for, a_name, a_fn, a_eb, a_ep, a_eo, a_var, a_op, a_B, a_un, a_andV, a_orV, a_notV, a_and, a_or, a_not, a_ifE, a_nil, a_cons, a_tup, a_lst, a_callB, a_call, a_callK, a_items, a_methT, a_slice, bE_ok, oE_some, bR_ok, bN_nx, bN_ret, oS_some, fR_nx, fR_ret, boolOf_bl, s0, s1, s2]
theorem law_body0 {it : D} (h : Good1 it) {x y a b c d e : Sl} {k : Option Dk} : ∃ c' d', d_law_0_b [x, y, .val it, a, b, c, d, e] k = .nx [x, y, .val it, a, b, c', d', e] k := by
  obtain ⟨bb, t, h1, h2, h3⟩ := h
  obtain ⟨t2, h4⟩ := rep2 bb
  refine ⟨.val (.str t), .val (.bl bb), ?_⟩
  unfold d_law_0_b
  simp [a_ss, a_sb, a_ret, a_nx, a_if, a_asg, a_par, a_for, a_name, a_fn, a_eb, a_ep, a_eo, a_var, a_op, a_B, a_un, a_andV, a_orV, a_notV, a_and, a_or, a_not, a_ifE, a_nil, a_cons, a_tup, a_lst, a_callB, a_call, a_callK, a_items, a_methT, a_slice, bE_ok, oE_some, bR_ok, bN_nx, bN_ret, oS_some, fR_nx, fR_ret, boolOf_bl, one, h1, h2, h3, h4, perm, eqD_same_str, sizeLine]
/-- the strings of signs that are picked -/
def Sg (g : Str) : Prop := g.cps.toList ≠ [] ∧ g.length ≤ 10 ∧ Low g ∧ (g.length < 10 → RollFacts g)
theorem sg_of (g : Str) (hne : decide (g.cps.toList ≠ []) = true) (hl : decide (g.length ≤ 10) = true) (hlow : g.cps.toList.all (fun c => decide (c < 128)) = true) (h : g.length < 10 → RollFacts g) : Sg g :=
  ⟨of_decide_eq_true hne, of_decide_eq_true hl, fun c hc => of_decide_eq_true (List.all_eq_true.mp hlow c hc), h⟩
theorem sgA : ∀ d ∈ ([.str "01", .str "0", .str "9", .str "38", .str "012"] : List D), ∃ g, d = .str g ∧ Sg g := by
  intro d hd
  simp only [List.mem_cons, List.not_mem_nil, or_false] at hd
  rcases hd with rfl | rfl | rfl | rfl | rfl
  · exact ⟨_, rfl, sg_of _ (by decide +kernel) (by decide +kernel) (by decide +kernel) fun _ => rf01⟩
  · exact ⟨_, rfl, sg_of _ (by decide +kernel) (by decide +kernel) (by decide +kernel) fun _ => rf0⟩
  · exact ⟨_, rfl, sg_of _ (by decide +kernel) (by decide +kernel) (by decide +kernel) fun _ => rf9⟩
  · exact ⟨_, rfl, sg_of _ (by decide +kernel) (by decide +kernel) (by decide +kernel) fun _ => rf38⟩
  · exact ⟨_, rfl, sg_of _ (by decide +kernel) (by decide +kernel) (by decide +kernel) fun _ => rf012⟩
theorem sgB : ∀ d ∈ ([.str "012", .str "1357", .str "0123456789", .str "48"] : List D), ∃ g, d = .str g ∧ Sg g := by
  intro d hd
  simp only [List.mem_cons, List.not_mem_nil, or_false] at hd
  rcases hd with rfl | rfl | rfl | rfl
  · exact ⟨_, rfl, sg_of _ (by decide +kernel) (by decide +kernel) (by decide +kernel) fun _ => rf012⟩
  · exact ⟨_, rfl, sg_of _ (by decide +kernel) (by decide +kernel) (by decide +kernel) fun _ => rf1357⟩
  · exact ⟨_, rfl, sg_of _ (by decide +kernel) (by decide +kernel) (by decide +kernel) fun h => absurd h (by decide +kernel)⟩
  · exact ⟨_, rfl, sg_of _ (by decide +kernel) (by decide +kernel) (by decide +kernel) fun _ => rf48⟩
theorem law_body1 {g : Str} (h : Sg g) {n : Nat} {k : Option Dk} (ok : OkB (n + 47) k) {x a b c d e f : Sl} : ∃ k', d_law_1_b [x, .val .deck, a, .val (.str g), b, c, d, e] k = .nx [x, .val .deck, a, .val (.str g), b, c, d, e] k' ∧ OkB n k' := by
  obtain ⟨h1, h2, h3, h4⟩ := h
  obtain ⟨k1, e1, ok1⟩ := tickets_ok (b := n + 16) ok h1 (by omega) h3
  have hlen : lenD (.str g) = some (.int g.length) := by
    show chk _ _ = _
    exact chk_pos (decide_eq_true (Nat.le_trans h2 (by decide)))
  by_cases q : g.length < 10
  · obtain ⟨k2, e2, ok2⟩ := rolls_ok (h4 q) (b := n) ok1
    refine ⟨k2, ?_, ok2⟩
    have lt : ltD (.int g.length) (.int 10) = some (.bl true) := by
      show some (D.bl (decide ((g.length : Int) < 10))) = _
      rw [decide_eq_true (by omega)]
    unfold d_law_1_b
    simp [a_ss, a_sb, a_ret, a_nx, a_if, a_asg, a_par, a_for, a_name, a_fn, a_eb, a_ep, a_eo, a_var, a_op, a_B, a_un, a_andV, a_orV, a_notV, a_and, a_or, a_not, a_ifE, a_nil, a_cons, a_tup, a_lst, a_callB, a_call, a_callK, a_items, a_methT, a_slice, bE_ok, oE_some, bR_ok, bN_nx, bN_ret, oS_some, fR_nx, fR_ret, boolOf_bl, one, e1, hlen, lt, e2]
  · refine ⟨k1, ?_, ok1.mono (by omega)⟩
    have lt : ltD (.int g.length) (.int 10) = some (.bl false) := by
      show some (D.bl (decide ((g.length : Int) < 10))) = _
      rw [decide_eq_false (by omega)]
    unfold d_law_1_b
    simp [a_ss, a_sb, a_ret, a_nx, a_if, a_asg, a_par, a_for, a_name, a_fn, a_eb, a_ep, a_eo, a_var, a_op, a_B, a_un, a_andV, a_orV, a_notV, a_and, a_or, a_not, a_ifE, a_nil, a_cons, a_tup, a_lst, a_callB, a_call, a_callK, a_items, a_methT, a_slice, bE_ok, oE_some, bR_ok, bN_nx, bN_ret, oS_some, fR_nx, fR_ret, boolOf_bl, one, e1, hlen, lt]
theorem plain : ∀ ns : List Int, ns.length ≤ 63 → ∃ cs m t, d_first (.val (.scr ns) :: List.replicate 7 .emp) none = .ok (deckD cs m t) none ∧ ∃ k', d_law (.val (.scr ns) :: .val .deck :: List.replicate 6 .emp) (some ⟨cs, m, t⟩) = .ret (.bl true) k' := by
  intro ns hns
  obtain ⟨cs, m, e0, hcs⟩ := deck_ok hns
  refine ⟨cs, m, 0, ?_, ?_⟩
  · unfold d_first
    simp [a_ss, a_sb, a_ret, a_nx, a_if, a_asg, a_par, a_for, a_name, a_fn, a_eb, a_ep, a_eo, a_var, a_op, a_B, a_un, a_andV, a_orV, a_notV, a_and, a_or, a_not, a_ifE, a_nil, a_cons, a_tup, a_lst, a_callB, a_call, a_callK, a_items, a_methT, a_slice, bE_ok, oE_some, bR_ok, bN_nx, bN_ret, oS_some, fR_nx, fR_ret, boolOf_bl, e0]
  have ok0 : OkB 1000 (some ⟨cs, m, 0⟩) := ⟨_, rfl, Int.le_refl 0, (show (0 : Int) + (1000 : Nat) ≤ 100000000000 by decide), hcs⟩
  generalize (some (⟨cs, m, 0⟩ : Dk)) = k0 at ok0
  -- the values
  obtain ⟨ds, k1, e1, hgood, hlen, ok1⟩ := some_ok (b := 984) ok0
  obtain ⟨s1, l1, a, b, c, d, e, f, rfl⟩ := loopS_pure (g := mName 2) (body := d_law_0_b) (k := k1) (I := fun s => ∃ a b c d e f, s = [.val (.scr ns), .val .deck, a, b, c, d, e, f]) (ds := ds) (s := [.val (.scr ns), .val .deck, .emp, .emp, .emp, .emp, .emp, .emp])
    (fun it hit s ⟨a, b, c, d, e, f, hs⟩ => by
      subst hs
      obtain ⟨c', d', hb⟩ := law_body0 (hgood it hit) (x := .val (.scr ns)) (y := .val .deck) (a := b) (b := c) (c := d) (d := e) (e := f) (k := k1)
      exact ⟨_, rfl, _, hb, _, _, _, _, _, _, rfl⟩) ⟨_, _, _, _, _, _, rfl⟩
  have t0 : d_law_0 [.val (.scr ns), .val .deck, .emp, .emp, .emp, .emp, .emp, .emp] k0 = .nx [.val (.scr ns), .val .deck, a, b, c, d, e, f] k1 := by
    unfold d_law_0
    simp [a_ss, a_sb, a_ret, a_nx, a_if, a_asg, a_par, a_for, a_name, a_fn, a_eb, a_ep, a_eo, a_var, a_op, a_B, a_un, a_andV, a_orV, a_notV, a_and, a_or, a_not, a_ifE, a_nil, a_cons, a_tup, a_lst, a_callB, a_call, a_callK, a_items, a_methT, a_slice, bE_ok, oE_some, bR_ok, bN_nx, bN_ret, oS_some, fR_nx, fR_ret, boolOf_bl, e1, itemsOf]
    exact l1
  -- tickets and rolls
  obtain ⟨x, k2, hx, e2, ok2⟩ := pick_ok (xs := [.str "01", .str "0", .str "9", .str "38", .str "012"]) (b := 983) ok1 (by simp) (by simp)
  obtain ⟨y, k3, hy, e3, ok3⟩ := pick_ok (xs := [.str "012", .str "1357", .str "0123456789", .str "48"]) (b := 982) ok2 (by simp) (by simp)
  obtain ⟨gx, rfl, sx⟩ := sgA x hx
  obtain ⟨gy, rfl, sy⟩ := sgB y hy
  obtain ⟨s4, k4, l2, ⟨a2, b2, c2, d2, e4, f2, rfl⟩, ok4⟩ := loopS_inv (g := mName 3) (body := d_law_1_b) (I := fun s => ∃ a b c d e f, s = [.val (.scr ns), .val .deck, a, b, c, d, e, f]) (c := 47) (ds := [.str gx, .str gy]) (b := 888) (s := [.val (.scr ns), .val .deck, a, b, c, d, e, f]) (k := k3)
    (fun it hit n s k ⟨a, b, c, d, e, f, hs⟩ ok => by
      subst hs
      have : ∃ g, it = .str g ∧ Sg g := by
        simp only [List.mem_cons, List.not_mem_nil, or_false] at hit
        rcases hit with rfl | rfl
        · exact ⟨_, rfl, sx⟩
        · exact ⟨_, rfl, sy⟩
      obtain ⟨g, rfl, sg⟩ := this
      obtain ⟨k', hb, ok'⟩ := law_body1 sg ok (x := .val (.scr ns)) (a := a) (b := c) (c := d) (d := e) (e := f) (f := f)
      exact ⟨_, rfl, _, k', hb, ⟨_, _, _, _, _, _, rfl⟩, ok'⟩) ⟨_, _, _, _, _, _, rfl⟩ ok3
  have t1 : d_law_1 [.val (.scr ns), .val .deck, a, b, c, d, e, f] k1 = .nx [.val (.scr ns), .val .deck, a2, b2, c2, d2, e4, f2] k4 := by
    unfold d_law_1
    simp [a_ss, a_sb, a_ret, a_nx, a_if, a_asg, a_par, a_for, a_name, a_fn, a_eb, a_ep, a_eo, a_var, a_op, a_B, a_un, a_andV, a_orV, a_notV, a_and, a_or, a_not, a_ifE, a_nil, a_cons, a_tup, a_lst, a_callB, a_call, a_callK, a_items, a_methT, a_slice, bE_ok, oE_some, bR_ok, bN_nx, bN_ret, oS_some, fR_nx, fR_ret, boolOf_bl, e2, e3, itemsOf, sizeLine]
    exact l2
  -- the great rolls
  obtain ⟨z, k5, hz, e5, ok5⟩ := pick_ok (xs := [.tup [.str "0123456789", .int 3], .tup [.str "01", .int 9], .tup [.str "012", .int 6]]) (b := 887) ok4 (by simp) (by simp)
  refine ⟨k5, ?_⟩
  have fin : ∃ g n, z = .tup [.str g, .int n] ∧ ∀ k z a b c d e, d_law_3 (slots3 g n z a b c d e) k = .ret (.bl true) k := by
    simp only [List.mem_cons, List.not_mem_nil, or_false] at hz
    rcases hz with rfl | rfl | rfl
    · exact ⟨_, _, rfl, fun k z a b c d e => congrFun (congrFun (congrFun (congrFun (congrFun (congrFun (congrFun fin1 k) z) a) b) c) d) e⟩
    · exact ⟨_, _, rfl, fun k z a b c d e => congrFun (congrFun (congrFun (congrFun (congrFun (congrFun (congrFun fin2 k) z) a) b) c) d) e⟩
    · exact ⟨_, _, rfl, fun k z a b c d e => congrFun (congrFun (congrFun (congrFun (congrFun (congrFun (congrFun fin3 k) z) a) b) c) d) e⟩
  obtain ⟨g, n, rfl, hf⟩ := fin
  have t2 : d_law_2 [.val (.scr ns), .val .deck, a2, b2, c2, d2, e4, f2] k4 = .nx (slots3 g n (.val (.scr ns)) (.val .deck) a2 d2 e4 f2) k5 := by
    unfold d_law_2 slots3
    simp [a_ss, a_sb, a_ret, a_nx, a_if, a_asg, a_par, a_for, a_name, a_fn, a_eb, a_ep, a_eo, a_var, a_op, a_B, a_un, a_andV, a_orV, a_notV, a_and, a_or, a_not, a_ifE, a_nil, a_cons, a_tup, a_lst, a_callB, a_call, a_callK, a_items, a_methT, a_slice, bE_ok, oE_some, bR_ok, bN_nx, bN_ret, oS_some, fR_nx, fR_ret, boolOf_bl, e5, sizeLine, mTup, mCons, mNil]
  have rep : (Sl.val (.scr ns) :: Sl.val .deck :: List.replicate 6 Sl.emp) = [.val (.scr ns), .val .deck, .emp, .emp, .emp, .emp, .emp, .emp] := rfl
  rw [rep]
  unfold d_law
  simp only [a_ss, t0, bN_nx, t1, t2]
  exact hf ..
end K01
namespace K01
open PySem PySem.Spec PyProof.Rows L2 G
def dd (x : Str) (i : Nat) : He.DefD := ⟨(x, none), x, x, defArgs (top i), defBody (top i), defScope (top i), [], []⟩
def fn : List He.DefD := [dd "are_digits" 2, dd "is_ticket" 3, dd "ticket_key" 4, dd "is_ahead" 5, dd "roll" 6, dd "_law_deck" 8, dd "_law_draw" 9, dd "_law_pick" 10, dd "_law_pages" 11, dd "_law_page" 12, dd "_law_some" 13, dd "_law_are_signs" 14, dd "_law_is_page" 15, dd "_law_tickets_right" 16, dd "_law_rolls_right" 17, dd "law" 18]
def fa : List He.Fa := [.free "str", .free "isinstance", .free "all", .free "len", .free "range", .free "tuple", .free "list", .free "int", .free "repr", .str "FIGURES" "0123456789", .glo "are_digits", .glo "is_ticket", .glo "ticket_key", .glo "is_ahead", .glo "roll", .glo "_law_deck", .glo "_law_draw", .glo "_law_pick", .glo "_law_pages", .glo "_law_page", .glo "_law_some", .glo "_law_are_signs", .glo "_law_is_page", .glo "_law_tickets_right", .glo "_law_rolls_right", .glo "law"]
abbrev R : PySem.W.OpenRow := PySem.W.OpenLaw.row PySem.Challenge.rw_tallyhouse_k01_digits_tickets_and_rolls
abbrev hk : PySem.W.Hook := He.hookD 4 fa fn
def ob (s : PySem.W.SharedT) : He.AlD := He.obsDG 4 fa fn (HandSHeadRun.getT s)
theorem ob_eq (s : PySem.W.SharedT) : ob s = hk.obs s.abs := He.obsDG_eq (HandSHeadRun.getT_eq s)
def names : List PySem.Str := ["FIGURES", "are_digits", "is_ticket", "ticket_key", "is_ahead", "roll", "_law_deck", "_law_draw", "_law_pick", "_law_pages", "_law_page", "_law_some", "_law_are_signs", "_law_is_page", "_law_tickets_right", "_law_rolls_right"]
theorem run (w : World) : HandSHeadRun.RunEq R (PySem.W.view R.prog [18]) hk ob 2000 names w := by
  intro os
  kernel_rfl
end K01
open PySem PySem.W PySem.Calls PyProof.Rows
theorem PySem.Challenge.cw_tallyhouse_k01_digits_tickets_and_rolls_holds : PySem.Challenge.rw_tallyhouse_k01_digits_tickets_and_rolls.Holds := by
  w_on; o_law
  refine HandSHeadRun.head_any (r := OpenLaw.row PySem.Challenge.rw_tallyhouse_k01_digits_tickets_and_rolls) (q := view (OpenLaw.row PySem.Challenge.rw_tallyhouse_k01_digits_tickets_and_rolls).prog [18]) (H := K01.hk) (ob := K01.ob) (M := 2000) (loose := K01.names) (d := HandSHeadRun.topDef (OpenLaw.row PySem.Challenge.rw_tallyhouse_k01_digits_tickets_and_rolls).prog 18) (kwd := []) K01.ob_eq
    (by kernel_rfl) (fun s => by kernel_rfl) K01.run (by kernel_rfl) (by kernel_rfl) (by kernel_rfl) (by rfl) (by first | assumption | decide +kernel) (by decide +kernel) ⟨rfl, rfl, rfl, rfl, rfl, by decide +kernel⟩ ?hw ?hc
  case hw => w_witness2
  case hc =>
    refine G.walk_ofG (l := PySem.Challenge.rw_tallyhouse_k01_digits_tickets_and_rolls) (n := 63) (k := 5) (x := "_law_script") rfl (by decide) (by kernel_rfl) ⟨rfl, by decide, by decide⟩ ?F
    intro w mg fad h Y Gn hfa
    obtain ⟨K, KX, c⟩ := Y
    have m_str : mg "str" = none := He.free_ok KX Gn (c.fact 0 (f := .free "str") rfl)
    have m_isinstance : mg "isinstance" = none := He.free_ok KX Gn (c.fact 1 (f := .free "isinstance") rfl)
    have m_all : mg "all" = none := He.free_ok KX Gn (c.fact 2 (f := .free "all") rfl)
    have m_len : mg "len" = none := He.free_ok KX Gn (c.fact 3 (f := .free "len") rfl)
    have m_range : mg "range" = none := He.free_ok KX Gn (c.fact 4 (f := .free "range") rfl)
    have m_tuple : mg "tuple" = none := He.free_ok KX Gn (c.fact 5 (f := .free "tuple") rfl)
    have m_list : mg "list" = none := He.free_ok KX Gn (c.fact 6 (f := .free "list") rfl)
    have m_int : mg "int" = none := He.free_ok KX Gn (c.fact 7 (f := .free "int") rfl)
    have m_repr : mg "repr" = none := He.free_ok KX Gn (c.fact 8 (f := .free "repr") rfl)
    obtain ⟨t_FIGURES, q_FIGURES⟩ := He.str_ok KX Gn (c.fact 9 (f := .str "FIGURES" "0123456789") rfl)
    have g_are_digits := He.glo_ok KX Gn (c.fact 10 (f := .glo "are_digits") rfl)
    obtain ⟨e_are_digits, F_are_digits⟩ := c.def_ 0 (d := K01.dd "are_digits" 2) rfl
    have g_is_ticket := He.glo_ok KX Gn (c.fact 11 (f := .glo "is_ticket") rfl)
    obtain ⟨e_is_ticket, F_is_ticket⟩ := c.def_ 1 (d := K01.dd "is_ticket" 3) rfl
    have g_ticket_key := He.glo_ok KX Gn (c.fact 12 (f := .glo "ticket_key") rfl)
    obtain ⟨e_ticket_key, F_ticket_key⟩ := c.def_ 2 (d := K01.dd "ticket_key" 4) rfl
    have g_is_ahead := He.glo_ok KX Gn (c.fact 13 (f := .glo "is_ahead") rfl)
    obtain ⟨e_is_ahead, F_is_ahead⟩ := c.def_ 3 (d := K01.dd "is_ahead" 5) rfl
    have g_roll := He.glo_ok KX Gn (c.fact 14 (f := .glo "roll") rfl)
    obtain ⟨e_roll, F_roll⟩ := c.def_ 4 (d := K01.dd "roll" 6) rfl
    have g__law_deck := He.glo_ok KX Gn (c.fact 15 (f := .glo "_law_deck") rfl)
    obtain ⟨e__law_deck, F__law_deck⟩ := c.def_ 5 (d := K01.dd "_law_deck" 8) rfl
    have g__law_draw := He.glo_ok KX Gn (c.fact 16 (f := .glo "_law_draw") rfl)
    obtain ⟨e__law_draw, F__law_draw⟩ := c.def_ 6 (d := K01.dd "_law_draw" 9) rfl
    have g__law_pick := He.glo_ok KX Gn (c.fact 17 (f := .glo "_law_pick") rfl)
    obtain ⟨e__law_pick, F__law_pick⟩ := c.def_ 7 (d := K01.dd "_law_pick" 10) rfl
    have g__law_pages := He.glo_ok KX Gn (c.fact 18 (f := .glo "_law_pages") rfl)
    obtain ⟨e__law_pages, F__law_pages⟩ := c.def_ 8 (d := K01.dd "_law_pages" 11) rfl
    have g__law_page := He.glo_ok KX Gn (c.fact 19 (f := .glo "_law_page") rfl)
    obtain ⟨e__law_page, F__law_page⟩ := c.def_ 9 (d := K01.dd "_law_page" 12) rfl
    have g__law_some := He.glo_ok KX Gn (c.fact 20 (f := .glo "_law_some") rfl)
    obtain ⟨e__law_some, F__law_some⟩ := c.def_ 10 (d := K01.dd "_law_some" 13) rfl
    have g__law_are_signs := He.glo_ok KX Gn (c.fact 21 (f := .glo "_law_are_signs") rfl)
    obtain ⟨e__law_are_signs, F__law_are_signs⟩ := c.def_ 11 (d := K01.dd "_law_are_signs" 14) rfl
    have g__law_is_page := He.glo_ok KX Gn (c.fact 22 (f := .glo "_law_is_page") rfl)
    obtain ⟨e__law_is_page, F__law_is_page⟩ := c.def_ 12 (d := K01.dd "_law_is_page" 15) rfl
    have g__law_tickets_right := He.glo_ok KX Gn (c.fact 23 (f := .glo "_law_tickets_right") rfl)
    obtain ⟨e__law_tickets_right, F__law_tickets_right⟩ := c.def_ 13 (d := K01.dd "_law_tickets_right" 16) rfl
    have g__law_rolls_right := He.glo_ok KX Gn (c.fact 24 (f := .glo "_law_rolls_right") rfl)
    obtain ⟨e__law_rolls_right, F__law_rolls_right⟩ := c.def_ 14 (d := K01.dd "_law_rolls_right" 17) rfl
    have g_law := He.glo_ok KX Gn (c.fact 25 (f := .glo "law") rfl)
    obtain ⟨e_law, F_law⟩ := c.def_ 15 (d := K01.dd "law" 18) rfl
    obtain rfl : fad = He.ga K "law" := by have := hfa.symm.trans g_law; injection this with this; injection this
    refine ⟨K, e_law, KX, fun s u => L2.FunD.bindsA (ps := ["_law_script"]) F_law (fun _ _ _ _ _ _ us hl => match us, hl with | [_], _ => rfl) s [u] rfl, fun base _ _ => ?_⟩
    have c_are_digits : G.Ce (PySem.Challenge.rw_tallyhouse_k01_digits_tickets_and_rolls).prog w K mg base 1 "are_digits" ["thing"] K01.fn_are_digits (He.ga K "are_digits") e_are_digits := ⟨(K01.ok_are_digits m_str m_isinstance m_all m_len m_range q_FIGURES F_are_digits), g_are_digits, F_are_digits.kp, L2.FunD.bindsN (ps := ["thing"]) F_are_digits (fun _ _ _ _ _ _ us hl => match us, hl with | [_], _ => rfl)⟩
    have c_is_ticket : G.Ce (PySem.Challenge.rw_tallyhouse_k01_digits_tickets_and_rolls).prog w K mg base 1 "is_ticket" ["digits", "thing"] K01.fn_is_ticket (He.ga K "is_ticket") e_is_ticket := ⟨(K01.ok_is_ticket m_str m_isinstance m_all F_is_ticket), g_is_ticket, F_is_ticket.kp, L2.FunD.bindsN (ps := ["digits", "thing"]) F_is_ticket (fun _ _ _ _ _ _ us hl => match us, hl with | [_, _], _ => rfl)⟩
    have c_ticket_key : G.Ce (PySem.Challenge.rw_tallyhouse_k01_digits_tickets_and_rolls).prog w K mg base 1 "ticket_key" ["ticket"] K01.fn_ticket_key (He.ga K "ticket_key") e_ticket_key := ⟨(K01.ok_ticket_key m_len F_ticket_key), g_ticket_key, F_ticket_key.kp, L2.FunD.bindsN (ps := ["ticket"]) F_ticket_key (fun _ _ _ _ _ _ us hl => match us, hl with | [_], _ => rfl)⟩
    have c_is_ahead : G.Ce (PySem.Challenge.rw_tallyhouse_k01_digits_tickets_and_rolls).prog w K mg base 2 "is_ahead" ["one", "other"] K01.fn_is_ahead (He.ga K "is_ahead") e_is_ahead := ⟨(K01.ok_is_ahead c_ticket_key F_is_ahead), g_is_ahead, F_is_ahead.kp, L2.FunD.bindsN (ps := ["one", "other"]) F_is_ahead (fun _ _ _ _ _ _ us hl => match us, hl with | [_, _], _ => rfl)⟩
    have c_roll : G.Ce (PySem.Challenge.rw_tallyhouse_k01_digits_tickets_and_rolls).prog w K mg base 1 "roll" ["digits", "length"] K01.fn_roll (He.ga K "roll") e_roll := ⟨(K01.ok_roll m_range m_tuple F_roll), g_roll, F_roll.kp, L2.FunD.bindsN (ps := ["digits", "length"]) F_roll (fun _ _ _ _ _ _ us hl => match us, hl with | [_, _], _ => rfl)⟩
    have c__law_deck : G.Ce (PySem.Challenge.rw_tallyhouse_k01_digits_tickets_and_rolls).prog w K mg base 1 "_law_deck" ["_law_script"] K01.fn__law_deck (He.ga K "_law_deck") e__law_deck := ⟨(K01.ok__law_deck m_list m_int F__law_deck), g__law_deck, F__law_deck.kp, L2.FunD.bindsN (ps := ["_law_script"]) F__law_deck (fun _ _ _ _ _ _ us hl => match us, hl with | [_], _ => rfl)⟩
    have c__law_draw : G.Ce (PySem.Challenge.rw_tallyhouse_k01_digits_tickets_and_rolls).prog w K mg base 1 "_law_draw" ["_law_deck_here", "_law_many"] K01.fn__law_draw (He.ga K "_law_draw") e__law_draw := ⟨(K01.ok_draw F__law_draw m_int), g__law_draw, F__law_draw.kp, L2.FunD.bindsN (ps := ["_law_deck_here", "_law_many"]) F__law_draw (fun _ _ _ _ _ _ us hl => match us, hl with | [_, _], _ => rfl)⟩
    have c__law_pick : G.Ce (PySem.Challenge.rw_tallyhouse_k01_digits_tickets_and_rolls).prog w K mg base 2 "_law_pick" ["_law_deck_here", "_law_some_here"] K01.fn__law_pick (He.ga K "_law_pick") e__law_pick := ⟨(K01.ok__law_pick c__law_draw m_len F__law_pick), g__law_pick, F__law_pick.kp, L2.FunD.bindsN (ps := ["_law_deck_here", "_law_some_here"]) F__law_pick (fun _ _ _ _ _ _ us hl => match us, hl with | [_, _], _ => rfl)⟩
    have c__law_pages : G.Ce (PySem.Challenge.rw_tallyhouse_k01_digits_tickets_and_rolls).prog w K mg base 1 "_law_pages" ["_law_signs", "_law_most"] K01.fn__law_pages (He.ga K "_law_pages") e__law_pages := ⟨(K01.ok__law_pages m_range F__law_pages), g__law_pages, F__law_pages.kp, L2.FunD.bindsN (ps := ["_law_signs", "_law_most"]) F__law_pages (fun _ _ _ _ _ _ us hl => match us, hl with | [_, _], _ => rfl)⟩
    have c__law_page : G.Ce (PySem.Challenge.rw_tallyhouse_k01_digits_tickets_and_rolls).prog w K mg base 3 "_law_page" ["_law_deck_here", "_law_signs", "_law_most"] K01.fn__law_page (He.ga K "_law_page") e__law_page := ⟨(K01.ok__law_page c__law_draw c__law_pick m_range F__law_page), g__law_page, F__law_page.kp, L2.FunD.bindsN (ps := ["_law_deck_here", "_law_signs", "_law_most"]) F__law_page (fun _ _ _ _ _ _ us hl => match us, hl with | [_, _, _], _ => rfl)⟩
    have c__law_some : G.Ce (PySem.Challenge.rw_tallyhouse_k01_digits_tickets_and_rolls).prog w K mg base 3 "_law_some" ["_law_deck_here"] K01.fn__law_some (He.ga K "_law_some") e__law_some := ⟨(K01.ok__law_some c__law_draw c__law_pick m_range F__law_some), g__law_some, F__law_some.kp, L2.FunD.bindsN (ps := ["_law_deck_here"]) F__law_some (fun _ _ _ _ _ _ us hl => match us, hl with | [_], _ => rfl)⟩
    have c__law_are_signs : G.Ce (PySem.Challenge.rw_tallyhouse_k01_digits_tickets_and_rolls).prog w K mg base 1 "_law_are_signs" ["_law_it"] K01.fn__law_are_signs (He.ga K "_law_are_signs") e__law_are_signs := ⟨(K01.ok__law_are_signs m_str m_isinstance m_len m_range F__law_are_signs), g__law_are_signs, F__law_are_signs.kp, L2.FunD.bindsN (ps := ["_law_it"]) F__law_are_signs (fun _ _ _ _ _ _ us hl => match us, hl with | [_], _ => rfl)⟩
    have c__law_is_page : G.Ce (PySem.Challenge.rw_tallyhouse_k01_digits_tickets_and_rolls).prog w K mg base 1 "_law_is_page" ["_law_signs", "_law_it"] K01.fn__law_is_page (He.ga K "_law_is_page") e__law_is_page := ⟨(K01.ok__law_is_page m_str m_isinstance F__law_is_page), g__law_is_page, F__law_is_page.kp, L2.FunD.bindsN (ps := ["_law_signs", "_law_it"]) F__law_is_page (fun _ _ _ _ _ _ us hl => match us, hl with | [_, _], _ => rfl)⟩
    have c__law_tickets_right : G.Ce (PySem.Challenge.rw_tallyhouse_k01_digits_tickets_and_rolls).prog w K mg base 4 "_law_tickets_right" ["_law_deck_here", "_law_signs"] K01.fn__law_tickets_right (He.ga K "_law_tickets_right") e__law_tickets_right := ⟨(K01.ok__law_tickets_right c__law_page c__law_is_page c_is_ticket F_is_ticket m_list m_repr F__law_tickets_right), g__law_tickets_right, F__law_tickets_right.kp, L2.FunD.bindsN (ps := ["_law_deck_here", "_law_signs"]) F__law_tickets_right (fun _ _ _ _ _ _ us hl => match us, hl with | [_, _], _ => rfl)⟩
    have c__law_rolls_right : G.Ce (PySem.Challenge.rw_tallyhouse_k01_digits_tickets_and_rolls).prog w K mg base 3 "_law_rolls_right" ["_law_deck_here", "_law_signs"] K01.fn__law_rolls_right (He.ga K "_law_rolls_right") e__law_rolls_right := ⟨(K01.ok__law_rolls_right c__law_pages c_roll c__law_pick c_is_ahead F_roll F_is_ahead m_range m_len m_tuple m_repr F__law_rolls_right), g__law_rolls_right, F__law_rolls_right.kp, L2.FunD.bindsN (ps := ["_law_deck_here", "_law_signs"]) F__law_rolls_right (fun _ _ _ _ _ _ us hl => match us, hl with | [_, _], _ => rfl)⟩
    exact K01.ok_law c__law_some c__law_are_signs c_are_digits c__law_pick c__law_tickets_right c__law_rolls_right c_roll c__law_pages c__law_deck F_are_digits m_repr m_len m_list F_law K01.plain
