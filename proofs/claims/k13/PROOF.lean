import PyProof.Rows.All
import HandS.ForMost
import KE.SortData
import KE.DataCmp
import KE.DataAny
import HandS.Flow
import HandS.Style
import HandS.TupAny
import HandS.Zip
import HandS.DictComp
import HandS.IsInst
import HandS.Iter
import HandS.Set
import HandS.SetFor
import HandS.SetIn
import HandS.More
import PySem.Challenge.RW_chiplore_k13_attacks_along_chains_and_ri
set_option Elab.async false
set_option linter.all false
set_option maxRecDepth 100000
/-! PdA: values as data over the abstract heap; frames as data; what an expression does, said of data. -/
namespace PD
open PySem PySem.Spec PyProof.Rows L2

abbrev D := PyData
abbrev Sl := L2.St

/-- a key as data -/
def kD : Key → D
  | .inl i => .int i
  | .inr x => .str x

section
variable (K : PySem.W.Frag) (H : Hp)
mutual
/-- the value is this data in the heap -/
def Den : D → V → Prop
  | .none, v => v = .non
  | .bool b, v => v = .bl b
  | .int i, v => v = .int i
  | .str x, v => v = .str x
  | .tuple ds, v => ∃ a vs, v = .ref a ∧ SqT K H a vs ∧ DenL ds vs
  | .list ds, v => ∃ a vs, v = .ref a ∧ SqL K H a vs ∧ DenL ds vs
  | .dict kvs, v => ∃ a kv, v = .ref a ∧ Rd H a (.dK kv) ∧ DenP kvs kv
def DenL : List D → List V → Prop
  | [], vs => vs = []
  | d :: ds, vs => ∃ v r, vs = v :: r ∧ Den d v ∧ DenL ds r
def DenP : List (D × D) → List (Key × V) → Prop
  | [], kv => kv = []
  | (k, d) :: r, kv => ∃ q v t, kv = (q, v) :: t ∧ k = kD q ∧ Den d v ∧ DenP r t
end
end

/-- all that may be read may still be read -/
def Le (H H' : Hp) : Prop := ∀ a u, Rd H a u → Rd H' a u
theorem Le.refl (H : Hp) : Le H H := fun _ _ h => h
theorem Le.trans {A B C : Hp} (h : Le A B) (k : Le B C) : Le A C := fun a u x => k a u (h a u x)
theorem Le.of_same {A B : Hp} (h : Same A B) : Le A B := fun a u x => by
  rcases x with x | ⟨o, x⟩
  · exact .inl (h _ _ x)
  · exact .inr ⟨o, h _ _ x⟩
theorem sqT_le {K : PySem.W.Frag} {H H' : Hp} {a : Addr} {xs : List V} (e : Le H H') (h : SqT K H a xs) : SqT K H' a xs := by
  rcases h with h | h
  · exact .inl (e _ _ h)
  · exact .inr h
theorem sqL_le {K : PySem.W.Frag} {H H' : Hp} {a : Addr} {xs : List V} (e : Le H H') (h : SqL K H a xs) : SqL K H' a xs := by
  rcases h with h | h
  · exact .inl (e _ _ h)
  · exact .inr h

section
variable {K : PySem.W.Frag} {H H' : Hp}
mutual
theorem den_le (e : Le H H') : ∀ {d : D} {v : V}, Den K H d v → Den K H' d v
  | .none, _, h => h
  | .bool _, _, h => h
  | .int _, _, h => h
  | .str _, _, h => h
  | .tuple ds, _, h => by
    obtain ⟨a, vs, e1, h1, h2⟩ := h
    exact ⟨a, vs, e1, sqT_le e h1, denL_le e h2⟩
  | .list ds, _, h => by
    obtain ⟨a, vs, e1, h1, h2⟩ := h
    exact ⟨a, vs, e1, sqL_le e h1, denL_le e h2⟩
  | .dict kvs, _, h => by
    obtain ⟨a, vs, e1, h1, h2⟩ := h
    exact ⟨a, vs, e1, e _ _ h1, denP_le e h2⟩
theorem denL_le (e : Le H H') : ∀ {ds : List D} {vs : List V}, DenL K H ds vs → DenL K H' ds vs
  | [], _, h => h
  | _ :: _, _, h => by
    obtain ⟨v, r, e1, h1, h2⟩ := h
    exact ⟨v, r, e1, den_le e h1, denL_le e h2⟩
theorem denP_le (e : Le H H') : ∀ {ds : List (D × D)} {vs : List (Key × V)}, DenP K H ds vs → DenP K H' ds vs
  | [], _, h => h
  | (_, _) :: _, _, h => by
    obtain ⟨q, v, t, e1, e2, h1, h2⟩ := h
    exact ⟨q, v, t, e1, e2, den_le e h1, denP_le e h2⟩
end
end

/-! ### heaps without some addresses -/
open Classical in
noncomputable def cut (H : Hp) (O : Addr → Prop) : Hp := fun a => if O a then none else H a
section
variable {H H' : Hp} {O O' : Addr → Prop} {a : Addr} {u : HO}
theorem cut_some : cut H O a = some u ↔ ¬ O a ∧ H a = some u := by
  unfold cut
  by_cases h : O a
  · rw [if_pos h]; simp [h]
  · rw [if_neg h]; simp [h]
theorem cut_rd : Rd (cut H O) a u ↔ ¬ O a ∧ Rd H a u := by
  unfold Rd
  simp only [cut_some]
  constructor
  · rintro (⟨h, e⟩ | ⟨o, h, e⟩)
    · exact ⟨h, .inl e⟩
    · exact ⟨h, .inr ⟨o, e⟩⟩
  · rintro ⟨h, e | ⟨o, e⟩⟩
    · exact .inl ⟨h, e⟩
    · exact .inr ⟨o, h, e⟩
theorem cut_le : Le (cut H O) H := fun _ _ h => (cut_rd.mp h).2
theorem cut_same (h : Same H H') (o : ∀ a, H a ≠ none → O' a → O a) : Same (cut H O) (cut H' O') := fun a u e => by
  obtain ⟨h1, h2⟩ := cut_some.mp e
  exact cut_some.mpr ⟨fun z => h1 (o a (by rw [h2]; simp) z), h _ _ h2⟩
theorem cut_anti (o : ∀ a, O' a → O a) : Same (cut H O) (cut H O') := cut_same (Same.refl H) fun a _ => o a
end

/-! ### frames as data -/
inductive Ow where
  | sh | ow | br
  deriving DecidableEq, Repr
abbrev Ev := List (Option (D × Ow))
/-- the object at a is this data and nobody else's -/
def OwnAt (K : PySem.W.Frag) (B H : Hp) (a : Addr) : D → Prop
  | .list ds => ∃ vs, H a = some (.lst vs) ∧ DenL K B ds vs
  | .dict kvs => ∃ kv, H a = some (.dK kv) ∧ DenP K B kvs kv
  | _ => False
theorem OwnAt.mono {K : PySem.W.Frag} {B B' H H' : Hp} {a : Addr} (e : Le B B') (k : H' a = H a) : ∀ {d : D}, OwnAt K B H a d → OwnAt K B' H' a d
  | .list _, ⟨vs, h1, h2⟩ => ⟨vs, k.trans h1, denL_le e h2⟩
  | .dict _, ⟨vs, h1, h2⟩ => ⟨vs, k.trans h1, denP_le e h2⟩
theorem OwnAt.ex {K : PySem.W.Frag} {B H : Hp} {a : Addr} : ∀ {d : D}, OwnAt K B H a d → ∃ u, H a = some u ∧ Mut (some u)
  | .list _, ⟨vs, h1, h2⟩ => ⟨_, h1, trivial⟩
  | .dict _, ⟨vs, h1, h2⟩ => ⟨_, h1, trivial⟩
/-- joined to what all may read -/
theorem OwnAt.den {K : PySem.W.Frag} {B B' H : Hp} {a : Addr} (e : Le B B') (k : ∀ u, H a = some u → B' a = some u) : ∀ {d : D}, OwnAt K B H a d → Den K B' d (V.ref a)
  | .list _, ⟨vs, h1, h2⟩ => ⟨a, vs, rfl, .inl (.inl (k _ h1)), denL_le e h2⟩
  | .dict _, ⟨vs, h1, h2⟩ => ⟨a, vs, rfl, .inl (k _ h1), denP_le e h2⟩
/-- the roots that the frame's names own -/
def Rt (env : Ev) (σ : Sl) (a : Addr) : Prop := ∃ (i : Nat) (d : D) (o : Ow), env[i]? = some (some (d, o)) ∧ o ≠ Ow.sh ∧ σ[i]? = some (some (V.ref a))
def Oo (O : Addr → Prop) (env : Ev) (σ : Sl) (a : Addr) : Prop := O a ∨ Rt env σ a
noncomputable abbrev Pb (O : Addr → Prop) (env : Ev) (σ : Sl) (H : Hp) : Hp := cut H (Oo O env σ)

structure R (K : PySem.W.Frag) (O : Addr → Prop) (fx : Nat → Option Addr) (env : Ev) (σ : Sl) (H : Hp) : Prop where
  len : env.length = σ.length
  val : ∀ (i : Nat) d, env[i]? = some (some (d, .sh)) → ∃ v, σ[i]? = some (some v) ∧ Den K (Pb O env σ H) d v
  own : ∀ (i : Nat) d o, env[i]? = some (some (d, o)) → o ≠ .sh → ∃ a, σ[i]? = some (some (.ref a)) ∧ ¬ O a ∧ OwnAt K (Pb O env σ H) H a d
  apart : ∀ (i j : Nat) a d e o p, env[i]? = some (some (d, o)) → o ≠ .sh → env[j]? = some (some (e, p)) → p ≠ .sh → σ[i]? = some (some (V.ref a)) → σ[j]? = some (some (V.ref a)) → i = j
  out : ∀ a, O a → Mut (H a)
  fix : ∀ p : Nat × Addr, fx p.1 = some p.2 → ∃ d, env[p.1]? = some (some (d, .br)) ∧ σ[p.1]? = some (some (.ref p.2))
  -- nothing else is pinned
  pin : ∀ (i : Nat) d, env[i]? = some (some (d, Ow.br)) → ∃ a, fx i = some a

/-- one address more -/
def plus (O : Addr → Prop) (a : Addr) : Addr → Prop := fun b => O b ∨ b = a

section
variable {K : PySem.W.Frag} {O : Addr → Prop} {fx : Nat → Option Addr} {env env' : Ev} {σ : Sl} {H H' : Hp}
/-- the heap has grown -/
theorem R.grow (r : R K O fx env σ H) (s : Same H H') : R K O fx env σ H' := by
  have le : Le (Pb O env σ H) (Pb O env σ H') := Le.of_same (cut_same s fun a _ h => h)
  refine ⟨r.len, fun i d h => ?_, fun i d o h n => ?_, r.apart, fun a h => ?_, r.fix, r.pin⟩
  · obtain ⟨v, e, h⟩ := r.val i d h
    exact ⟨v, e, den_le le h⟩
  · obtain ⟨a, e, n1, h⟩ := r.own i d o h n
    obtain ⟨u, hu, _⟩ := h.ex
    exact ⟨a, e, n1, h.mono le ((s _ _ hu).trans hu.symm)⟩
  · have q := r.out a h
    cases e : H a with
    | none => rw [e] at q; exact q.elim
    | some u => rw [s _ _ e]; rw [e] at q; exact q
theorem mut_ne {H : Hp} {a : Addr} (h : Mut (H a)) : H a ≠ none := fun z => by rw [z] at h; exact h
theorem R.root_mut (r : R K O fx env σ H) {a : Addr} (h : Oo O env σ a) : Mut (H a) := by
  rcases h with h | ⟨i, d, o, e1, n, e2⟩
  · exact r.out a h
  · obtain ⟨b, e3, _, h⟩ := r.own i d o e1 n
    rw [e2] at e3; cases e3
    obtain ⟨u, hu, m⟩ := h.ex
    rw [hu]; exact m
theorem R.root_some (r : R K O fx env σ H) {a : Addr} (h : Oo O env σ a) : H a ≠ none := mut_ne (r.root_mut h)
end

/-! ### what an expression does, of data -/
abbrev EF := Ev → Option (D × Bool × Ev)
/-- the frame and the heap behind a piece of code -/
structure Bh2 (K : PySem.W.Frag) (O : Addr → Prop) (fx : Nat → Option Addr) (env : Ev) (σ : Sl) (H : Hp) (env' : Ev) (σ' : Sl) (H' : Hp) : Prop where
  rel : R K O fx env' σ' H'
  same : Same (Pb O env σ H) (Pb O env' σ' H')
  outer : ∀ a, O a → H' a = H a
abbrev Bh (K : PySem.W.Frag) (O : Addr → Prop) (fx : Nat → Option Addr) (env : Ev) (σ : Sl) (H : Hp) (env' : Ev) (H' : Hp) : Prop := Bh2 K O fx env σ H env' σ H'
/-- .. with a new object that nobody else has -/
structure Fs2 (K : PySem.W.Frag) (O : Addr → Prop) (fx : Nat → Option Addr) (env : Ev) (σ : Sl) (H : Hp) (env' : Ev) (σ' : Sl) (H' : Hp) (a : Addr) (d : D) : Prop where
  new : ¬ O a
  rel : R K (plus O a) fx env' σ' H'
  same : Same (Pb O env σ H) (Pb (plus O a) env' σ' H')
  outer : ∀ a, O a → H' a = H a
  own : OwnAt K (Pb (plus O a) env' σ' H') H' a d
def EPost2 (K : PySem.W.Frag) (O : Addr → Prop) (fx : Nat → Option Addr) (env : Ev) (σ : Sl) (H : Hp) (d : D) (fr : Bool) (env' : Ev) (v : V) (σ' : Sl) (H' : Hp) : Prop :=
  match fr with
  | false => Bh2 K O fx env σ H env' σ' H' ∧ Den K (Pb O env' σ' H') d v
  | true => ∃ a, v = .ref a ∧ Fs2 K O fx env σ H env' σ' H' a d
abbrev EPost (K : PySem.W.Frag) (O : Addr → Prop) (fx : Nat → Option Addr) (env : Ev) (σ : Sl) (H : Hp) (d : D) (fr : Bool) (env' : Ev) (v : V) (H' : Hp) : Prop := EPost2 K O fx env σ H d fr env' v σ H'
def tE (K : PySem.W.Frag) (f : EF) : TE := fun σ H Q => ∃ O fx env d fr env', R K O fx env σ H ∧ f env = some (d, fr, env') ∧ ∀ v H', EPost K O fx env σ H d fr env' v H' → Q v H'
abbrev SE (X : Cx) (f : EF) (e : Expr) : Prop := PE X e (tE X.K f)

section
variable {K : PySem.W.Frag} {O : Addr → Prop} {fx : Nat → Option Addr} {env env' : Ev} {σ : Sl} {H H' : Hp} {a : Addr} {d : D}
theorem plus_oo {b : Addr} : Oo (plus O a) env σ b ↔ Oo O env σ b ∨ b = a := by
  unfold Oo plus
  constructor
  · rintro ((h | h) | h)
    · exact .inl (.inl h)
    · exact .inr h
    · exact .inl (.inr h)
  · rintro ((h | h) | h)
    · exact .inl (.inl h)
    · exact .inr h
    · exact .inl (.inr h)
theorem R.unplus (r : R K (plus O a) fx env σ H) : R K O fx env σ H := by
  have le : Le (Pb (plus O a) env σ H) (Pb O env σ H) := Le.of_same (cut_anti fun b h => plus_oo.mpr (.inl h))
  refine ⟨r.len, fun i d h => ?_, fun i d o h n => ?_, r.apart, fun b h => r.out b (.inl h), r.fix, r.pin⟩
  · obtain ⟨v, e, h⟩ := r.val i d h
    exact ⟨v, e, den_le le h⟩
  · obtain ⟨a, e, n1, h⟩ := r.own i d o h n
    exact ⟨a, e, fun z => n1 (.inl z), h.mono le rfl⟩
theorem Fs2.weak {σ' : Sl} (f : Fs2 K O fx env σ H env' σ' H' a d) : Bh2 K O fx env σ H env' σ' H' ∧ Den K (Pb O env' σ' H') d (.ref a) := by
  have le : Same (Pb (plus O a) env' σ' H') (Pb O env' σ' H') := cut_anti fun b h => plus_oo.mpr (.inl h)
  refine ⟨⟨f.rel.unplus, f.same.trans le, f.outer⟩, f.own.den (Le.of_same le) fun u hu => cut_some.mpr ⟨?_, hu⟩⟩
  rintro (h | ⟨i, d, o, e1, n, e2⟩)
  · exact f.new h
  · obtain ⟨b, e3, n3, _⟩ := f.rel.own i d o e1 n
    rw [e2] at e3; cases e3
    exact n3 (.inr rfl)
theorem EPost2.weak {fr : Bool} {v : V} {σ' : Sl} (h : EPost2 K O fx env σ H d fr env' v σ' H') : Bh2 K O fx env σ H env' σ' H' ∧ Den K (Pb O env' σ' H') d v := by
  cases fr with
  | false => exact h
  | true =>
    obtain ⟨a, rfl, h⟩ := h
    exact h.weak
theorem Bh2.trans {env2 : Ev} {H2 : Hp} {σ' σ2 : Sl} (h : Bh2 K O fx env σ H env' σ' H') (k : Bh2 K O fx env' σ' H' env2 σ2 H2) : Bh2 K O fx env σ H env2 σ2 H2 :=
  ⟨k.rel, h.same.trans k.same, fun a z => (k.outer a z).trans (h.outer a z)⟩
theorem Bh.refl (r : R K O fx env σ H) : Bh K O fx env σ H env H := ⟨r, Same.refl _, fun _ _ => rfl⟩
end

/-! ### operands: a name is looked at, not taken -/
inductive Opd where
  | val (d : D) | slot (i : Nat)
abbrev OF := Ev → Option (Opd × Ev)
def OIs (K : PySem.W.Frag) (O : Addr → Prop) (env : Ev) (σ : Sl) (H : Hp) : Opd → V → Prop
  | .val d, v => Den K (Pb O env σ H) d v
  | .slot i, v => σ[i]? = some (some v)
def tO (K : PySem.W.Frag) (f : OF) : TE := fun σ H Q => ∃ O fx env o env', R K O fx env σ H ∧ f env = some (o, env') ∧ ∀ v H', Bh K O fx env σ H env' H' → OIs K O env' σ H' o v → Q v H'
abbrev SO (X : Cx) (f : OF) (e : Expr) : Prop := PE X e (tO X.K f)
abbrev OLF := Ev → Option (List Opd × Ev)
def OAre (K : PySem.W.Frag) (O : Addr → Prop) (env : Ev) (σ : Sl) (H : Hp) : List Opd → List V → Prop
  | [], vs => vs = []
  | o :: os, vs => ∃ v r, vs = v :: r ∧ OIs K O env σ H o v ∧ OAre K O env σ H os r
def tOL (K : PySem.W.Frag) (f : OLF) : TA := fun σ H Q => ∃ O fx env os env', R K O fx env σ H ∧ f env = some (os, env') ∧ ∀ vs H', Bh K O fx env σ H env' H' → OAre K O env' σ H' os vs → Q vs H'
abbrev SOL (X : Cx) (f : OLF) (es : List Expr) : Prop := PA X es (tOL X.K f)
def deref (env : Ev) : Opd → Option D
  | .val d => some d
  | .slot i => match env[i]? with
    | some (some (d, _)) => some d
    | _ => none
def derefs (env : Ev) : List Opd → Option (List D)
  | [] => some []
  | o :: os => match deref env o with
    | some d => match derefs env os with
      | some ds => some (d :: ds)
      | none => none
    | none => none
/-- an operand at its use -/
def Pk (K : PySem.W.Frag) (O : Addr → Prop) (H : Hp) (d : D) (v : V) : Prop := Den K (cut H O) d v ∨ ∃ a, v = .ref a ∧ OwnAt K (cut H O) H a d
def PkL (K : PySem.W.Frag) (O : Addr → Prop) (H : Hp) : List D → List V → Prop
  | [], vs => vs = []
  | d :: ds, vs => ∃ v r, vs = v :: r ∧ Pk K O H d v ∧ PkL K O H ds r
/-- a value made: new objects alone -/
structure NPost (K : PySem.W.Frag) (O : Addr → Prop) (H : Hp) (d : D) (fr : Bool) (v : V) (H' : Hp) : Prop where
  same : Same H H'
  res : match fr with
    | false => Den K (cut H' O) d v
    | true => ∃ a, v = .ref a ∧ H a = none ∧ OwnAt K (cut H' (plus O a)) H' a d

section
variable {K : PySem.W.Frag} {O : Addr → Prop} {fx : Nat → Option Addr} {env env' : Ev} {σ : Sl} {H H' : Hp} {a : Addr} {d : D} {o : Opd} {v : V}
theorem OIs.le (s : Same (Pb O env σ H) (Pb O env' σ H')) : ∀ {o : Opd} {v : V}, OIs K O env σ H o v → OIs K O env' σ H' o v
  | .val _, _, h => den_le (Le.of_same s) h
  | .slot _, _, h => h
theorem OAre.le (s : Same (Pb O env σ H) (Pb O env' σ H')) : ∀ {os : List Opd} {vs : List V}, OAre K O env σ H os vs → OAre K O env' σ H' os vs
  | [], _, h => h
  | _ :: _, _, ⟨v, r, e, h1, h2⟩ => ⟨v, r, e, OIs.le s h1, OAre.le s h2⟩
theorem deref_slot {i : Nat} (e : deref env (.slot i) = some d) : ∃ w, env[i]? = some (some (d, w)) := by
  simp only [deref] at e
  cases h : env[i]? with
  | none => rw [h] at e; cases e
  | some x =>
    cases x with
    | none => rw [h] at e; cases e
    | some p =>
      rw [h] at e
      obtain ⟨d', w⟩ := p
      cases e
      exact ⟨w, rfl⟩
theorem pk_of (r : R K O fx env σ H) (h : OIs K O env σ H o v) (e : deref env o = some d) : Pk K (Oo O env σ) H d v := by
  cases o with
  | val d' =>
    cases e
    exact .inl h
  | slot i =>
    have h : σ[i]? = some (some v) := h
    obtain ⟨w', e'⟩ := deref_slot e
    by_cases hw : w' = Ow.sh
    · subst hw
      obtain ⟨v', e1, q⟩ := r.val i d e'
      rw [h] at e1; cases e1
      exact .inl q
    · obtain ⟨a, e1, _, q⟩ := r.own i d w' e' hw
      rw [h] at e1; cases e1
      exact .inr ⟨a, rfl, q⟩
theorem pkL_of (r : R K O fx env σ H) : ∀ {os : List Opd} {vs : List V} {ds : List D}, OAre K O env σ H os vs → derefs env os = some ds → PkL K (Oo O env σ) H ds vs
  | [], _, _, h, e => by
    cases e
    exact h
  | o :: os, _, _, h, e => by
    obtain ⟨v, r', rfl, h1, h2⟩ := h
    unfold derefs at e
    split at e
    · rename_i d' e1
      split at e
      · rename_i ds' e2
        cases e
        exact ⟨v, r', rfl, pk_of r h1 e1, pkL_of r h2 e2⟩
      · cases e
    · cases e
/-- a value made, behind an expression -/
theorem NPost.epost {fr : Bool} (h : NPost K (Oo O env σ) H d fr v H') (r : R K O fx env σ H) : EPost K O fx env σ H d fr env v H' := by
  have s : Same (Pb O env σ H) (Pb O env σ H') := cut_same h.same fun _ _ z => z
  have ou : ∀ a, O a → H' a = H a := fun a z => by
    cases q : H a with
    | none => exact absurd q (mut_ne (r.out a z))
    | some u => rw [h.same _ _ q]
  cases fr with
  | false => exact ⟨⟨r.grow h.same, s, ou⟩, h.res⟩
  | true =>
    obtain ⟨a, rfl, hn, q⟩ := h.res
    have hO : ¬ O a := fun z => mut_ne (r.out a z) hn
    have hb : ∀ b, H b ≠ none → b ≠ a := fun b z e => z (by rw [e]; exact hn)
    have e1 : ∀ H2 : Hp, Same H H2 → Same (Pb O env σ H) (Pb (plus O a) env σ H2) := fun H2 s2 => cut_same s2 fun b hb' z => by
      rcases plus_oo.mp z with z | z
      · exact z
      · exact absurd z (hb b hb')
    have e2 : cut H' (plus (Oo O env σ) a) = Pb (plus O a) env σ H' := by
      have : plus (Oo O env σ) a = Oo (plus O a) env σ := funext fun b => propext plus_oo.symm
      rw [this]
    rw [e2] at q
    refine ⟨a, rfl, hO, ⟨r.len, fun i d h' => ?_, fun i d o h' n => ?_, r.apart, fun b z => ?_, r.fix, r.pin⟩, e1 _ h.same, ou, q⟩
    · obtain ⟨v, e, h'⟩ := r.val i d h'
      exact ⟨v, e, den_le (Le.of_same (e1 _ h.same)) h'⟩
    · obtain ⟨b, e, n1, h'⟩ := r.own i d o h' n
      obtain ⟨u, hu, _⟩ := h'.ex
      refine ⟨b, e, fun z => ?_, h'.mono (Le.of_same (e1 _ h.same)) ((h.same _ _ hu).trans hu.symm)⟩
      rcases z with z | z
      · exact n1 z
      · exact hb b (by rw [hu]; simp) z
    · rcases z with z | z
      · rw [ou b z]; exact r.out b z
      · subst z
        obtain ⟨u, hu, m⟩ := q.ex
        rw [hu]; exact m
end

/-- a built-in operation on operands -/
def opF (fl : OLF) (g : List D → Option (D × Bool)) : EF := fun env => match fl env with
  | some (os, e1) => match derefs e1 os with
    | some ds => match g ds with
      | some (d, fr) => some (d, fr, e1)
      | none => none
    | none => none
  | none => none
/-- .. by its values -/
def rD (K : PySem.W.Frag) (g : List D → Option (D × Bool)) : List V → Hp → VK → Prop := fun vs H Q => ∃ O ds d fr, (∀ a, O a → Mut (H a)) ∧ PkL K O H ds vs ∧ g ds = some (d, fr) ∧ ∀ v H', NPost K O H d fr v H' → Q v H'
theorem bh_epost {K : PySem.W.Frag} {O : Addr → Prop} {fx : Nat → Option Addr} {env env1 env2 : Ev} {σ σ1 σ2 : Sl} {H H1 H2 : Hp} {d : D} {fr : Bool} {v : V} (b : Bh2 K O fx env σ H env1 σ1 H1) (h : EPost2 K O fx env1 σ1 H1 d fr env2 v σ2 H2) : EPost2 K O fx env σ H d fr env2 v σ2 H2 := by
  cases fr with
  | false => exact ⟨b.trans h.1, h.2⟩
  | true =>
    obtain ⟨a, e, n, r, s, o, w⟩ := h
    exact ⟨a, e, n, r, b.same.trans s, fun a z => (o a z).trans (b.outer a z), w⟩
theorem op_imp {K : PySem.W.Frag} {fl : OLF} {g : List D → Option (D × Bool)} {σ : Sl} {H : Hp} {Q : VK} (h : tE K (opF fl g) σ H Q) : tOL K fl σ H fun vs H1 => rD K g vs H1 Q := by
  obtain ⟨O, fx, env, d, fr, env', r, e, q⟩ := h
  unfold opF at e
  split at e
  · rename_i os e1 h1
    split at e
    · rename_i ds h2
      split at e
      · rename_i d' fr' h3
        cases e
        refine ⟨O, fx, env, os, env', r, h1, fun vs H1 b a => ⟨Oo O env' σ, ds, d, fr, fun a z => b.rel.root_mut z, pkL_of b.rel a h2, h3, fun v H' n => q v H' (bh_epost b (n.epost b.rel))⟩⟩
      · cases e
    · cases e
  · cases e

/-! ### operands in a row -/
def nilO : OLF := fun env => some ([], env)
def consO (f : OF) (fl : OLF) : OLF := fun env => match f env with
  | some (o, e1) => match fl e1 with
    | some (os, e2) => some (o :: os, e2)
    | none => none
  | none => none
theorem consO_imp {K : PySem.W.Frag} {f : OF} {fl : OLF} {σ : Sl} {H : Hp} {Q : List V → Hp → Prop} (h : tOL K (consO f fl) σ H Q) : tCons (tO K f) (tOL K fl) σ H Q := by
  obtain ⟨O, fx, env, os, env', r, e, q⟩ := h
  unfold consO at e
  split at e
  · rename_i o e1 h1
    split at e
    · rename_i os' e2 h2
      cases e
      refine ⟨O, fx, env, o, e1, r, h1, fun v H1 b1 a1 => ⟨O, fx, e1, os', env', b1.rel, h2, fun vs H2 b2 a2 => q _ _ (b1.trans b2) ⟨v, vs, rfl, OIs.le b2.same a1, a2⟩⟩⟩
    · cases e
  · cases e
section
variable {X : Cx}
theorem _root_.L2.PE.imp {e : Expr} {t t' : TE} (h : PE X e t) (k : ∀ σ H Q, t' σ H Q → t σ H Q) : PE X e t' := ⟨fun pins s σ H Q I w => h.run pins s σ H Q I (k _ _ _ w)⟩
theorem _root_.L2.PT.imp {e : Expr} {t t' : TT} (h : PT X e t) (k : ∀ σ H Q, t' σ H Q → t σ H Q) : PT X e t' := ⟨fun pins s σ H Q I w => h.run pins s σ H Q I (k _ _ _ w)⟩
theorem _root_.L2.PW.imp {e : Expr} {t t' : TT} (h : PW X e t) (k : ∀ σ H Q, t' σ H Q → t σ H Q) : PW X e t' := ⟨fun wh pins s σ H Q I w => h.run wh pins s σ H Q I (k _ _ _ w)⟩
theorem _root_.L2.PA.imp {e : List Expr} {t t' : TA} (h : PA X e t) (k : ∀ σ H Q, t' σ H Q → t σ H Q) : PA X e t' := ⟨fun p pins s σ H Q I w => h.run p pins s σ H Q I (k _ _ _ w)⟩
theorem _root_.L2.PS.imp {e : Stmt} {t t' : TS} (h : PS X e t) (k : ∀ D σ H, t' D σ H → t D σ H) : PS X e t' := ⟨fun pins s σ H D I w => h.run pins s σ H D I (k _ _ _ w)⟩
theorem _root_.L2.PSs.imp {e : List Stmt} {t t' : TS} (h : PSs X e t) (k : ∀ D σ H, t' D σ H → t D σ H) : PSs X e t' := ⟨fun pins s σ H D I w => h.run pins s σ H D I (k _ _ _ w)⟩
theorem sol_nil : SOL X nilO [] := pa_nil.imp fun σ H Q h => by
  obtain ⟨O, fx, env, os, env', r, e, q⟩ := h
  cases e
  exact q _ _ (Bh.refl r) rfl
theorem sol_cons {e : Expr} {es : List Expr} {f : OF} {fl : OLF} (h : SO X f e) (k : SOL X fl es) (hs : starEach (e :: es) X.env = (false, eval e X.env) :: starEach es X.env := by rfl) : SOL X (consO f fl) (e :: es) :=
  (pa_cons h k hs).imp fun _ _ _ w => consO_imp w
/-! ### operands -/
def varO (i : Nat) : OF := fun env => match env[i]? with
  | some (some _) => some (.slot i, env)
  | _ => none
theorem so_var (i : Nat) {x : Str} {pos : Pos} (hN : X.N[i]? = some x := by rfl) (hv : Vis X.env.scope x := by first | exact Or.inl rfl | exact Or.inr (Or.inl rfl) | exact Or.inr (Or.inr rfl)) (hd : (x == ("__debug__" : Str)) = false := by decide)
    (hcd : (x == ("__classdict__" : Str)) = false := by decide) : SO X (varO i) (.Name x pos) := (pe_var hN hv hd hcd).imp fun σ H Q h => by
  obtain ⟨O, fx, env, o, env', r, e, q⟩ := h
  unfold varO at e
  split at e
  · rename_i p h1
    cases e
    obtain ⟨d, w⟩ := p
    have hv : ∃ v, σ[i]? = some (some v) := by
      by_cases hw : w = Ow.sh
      · subst hw
        obtain ⟨v, e, _⟩ := r.val i d h1
        exact ⟨v, e⟩
      · obtain ⟨a, e, _⟩ := r.own i d w h1 hw
        exact ⟨_, e⟩
    obtain ⟨v, ev⟩ := hv
    exact ⟨v, ev, q v H (Bh.refl r) ev⟩
  · cases e
def ofE (f : EF) : OF := fun env => match f env with
  | some (d, _, e1) => some (.val d, e1)
  | none => none
theorem so_of {f : EF} {e : Expr} (h : SE X f e) : SO X (ofE f) e := h.imp fun σ H Q h => by
  obtain ⟨O, fx, env, o, env', r, e, q⟩ := h
  unfold ofE at e
  split at e
  · rename_i d fr e1 h1
    cases e
    exact ⟨O, fx, env, d, fr, env', r, h1, fun v H' p => q v H' p.weak.1 p.weak.2⟩
  · cases e
/-! ### constants -/
def cF (d : D) : EF := fun env => some (d, false, env)
theorem c_imp {K : PySem.W.Frag} {d : D} {v : V} {σ : Sl} {H : Hp} {Q : VK} (hd : ∀ H, Den K H d v) (h : tE K (cF d) σ H Q) : tC v σ H Q := by
  obtain ⟨O, fx, env, d', fr, env', r, e, q⟩ := h
  cases e
  exact q _ _ ⟨Bh.refl r, hd _⟩
theorem se_int {i j pos} : SE X (cF (.int i)) (.Constant (.int i) j pos) := pe_int.imp fun _ _ _ h => c_imp (d := .int i) (fun _ => rfl) h
theorem se_bl {i j pos} : SE X (cF (.bool i)) (.Constant (.bool i) j pos) := pe_bl.imp fun _ _ _ h => c_imp (d := .bool i) (fun _ => rfl) h
theorem se_non {j pos} : SE X (cF .none) (.Constant .none j pos) := pe_non.imp fun _ _ _ h => c_imp (d := .none) (fun _ => rfl) h
theorem se_str {x y : Str} {j pos} (h : x = y := by rfl) : SE X (cF (.str y)) (.Constant (.str x) j pos) := by
  subst h
  exact pe_str.imp fun _ _ _ h => c_imp (d := .str x) (fun _ => rfl) h
end
end PD

/-! PdB: operators, tests, and, or, statements, loops of data. -/
namespace PD
open PySem PySem.Spec PyProof.Rows L2

abbrev rD2 (K : PySem.W.Frag) (g : List D → Option (D × Bool)) : R2 := fun x y H Q => rD K g [x, y] H Q
abbrev rD1 (K : PySem.W.Frag) (g : List D → Option (D × Bool)) : V → Hp → VK → Prop := fun x H Q => rD K g [x] H Q
theorem tO_mono {K : PySem.W.Frag} {f : OF} {σ : Sl} {H : Hp} {Q Q' : VK} (h : tO K f σ H Q) (k : ∀ v H, Q v H → Q' v H) : tO K f σ H Q' := by
  obtain ⟨O, fx, env, o, env', r, e, q⟩ := h
  exact ⟨O, fx, env, o, env', r, e, fun v H' b i => k _ _ (q v H' b i)⟩
theorem tE_mono {K : PySem.W.Frag} {f : EF} {σ : Sl} {H : Hp} {Q Q' : VK} (h : tE K f σ H Q) (k : ∀ v H, Q v H → Q' v H) : tE K f σ H Q' := by
  obtain ⟨O, fx, env, d, fr, env', r, e, q⟩ := h
  exact ⟨O, fx, env, d, fr, env', r, e, fun v H' p => k _ _ (q v H' p)⟩
theorem nilO_imp {K : PySem.W.Frag} {σ : Sl} {H : Hp} {Q : List V → Hp → Prop} (h : tOL K nilO σ H Q) : Q [] H := by
  obtain ⟨O, fx, env, os, env', r, e, q⟩ := h
  cases e
  exact q _ _ (Bh.refl r) rfl
theorem one_imp {K : PySem.W.Frag} {f : OF} {g : List D → Option (D × Bool)} {σ : Sl} {H : Hp} {Q : VK} (h : tE K (opF (consO f nilO) g) σ H Q) : tO K f σ H fun x H1 => rD1 K g x H1 Q :=
  tO_mono (consO_imp (op_imp h)) fun _ _ q => nilO_imp q
theorem two_imp {K : PySem.W.Frag} {f1 f2 : OF} {g : List D → Option (D × Bool)} {σ : Sl} {H : Hp} {Q : VK} (h : tE K (opF (consO f1 (consO f2 nilO)) g) σ H Q) : tOp (rD2 K g) (tO K f1) (tO K f2) σ H Q :=
  tO_mono (consO_imp (op_imp h)) fun _ _ q => tO_mono (consO_imp q) fun _ _ q => nilO_imp q

/-! ### tests -/
abbrev TF := Ev → Option (Bool × Ev)
def tT (K : PySem.W.Frag) (f : TF) : TT := fun σ H Q => ∃ O fx env b env', R K O fx env σ H ∧ f env = some (b, env') ∧ ∀ H', Bh K O fx env σ H env' H' → Q b H'
abbrev ST (X : Cx) (f : TF) (e : Expr) : Prop := PT X e (tT X.K f)
abbrev SW (X : Cx) (f : TF) (e : Expr) : Prop := PW X e (tT X.K f)
/-- a bool's value -/
def tstF (f : EF) : TF := fun env => match f env with
  | some (.bool k, _, e1) => some (k, e1)
  | _ => none
theorem tst_imp {K : PySem.W.Frag} {f : EF} {σ : Sl} {H : Hp} {Q : Bool → Hp → Prop} (h : tT K (tstF f) σ H Q) : tE K f σ H fun x H' => ∃ k, x = .bl k ∧ Q k H' := by
  obtain ⟨O, fx, env, b, env', r, e, q⟩ := h
  unfold tstF at e
  split at e
  · rename_i k fr e1 h1
    cases e
    refine ⟨O, fx, env, _, _, _, r, h1, fun v H' p => ?_⟩
    obtain ⟨p1, p2⟩ := p.weak
    have p2 : v = V.bl b := p2
    exact ⟨b, p2, q _ p1⟩
  · cases e
section
variable {X : Cx} {a b c : Expr} {fa fb fc : OF} {pos : Pos} {g g' : List D → Option (D × Bool)}
theorem se_bin {op : Operator} (ho : OpR X (binaryOp op) (rD2 X.K g)) (ha : SO X fa a) (hb : SO X fb b) : SE X (opF (consO fa (consO fb nilO)) g) (.BinOp a op b pos) := (pe_op ho ha hb).imp fun _ _ _ h => two_imp h
theorem se_un {op : UnaryOp} (ho : UnR X (unaryOp op) (rD1 X.K g)) (ha : SO X fa a) : SE X (opF (consO fa nilO) g) (.UnaryOp op a pos) := (pe_un ho ha).imp fun _ _ _ h => one_imp h
theorem se_cmp {op : CmpOp} (ho : OpR X (compareOp op) (rD2 X.K g)) (ha : SO X fa a) (hb : SO X fb b) (hm : behindInMarks op b = false) : SE X (opF (consO fa (consO fb nilO)) g) (.Compare a [op] [b] pos) := (pe_cmpR ho ha hb hm).imp fun _ _ _ h => two_imp h
theorem st_cmp {op : CmpOp} (ho : OpR X (compareOp op) (rD2 X.K g)) (ha : SO X fa a) (hb : SO X fb b) (hm : behindInMarks op b = false) : ST X (tstF (opF (consO fa (consO fb nilO)) g)) (.Compare a [op] [b] pos) := (pt_cmpR ho ha hb hm).imp fun _ _ _ h => two_imp (tst_imp h)
/-- a value that is a bool, as a test -/
theorem st_val {e : Expr} {f : EF} (h : SE X f e) (he : ∀ whole, isTrue e X.env whole = (do let v ← whole; standAt e.pos; holding [v] (truthy v)) := by intro _; rfl) : ST X (tstF f) e := (pt_val h he).imp fun _ _ _ h => tst_imp h
/-! truth of any value -/
def trueD : D → Option Bool
  | .none => some false
  | .bool b => some b
  | .int i => some (i != 0)
  | .str x => if x.length ≤ sizeLine then some ((x.length : Int) != 0) else none
  | .list xs => some (!xs.isEmpty)
  | .tuple xs => some (!xs.isEmpty)
  | .dict kvs => some (!kvs.isEmpty)
def truF (f : OF) : TF := fun env => match f env with
  | some (o, e1) => match deref e1 o with
    | some d => match trueD d with
      | some k => some (k, e1)
      | none => none
    | none => none
  | none => none
theorem denL_empty {K : PySem.W.Frag} {H : Hp} {ds : List D} {vs : List V} (h : DenL K H ds vs) : (!ds.isEmpty) = !vs.isEmpty := by
  cases ds with
  | nil => cases h; rfl
  | cons d ds => obtain ⟨v, r, rfl, _⟩ := h; rfl
theorem denP_empty {K : PySem.W.Frag} {H : Hp} {ds : List (D × D)} {vs : List (Key × V)} (h : DenP K H ds vs) : (!ds.isEmpty) = !vs.isEmpty := by
  cases ds with
  | nil => cases h; rfl
  | cons d ds => obtain ⟨k, d⟩ := d; obtain ⟨q, v, r, rfl, _⟩ := h; rfl
/-- what is read of an operand that is a list -/
theorem pk_list {K : PySem.W.Frag} {O : Addr → Prop} {H : Hp} {ds : List D} {v : V} (h : Pk K O H (.list ds) v) : ∃ a vs, v = .ref a ∧ SqL K H a vs ∧ DenL K (cut H O) ds vs := by
  rcases h with ⟨a, vs, e, h1, h2⟩ | ⟨a, e, vs, h1, h2⟩
  · exact ⟨a, vs, e, sqL_le cut_le h1, h2⟩
  · exact ⟨a, vs, e, .inl (.inl h1), h2⟩
theorem pk_tuple {K : PySem.W.Frag} {O : Addr → Prop} {H : Hp} {ds : List D} {v : V} (h : Pk K O H (.tuple ds) v) : ∃ a vs, v = .ref a ∧ SqT K H a vs ∧ DenL K (cut H O) ds vs := by
  rcases h with ⟨a, vs, e, h1, h2⟩ | ⟨a, e, h⟩
  · exact ⟨a, vs, e, sqT_le cut_le h1, h2⟩
  · exact h.elim
theorem pk_dict {K : PySem.W.Frag} {O : Addr → Prop} {H : Hp} {ds : List (D × D)} {v : V} (h : Pk K O H (.dict ds) v) : ∃ a kv, v = .ref a ∧ Rd H a (.dK kv) ∧ DenP K (cut H O) ds kv := by
  rcases h with ⟨a, vs, e, h1, h2⟩ | ⟨a, e, vs, h1, h2⟩
  · exact ⟨a, vs, e, (cut_rd.mp h1).2, h2⟩
  · exact ⟨a, vs, e, .inl h1, h2⟩
theorem pk_int {K : PySem.W.Frag} {O : Addr → Prop} {H : Hp} {i : Int} {v : V} (h : Pk K O H (.int i) v) : v = .int i := by
  rcases h with h | ⟨a, e, h⟩
  · exact h
  · exact h.elim
theorem pk_str {K : PySem.W.Frag} {O : Addr → Prop} {H : Hp} {i : Str} {v : V} (h : Pk K O H (.str i) v) : v = .str i := by
  rcases h with h | ⟨a, e, h⟩
  · exact h
  · exact h.elim
theorem pk_bool {K : PySem.W.Frag} {O : Addr → Prop} {H : Hp} {i : Bool} {v : V} (h : Pk K O H (.bool i) v) : v = .bl i := by
  rcases h with h | ⟨a, e, h⟩
  · exact h
  · exact h.elim
theorem pk_none {K : PySem.W.Frag} {O : Addr → Prop} {H : Hp} {v : V} (h : Pk K O H .none v) : v = .non := by
  rcases h with h | ⟨a, e, h⟩
  · exact h
  · exact h.elim
theorem truth_dict {pins : List (Addr × Obj)} {σ : Sl} {H : Hp} {s : Shared} {p : Addr} {kvs : List (Key × V)} {Q : Bool → Hp → Prop} {E : Value → Shared → Prop} (I : Inv X pins σ H s) (h : Rd H p (.dK kvs)) (q : Q (!kvs.isEmpty) H) : wpAny (model X.prog X.w) X.A (truthy (.ref p)) (TP X pins σ Q) E s := by
  obtain ⟨hz, hS, vs, r, m⟩ : kvs.length ≤ sizeLine ∧ (p == sysModules) = false ∧ ∃ vs, KV kvs vs ∧ s.heap.DictOf (mixKind X.prog X.w) p vs := h.ok I.hok
  have hlen : kvs.length = vs.length := Paired.length r
  have hl := line63
  exact wpAny_truthy_dict hS m (by omega) ⟨H, I.tok _, by rw [isEmpty_kv r]; exact q⟩
theorem st_truth {f : OF} (h : SO X f a) (he : ∀ whole, isTrue a X.env whole = (do let v ← whole; standAt a.pos; holding [v] (truthy v)) := by intro _; rfl) : ST X (truF f) a := by
  refine ⟨fun pins s σ H Q I w => ?_⟩
  obtain ⟨O, fx, env, b, env', r, e, q⟩ := w
  unfold truF at e
  split at e
  · rename_i o e1 h1
    split at e
    · rename_i d h2
      split at e
      · rename_i k h3
        cases e
        refine isTrue_plain (thn (h.run pins s σ H (fun v H1 => Bh X.K O fx env σ H env' H1 ∧ OIs X.K O env' σ H1 o v) I ⟨O, fx, env, o, env', r, h1, fun v H' p1 p2 => ⟨p1, p2⟩⟩) fun v s1 ⟨x, H1, I1, r1, b1, o1⟩ => ?_) (he _)
        have pk := pk_of b1.rel o1 h2
        have fin := q H1 b1
        cases d with
        | none =>
          obtain rfl := pk_none pk
          cases h3
          exact tru_ok pins s1 σ H1 .non v Q I1 r1 ⟨false, rfl, fin⟩
        | bool i =>
          obtain rfl := pk_bool pk
          cases h3
          exact tru_ok pins s1 σ H1 _ v Q I1 r1 ⟨_, rfl, fin⟩
        | int i =>
          obtain rfl := pk_int pk
          cases h3
          exact tru_ok pins s1 σ H1 _ v Q I1 r1 ⟨_, rfl, fin⟩
        | str i =>
          obtain rfl := pk_str pk
          simp only [trueD] at h3
          split at h3
          · rename_i hz
            cases h3
            exact tru_ok pins s1 σ H1 _ v Q I1 r1 ⟨_, ⟨hz, rfl⟩, fin⟩
          · cases h3
        | list xs =>
          obtain ⟨p, vs, rfl, hs, hd⟩ := pk_list pk
          cases h3
          exact tru_ok pins s1 σ H1 _ v Q I1 r1 ⟨_, .inl ⟨vs, hs, denL_empty hd⟩, fin⟩
        | tuple xs =>
          obtain ⟨p, vs, rfl, hs, hd⟩ := pk_tuple pk
          cases h3
          exact tru_ok pins s1 σ H1 _ v Q I1 r1 ⟨_, .inr (.inl ⟨vs, hs, denL_empty hd⟩), fin⟩
        | dict xs =>
          obtain ⟨p, vs, rfl, hs, hd⟩ := pk_dict pk
          cases h3
          cases r1
          exact truth_dict I1 hs (by rw [← denP_empty hd]; exact fin)
      · cases e
    · cases e
  · cases e
/-! ### and, or, not of tests -/
def andT (f g : TF) : TF := fun env => match f env with
  | some (true, e1) => g e1
  | some (false, e1) => some (false, e1)
  | none => none
def orT (f g : TF) : TF := fun env => match f env with
  | some (true, e1) => some (true, e1)
  | some (false, e1) => g e1
  | none => none
def notT (f : TF) : TF := fun env => match f env with
  | some (b, e1) => some (!b, e1)
  | none => none
theorem and_imp {K : PySem.W.Frag} {f g : TF} {σ : Sl} {H : Hp} {Q : Bool → Hp → Prop} (h : tT K (andT f g) σ H Q) : tAnd (tT K f) (tT K g) σ H Q := by
  obtain ⟨O, fx, env, b, env', r, e, q⟩ := h
  unfold andT at e
  split at e
  · rename_i e1 h1
    exact ⟨O, fx, env, true, e1, r, h1, fun H1 b1 => iteT ⟨O, fx, e1, b, env', b1.rel, e, fun H2 b2 => q H2 (b1.trans b2)⟩⟩
  · rename_i e1 h1
    cases e
    exact ⟨O, fx, env, false, _, r, h1, fun H1 b1 => iteF (q H1 b1)⟩
  · cases e
theorem or_imp {K : PySem.W.Frag} {f g : TF} {σ : Sl} {H : Hp} {Q : Bool → Hp → Prop} (h : tT K (orT f g) σ H Q) : tOr (tT K f) (tT K g) σ H Q := by
  obtain ⟨O, fx, env, b, env', r, e, q⟩ := h
  unfold orT at e
  split at e
  · rename_i e1 h1
    cases e
    exact ⟨O, fx, env, true, _, r, h1, fun H1 b1 => iteT (q H1 b1)⟩
  · rename_i e1 h1
    exact ⟨O, fx, env, false, e1, r, h1, fun H1 b1 => iteF ⟨O, fx, e1, b, env', b1.rel, e, fun H2 b2 => q H2 (b1.trans b2)⟩⟩
  · cases e
theorem not_imp {K : PySem.W.Frag} {f : TF} {σ : Sl} {H : Hp} {Q : Bool → Hp → Prop} (h : tT K (notT f) σ H Q) : tNot (tT K f) σ H Q := by
  obtain ⟨O, fx, env, b, env', r, e, q⟩ := h
  unfold notT at e
  split at e
  · rename_i b1 e1 h1
    cases e
    exact ⟨O, fx, env, b1, _, r, h1, fun H1 b1 => q H1 b1⟩
  · cases e
variable {rest : List Expr} {tf tg : TF}
theorem sw_and1 (h : ST X tf a) : SW X tf (.BoolOp .And [a] pos) := pw_and1 h
theorem sw_or1 (h : ST X tf a) : SW X tf (.BoolOp .Or [a] pos) := pw_or1 h
theorem sw_and (h : ST X tf a) (k : SW X tg (.BoolOp .And (b :: rest) pos)) : SW X (andT tf tg) (.BoolOp .And (a :: b :: rest) pos) := (pw_and h k).imp fun _ _ _ h => and_imp h
theorem sw_or (h : ST X tf a) (k : SW X tg (.BoolOp .Or (b :: rest) pos)) : SW X (orT tf tg) (.BoolOp .Or (a :: b :: rest) pos) := (pw_or h k).imp fun _ _ _ h => or_imp h
theorem st_w {e : Expr} (h : SW X tf e) : ST X tf e := h.pt
theorem st_not (h : ST X tf a) : ST X (notT tf) (.UnaryOp .Not a pos) := (pt_not h).imp fun _ _ _ h => not_imp h
/-! .. as values -/
def andE (f g : EF) : EF := fun env => match f env with
  | some (.bool true, _, e1) => g e1
  | some (.bool false, _, e1) => some (.bool false, false, e1)
  | _ => none
def orE (f g : EF) : EF := fun env => match f env with
  | some (.bool true, _, e1) => some (.bool true, false, e1)
  | some (.bool false, _, e1) => g e1
  | _ => none
def notE (f : EF) : EF := fun env => match f env with
  | some (.bool b, _, e1) => some (.bool (!b), false, e1)
  | _ => none
theorem andE_imp {K : PySem.W.Frag} {f g : EF} {σ : Sl} {H : Hp} {Q : VK} (h : tE K (andE f g) σ H Q) : tAndV (tE K f) (tE K g) σ H Q := by
  obtain ⟨O, fx, env, d, fr, env', r, e, q⟩ := h
  unfold andE at e
  split at e
  · rename_i fr1 e1 h1
    refine ⟨O, fx, env, _, _, e1, r, h1, fun v H1 p => ?_⟩
    obtain ⟨p1, p2⟩ := p.weak
    exact ⟨true, p2, iteT ⟨O, fx, e1, d, fr, env', p1.rel, e, fun v2 H2 p3 => q v2 H2 (bh_epost p1 p3)⟩⟩
  · rename_i fr1 e1 h1
    cases e
    refine ⟨O, fx, env, _, _, _, r, h1, fun v H1 p => ?_⟩
    obtain ⟨p1, p2⟩ := p.weak
    exact ⟨false, p2, iteF (q _ H1 ⟨p1, rfl⟩)⟩
  · cases e
theorem orE_imp {K : PySem.W.Frag} {f g : EF} {σ : Sl} {H : Hp} {Q : VK} (h : tE K (orE f g) σ H Q) : tOrV (tE K f) (tE K g) σ H Q := by
  obtain ⟨O, fx, env, d, fr, env', r, e, q⟩ := h
  unfold orE at e
  split at e
  · rename_i fr1 e1 h1
    cases e
    refine ⟨O, fx, env, _, _, _, r, h1, fun v H1 p => ?_⟩
    obtain ⟨p1, p2⟩ := p.weak
    exact ⟨true, p2, iteT (q _ H1 ⟨p1, rfl⟩)⟩
  · rename_i fr1 e1 h1
    refine ⟨O, fx, env, _, _, e1, r, h1, fun v H1 p => ?_⟩
    obtain ⟨p1, p2⟩ := p.weak
    exact ⟨false, p2, iteF ⟨O, fx, e1, d, fr, env', p1.rel, e, fun v2 H2 p3 => q v2 H2 (bh_epost p1 p3)⟩⟩
  · cases e
theorem notE_imp {K : PySem.W.Frag} {f : EF} {σ : Sl} {H : Hp} {Q : VK} (h : tE K (notE f) σ H Q) : tNotV (tE K f) σ H Q := by
  obtain ⟨O, fx, env, d, fr, env', r, e, q⟩ := h
  unfold notE at e
  split at e
  · rename_i b fr1 e1 h1
    cases e
    refine ⟨O, fx, env, _, _, _, r, h1, fun v H1 p => ?_⟩
    obtain ⟨p1, p2⟩ := p.weak
    exact ⟨b, p2, q _ H1 ⟨p1, rfl⟩⟩
  · cases e
variable {ef eg : EF}
theorem se_one {op} (h : SE X ef a) : SE X ef (.BoolOp op [a] pos) := pe_one h
theorem se_and (h : SE X ef a) (k : SE X eg (.BoolOp .And (b :: rest) pos)) : SE X (andE ef eg) (.BoolOp .And (a :: b :: rest) pos) := (pe_and h k).imp fun _ _ _ h => andE_imp h
theorem se_or (h : SE X ef a) (k : SE X eg (.BoolOp .Or (b :: rest) pos)) : SE X (orE ef eg) (.BoolOp .Or (a :: b :: rest) pos) := (pe_or h k).imp fun _ _ _ h => orE_imp h
theorem se_not (h : SE X ef a) : SE X (notE ef) (.UnaryOp .Not a pos) := (pe_not h).imp fun _ _ _ h => notE_imp h
/-! a if t else b -/
def iteE (t : TF) (f g : EF) : EF := fun env => match t env with
  | some (true, e1) => f e1
  | some (false, e1) => g e1
  | none => none
theorem se_ite (hc : ST X tf c) (ha : SE X ef a) (hb : SE X eg b) : SE X (iteE tf ef eg) (.IfExp c a b pos) := (pe_ifExp hc ha hb).imp fun σ H Q h => by
  obtain ⟨O, fx, env, d, fr, env', r, e, q⟩ := h
  unfold iteE at e
  split at e
  · rename_i e1 h1
    exact ⟨O, fx, env, true, e1, r, h1, fun H1 b1 => iteT ⟨O, fx, e1, d, fr, env', b1.rel, e, fun v H2 p => q v H2 (bh_epost b1 p)⟩⟩
  · rename_i e1 h1
    exact ⟨O, fx, env, false, e1, r, h1, fun H1 b1 => iteF ⟨O, fx, e1, d, fr, env', b1.rel, e, fun v H2 p => q v H2 (bh_epost b1 p)⟩⟩
  · cases e
/-! ### a name that is taken: from then on others may have it too -/
def varE (i : Nat) : EF := fun env => match env[i]? with
  | some (some (d, .sh)) => some (d, false, env)
  | some (some (d, .ow)) => some (d, false, env.set i (some (d, .sh)))
  | _ => none
end
end PD

/-! PdC: names taken, stored, changed; statements, loops of data. -/
namespace PD
open PySem PySem.Spec PyProof.Rows L2

theorem get_set_self {α : Type} {l : List α} {i : Nat} {x y : α} (h : l[i]? = some y) : (l.set i x)[i]? = some x := by
  obtain ⟨h1, _⟩ := List.getElem?_eq_some_iff.mp h
  exact List.getElem?_set_self h1
theorem get_set_ne {α : Type} {l : List α} {i j : Nat} {x : α} (h : j ≠ i) : (l.set i x)[j]? = l[j]? := List.getElem?_set_ne (Ne.symm h)
theorem get_set_none {α : Type} {l : List α} {i j : Nat} {x y : α} (h : (l.set i x)[j]? = some y) : j ≠ i ∨ (j = i ∧ y = x) := by
  by_cases e : j = i
  · subst e
    right
    refine ⟨rfl, ?_⟩
    by_cases hl : j < l.length
    · rw [List.getElem?_set_self hl] at h; exact (Option.some.inj h).symm
    · rw [List.getElem?_eq_none (by simpa using hl)] at h; cases h
  · exact .inl e
theorem get_of_set {α : Type} {l : List α} {i j : Nat} {x y : α} (h : (l.set i x)[j]? = some y) (n : y ≠ x) : l[j]? = some y ∧ j ≠ i := by
  rcases get_set_none h with e | ⟨e, e2⟩
  · rw [get_set_ne e] at h; exact ⟨h, e⟩
  · exact absurd e2 n

section
variable {K : PySem.W.Frag} {O : Addr → Prop} {fx : Nat → Option Addr} {env env' : Ev} {σ σ' : Sl} {H H' : Hp} {a : Addr} {d c : D} {v : V} {i : Nat} {o : Ow}

theorem R.slot (r : R K O fx env σ H) {x : Option (D × Ow)} (h : env[i]? = some x) : ∃ y, σ[i]? = some y := by
  obtain ⟨h1, _⟩ := List.getElem?_eq_some_iff.mp h
  rw [r.len] at h1
  exact ⟨_, List.getElem?_eq_getElem h1⟩
/-- a slot is forgotten, or stored anew with what all may read -/
theorem R.store (r : R K O fx env σ H) {x : Option (D × Ow)} (h : env[i]? = some x) (hb : ∀ d, x ≠ some (d, .br)) {y : Option V} (hd : Den K (Pb O env σ H) d v) :
    Bh2 K O fx env σ H (env.set i (some (d, .sh))) (σ.set i (some v)) H := by
  obtain ⟨ys, hy⟩ := r.slot h
  have rt : ∀ b, Rt (env.set i (some (d, .sh))) (σ.set i (some v)) b → Rt env σ b := fun b ⟨j, e, p, h1, h2, h3⟩ => by
    obtain ⟨h4, h5⟩ := get_of_set h1 (by intro z; cases z; exact h2 rfl)
    rw [get_set_ne h5] at h3
    exact ⟨j, e, p, h4, h2, h3⟩
  have s : Same (Pb O env σ H) (Pb O (env.set i (some (d, .sh))) (σ.set i (some v)) H) := cut_anti fun b z => z.imp id (rt b)
  refine ⟨⟨by simp [r.len], fun j e h1 => ?_, fun j e p h1 h2 => ?_, fun j k b e e' p p' h1 h2 h3 h4 h5 h6 => ?_, r.out, fun p hp => ?_, fun j e h1 => ?_⟩, s, fun _ _ => rfl⟩
  · rcases get_set_none h1 with ne | ⟨e1, e2⟩
    · rw [get_set_ne ne] at h1 ⊢
      obtain ⟨w, h2, h3⟩ := r.val j e h1
      exact ⟨w, h2, den_le (Le.of_same s) h3⟩
    · cases e2; subst e1
      exact ⟨v, get_set_self hy, den_le (Le.of_same s) hd⟩
  · obtain ⟨h4, h5⟩ := get_of_set h1 (by intro z; cases z; exact h2 rfl)
    rw [get_set_ne h5]
    obtain ⟨b, q1, q2, q3⟩ := r.own j e p h4 h2
    exact ⟨b, q1, q2, q3.mono (Le.of_same s) rfl⟩
  · obtain ⟨g1, n1⟩ := get_of_set h1 (by intro z; cases z; exact h2 rfl)
    obtain ⟨g2, n2⟩ := get_of_set h3 (by intro z; cases z; exact h4 rfl)
    rw [get_set_ne n1] at h5
    rw [get_set_ne n2] at h6
    exact r.apart j k b e e' p p' g1 h2 g2 h4 h5 h6
  · obtain ⟨e, h1, h2⟩ := r.fix p hp
    have ne : p.1 ≠ i := fun z => by rw [z, h] at h1; exact hb e (Option.some.inj h1)
    exact ⟨e, by rw [get_set_ne ne]; exact h1, by rw [get_set_ne ne]; exact h2⟩
  · obtain ⟨g1, n1⟩ := get_of_set h1 (by intro z; cases z)
    exact r.pin j e g1
/-- .. with a new object of its own -/
theorem Fs2.store {env0 : Ev} {σ0 : Sl} {H0 : Hp} (f : Fs2 K O fx env0 σ0 H0 env σ H a d) {x : Option (D × Ow)} (h : env[i]? = some x) (hb : ∀ d, x ≠ some (d, .br)) :
    Bh2 K O fx env0 σ0 H0 (env.set i (some (d, .ow))) (σ.set i (some (.ref a))) H := by
  have r := f.rel
  obtain ⟨ys, hy⟩ := r.slot h
  have rt : ∀ b, Rt (env.set i (some (d, .ow))) (σ.set i (some (V.ref a))) b → Rt env σ b ∨ b = a := fun b ⟨j, e, p, h1, h2, h3⟩ => by
    rcases get_set_none h1 with ne | ⟨e1, e2⟩
    · rw [get_set_ne ne] at h1 h3
      exact .inl ⟨j, e, p, h1, h2, h3⟩
    · subst e1
      rw [get_set_self hy] at h3
      cases h3
      exact .inr rfl
  have oo : ∀ b, Oo O (env.set i (some (d, .ow))) (σ.set i (some (V.ref a))) b → Oo (plus O a) env σ b := fun b z => by
    rcases z with z | z
    · exact .inl (.inl z)
    · rcases rt b z with z | z
      · exact .inr z
      · exact .inl (.inr z)
  have s : Same (Pb (plus O a) env σ H) (Pb O (env.set i (some (d, .ow))) (σ.set i (some (V.ref a))) H) := cut_anti oo
  refine ⟨⟨by simp [r.len], fun j e h1 => ?_, fun j e p h1 h2 => ?_, fun j k b e e' p p' h1 h2 h3 h4 h5 h6 => ?_, fun b z => r.out b (.inl z), fun p hp => ?_, fun j e h1 => ?_⟩, f.same.trans s, f.outer⟩
  · obtain ⟨g1, n1⟩ := get_of_set h1 (by intro z; cases z)
    rw [get_set_ne n1]
    obtain ⟨w, h2, h3⟩ := r.val j e g1
    exact ⟨w, h2, den_le (Le.of_same s) h3⟩
  · rcases get_set_none h1 with ne | ⟨e1, e2⟩
    · rw [get_set_ne ne] at h1 ⊢
      obtain ⟨b, q1, q2, q3⟩ := r.own j e p h1 h2
      exact ⟨b, q1, fun z => q2 (.inl z), q3.mono (Le.of_same s) rfl⟩
    · cases e2; subst e1
      exact ⟨a, get_set_self hy, f.new, f.own.mono (Le.of_same s) rfl⟩
  · have key : ∀ {m : Nat} {e : D} {p : Ow}, (env.set i (some (d, .ow)))[m]? = some (some (e, p)) → p ≠ .sh → (σ.set i (some (V.ref a)))[m]? = some (some (V.ref b)) → (m = i ∧ b = a) ∨ (m ≠ i ∧ b ≠ a ∧ env[m]? = some (some (e, p)) ∧ σ[m]? = some (some (V.ref b))) := fun {m e p} g1 g2 g3 => by
      rcases get_set_none g1 with ne | ⟨e1, e2⟩
      · rw [get_set_ne ne] at g1 g3
        refine .inr ⟨ne, fun z => ?_, g1, g3⟩
        obtain ⟨b', q1, q2, _⟩ := r.own m e p g1 g2
        rw [g3] at q1; cases q1
        exact q2 (.inr z)
      · subst e1
        rw [get_set_self hy] at g3
        cases g3
        exact .inl ⟨rfl, rfl⟩
    rcases key h1 h2 h5 with ⟨e1, e2⟩ | ⟨n1, n2, g1, g2⟩
    · rcases key h3 h4 h6 with ⟨e3, _⟩ | ⟨_, n3, _, _⟩
      · rw [e1, e3]
      · exact absurd e2 n3
    · rcases key h3 h4 h6 with ⟨_, e3⟩ | ⟨_, _, g3, g4⟩
      · exact absurd e3 n2
      · exact r.apart j k b e e' p p' g1 h2 g3 h4 g2 g4
  · obtain ⟨e, h1, h2⟩ := r.fix p hp
    have ne : p.1 ≠ i := fun z => by rw [z, h] at h1; exact hb e (Option.some.inj h1)
    exact ⟨e, by rw [get_set_ne ne]; exact h1, by rw [get_set_ne ne]; exact h2⟩
  · obtain ⟨g1, n1⟩ := get_of_set h1 (by intro z; cases z)
    exact r.pin j e g1
/-- an owned name's object is from now on for all to read -/
theorem R.freeze (r : R K O fx env σ H) (h : env[i]? = some (some (d, .ow))) : ∃ a, σ[i]? = some (some (.ref a)) ∧ Bh2 K O fx env σ H (env.set i (some (d, .sh))) σ H ∧ Den K (Pb O (env.set i (some (d, .sh))) σ H) d (.ref a) := by
  obtain ⟨a, hs, hO, hw⟩ := r.own i d .ow h (by decide)
  have rt : ∀ b, Rt (env.set i (some (d, .sh))) σ b → Rt env σ b ∧ b ≠ a := fun b ⟨j, e, p, h1, h2, h3⟩ => by
    obtain ⟨h4, h5⟩ := get_of_set h1 (by intro z; cases z; exact h2 rfl)
    refine ⟨⟨j, e, p, h4, h2, h3⟩, fun z => h5 ?_⟩
    subst z
    exact r.apart j i b e d p .ow h4 h2 h (by decide) h3 hs
  have s : Same (Pb O env σ H) (Pb O (env.set i (some (d, .sh))) σ H) := cut_anti fun b z => z.imp id fun z => (rt b z).1
  have den : Den K (Pb O (env.set i (some (d, .sh))) σ H) d (.ref a) := hw.den (Le.of_same s) fun u hu => cut_some.mpr ⟨fun z => z.elim hO fun z => (rt a z).2 rfl, hu⟩
  refine ⟨a, hs, ⟨⟨by simp [r.len], fun j e h1 => ?_, fun j e p h1 h2 => ?_, fun j k b e e' p p' h1 h2 h3 h4 h5 h6 => ?_, r.out, fun p hp => ?_, fun j e h1 => ?_⟩, s, fun _ _ => rfl⟩, den⟩
  · rcases get_set_none h1 with ne | ⟨e1, e2⟩
    · rw [get_set_ne ne] at h1
      obtain ⟨w, h2, h3⟩ := r.val j e h1
      exact ⟨w, h2, den_le (Le.of_same s) h3⟩
    · cases e2; subst e1
      exact ⟨_, hs, den⟩
  · obtain ⟨h4, h5⟩ := get_of_set h1 (by intro z; cases z; exact h2 rfl)
    obtain ⟨b, q1, q2, q3⟩ := r.own j e p h4 h2
    exact ⟨b, q1, q2, q3.mono (Le.of_same s) rfl⟩
  · obtain ⟨g1, n1⟩ := get_of_set h1 (by intro z; cases z; exact h2 rfl)
    obtain ⟨g2, n2⟩ := get_of_set h3 (by intro z; cases z; exact h4 rfl)
    exact r.apart j k b e e' p p' g1 h2 g2 h4 h5 h6
  · obtain ⟨e, h1, h2⟩ := r.fix p hp
    have ne : p.1 ≠ i := fun z => by rw [z, h] at h1; cases h1
    exact ⟨e, by rw [get_set_ne ne]; exact h1, h2⟩
  · obtain ⟨g1, n1⟩ := get_of_set h1 (by intro z; cases z)
    exact r.pin j e g1
/-- an owned name's object is handed on, the name forgotten -/
theorem R.move (r : R K O fx env σ H) (h : env[i]? = some (some (d, .ow))) : ∃ a, σ[i]? = some (some (.ref a)) ∧ Fs2 K O fx env σ H (env.set i none) σ H a d := by
  obtain ⟨a, hs, hO, hw⟩ := r.own i d .ow h (by decide)
  have rt : ∀ b, Rt (env.set i none) σ b → Rt env σ b ∧ b ≠ a := fun b ⟨j, e, p, h1, h2, h3⟩ => by
    obtain ⟨h4, h5⟩ := get_of_set h1 (by intro z; cases z)
    refine ⟨⟨j, e, p, h4, h2, h3⟩, fun z => h5 ?_⟩
    subst z
    exact r.apart j i b e d p .ow h4 h2 h (by decide) h3 hs
  have oo : ∀ b, Oo (plus O a) (env.set i none) σ b → Oo O env σ b := fun b z => by
    rcases z with (z | z) | z
    · exact .inl z
    · subst z; exact .inr ⟨i, d, .ow, h, by decide, hs⟩
    · exact .inr (rt b z).1
  have s : Same (Pb O env σ H) (Pb (plus O a) (env.set i none) σ H) := cut_anti oo
  refine ⟨a, hs, hO, ⟨by simp [r.len], fun j e h1 => ?_, fun j e p h1 h2 => ?_, fun j k b e e' p p' h1 h2 h3 h4 h5 h6 => ?_, fun b z => ?_, fun p hp => ?_, fun j e h1 => ?_⟩, s, fun _ _ => rfl, hw.mono (Le.of_same s) rfl⟩
  · obtain ⟨g1, n1⟩ := get_of_set h1 (by intro z; cases z)
    obtain ⟨w, h2, h3⟩ := r.val j e g1
    exact ⟨w, h2, den_le (Le.of_same s) h3⟩
  · obtain ⟨g1, n1⟩ := get_of_set h1 (by intro z; cases z)
    obtain ⟨b, q1, q2, q3⟩ := r.own j e p g1 h2
    refine ⟨b, q1, fun z => ?_, q3.mono (Le.of_same s) rfl⟩
    rcases z with z | z
    · exact q2 z
    · subst z
      exact n1 (r.apart j i b e d p .ow g1 h2 h (by decide) q1 hs)
  · obtain ⟨g1, n1⟩ := get_of_set h1 (by intro z; cases z)
    obtain ⟨g2, n2⟩ := get_of_set h3 (by intro z; cases z)
    exact r.apart j k b e e' p p' g1 h2 g2 h4 h5 h6
  · rcases z with z | z
    · exact r.out b z
    · subst z
      obtain ⟨u, hu, m⟩ := hw.ex
      rw [hu]; exact m
  · obtain ⟨e, h1, h2⟩ := r.fix p hp
    have ne : p.1 ≠ i := fun z => by rw [z, h] at h1; cases h1
    exact ⟨e, by rw [get_set_ne ne]; exact h1, h2⟩
  · obtain ⟨g1, n1⟩ := get_of_set h1 (by intro z; cases z)
    exact r.pin j e g1
/-- an owned object is changed -/
theorem R.mutate (r : R K O fx env σ H) (h : env[i]? = some (some (c, o))) (n : o ≠ .sh) (hs : σ[i]? = some (some (.ref a))) {u : HO} (hw : OwnAt K (Pb O env σ H) (upd H a u) a d) :
    Bh2 K O fx env σ H (env.set i (some (d, o))) σ (upd H a u) := by
  have hOa : Oo O env σ a := .inr ⟨i, c, o, h, n, hs⟩
  have noO : ¬ O a := by
    obtain ⟨b, q1, q2, _⟩ := r.own i c o h n
    rw [hs] at q1
    have e : a = b := by injection q1 with q1; injection q1 with q1; injection q1
    subst e
    exact q2
  have rt : ∀ b, Rt (env.set i (some (d, o))) σ b ↔ Rt env σ b := fun b => by
    constructor
    · rintro ⟨j, e, p, h1, h2, h3⟩
      rcases get_set_none h1 with ne | ⟨e1, e2⟩
      · rw [get_set_ne ne] at h1
        exact ⟨j, e, p, h1, h2, h3⟩
      · subst e1; cases e2
        exact ⟨j, c, _, h, h2, h3⟩
    · rintro ⟨j, e, p, h1, h2, h3⟩
      by_cases e1 : j = i
      · subst e1
        rw [h] at h1; cases h1
        exact ⟨j, d, o, get_set_self h, n, h3⟩
      · exact ⟨j, e, p, by rw [get_set_ne e1]; exact h1, h2, h3⟩
  have oo : Oo O (env.set i (some (d, o))) σ = Oo O env σ := funext fun b => propext (or_congr Iff.rfl (rt b))
  have pe : Pb O (env.set i (some (d, o))) σ (upd H a u) = Pb O env σ H := by
    show cut (upd H a u) (Oo O (env.set i (some (d, o))) σ) = cut H (Oo O env σ)
    rw [oo]
    funext b
    unfold cut
    by_cases z : Oo O env σ b
    · rw [if_pos z, if_pos z]
    · rw [if_neg z, if_neg z, upd_ne (fun e : b = a => z (by rw [e]; exact hOa))]
  refine ⟨⟨by simp [r.len], fun j e h1 => ?_, fun j e p h1 h2 => ?_, fun j k b e e' p p' h1 h2 h3 h4 h5 h6 => ?_, fun b z => ?_, fun p hp => ?_, fun j e h1 => ?_⟩, by rw [pe]; exact Same.refl _, fun b z => upd_ne (fun e : b = a => noO (by rw [← e]; exact z))⟩
  · rw [pe]
    obtain ⟨g1, n1⟩ := get_of_set h1 (by intro z; cases z; exact n rfl)
    exact r.val j e g1
  · rw [pe]
    rcases get_set_none h1 with ne | ⟨e1, e2⟩
    · rw [get_set_ne ne] at h1
      obtain ⟨b, q1, q2, q3⟩ := r.own j e p h1 h2
      refine ⟨b, q1, q2, q3.mono (Le.refl _) (upd_ne fun z => ?_)⟩
      subst z
      exact ne (r.apart j i b e c p o h1 h2 h n q1 hs)
    · subst e1; cases e2
      exact ⟨a, hs, noO, hw⟩
  · have key : ∀ {m : Nat} {e : D} {p : Ow}, (env.set i (some (d, o)))[m]? = some (some (e, p)) → ∃ e', env[m]? = some (some (e', p)) := fun {m e p} g1 => by
      rcases get_set_none g1 with ne | ⟨e1, e2⟩
      · rw [get_set_ne ne] at g1
        exact ⟨e, g1⟩
      · subst e1; cases e2
        exact ⟨c, h⟩
    obtain ⟨e1, g1⟩ := key h1
    obtain ⟨e2, g2⟩ := key h3
    exact r.apart j k b e1 e2 p p' g1 h2 g2 h4 h5 h6
  · by_cases e : b = a
    · subst e; exact absurd z noO
    · rw [upd_ne e]; exact r.out b z
  · obtain ⟨e, h1, h2⟩ := r.fix p hp
    by_cases ne : p.1 = i
    · rw [ne, h] at h1
      cases h1
      exact ⟨d, by rw [ne]; exact get_set_self h, h2⟩
    · exact ⟨e, by rw [get_set_ne ne]; exact h1, h2⟩
  · rcases get_set_none h1 with ne | ⟨e1, e2⟩
    · rw [get_set_ne ne] at h1
      exact r.pin j e h1
    · subst e1; cases e2
      exact r.pin j c h
end

section
variable {X : Cx}
theorem se_var (i : Nat) {x : Str} {pos : Pos} (hN : X.N[i]? = some x := by rfl) (hv : Vis X.env.scope x := by first | exact Or.inl rfl | exact Or.inr (Or.inl rfl) | exact Or.inr (Or.inr rfl)) (hd : (x == ("__debug__" : Str)) = false := by decide)
    (hcd : (x == ("__classdict__" : Str)) = false := by decide) : SE X (varE i) (.Name x pos) := (pe_var hN hv hd hcd).imp fun σ H Q h => by
  obtain ⟨O, fx, env, d, fr, env', r, e, q⟩ := h
  unfold varE at e
  split at e
  · rename_i d1 h1
    cases e
    obtain ⟨v, h2, h3⟩ := r.val i d h1
    exact ⟨v, h2, q v H ⟨Bh.refl r, h3⟩⟩
  · rename_i d1 h1
    cases e
    obtain ⟨a, h2, h3, h4⟩ := r.freeze h1
    exact ⟨_, h2, q _ H ⟨h3, h4⟩⟩
  · cases e
/-- a name that is handed on, at a return -/
def mvE (i : Nat) : EF := fun env => match env[i]? with
  | some (some (d, .sh)) => some (d, false, env)
  | some (some (d, .ow)) => some (d, true, env.set i none)
  | _ => none
theorem se_mv (i : Nat) {x : Str} {pos : Pos} (hN : X.N[i]? = some x := by rfl) (hv : Vis X.env.scope x := by first | exact Or.inl rfl | exact Or.inr (Or.inl rfl) | exact Or.inr (Or.inr rfl)) (hd : (x == ("__debug__" : Str)) = false := by decide)
    (hcd : (x == ("__classdict__" : Str)) = false := by decide) : SE X (mvE i) (.Name x pos) := (pe_var hN hv hd hcd).imp fun σ H Q h => by
  obtain ⟨O, fx, env, d, fr, env', r, e, q⟩ := h
  unfold mvE at e
  split at e
  · rename_i d1 h1
    cases e
    obtain ⟨v, h2, h3⟩ := r.val i d h1
    exact ⟨v, h2, q v H ⟨Bh.refl r, h3⟩⟩
  · rename_i d1 h1
    cases e
    obtain ⟨a, h2, h3⟩ := r.move h1
    exact ⟨_, h2, q _ H ⟨a, rfl, h3⟩⟩
  · cases e
end

/-! ### statements -/
inductive Out where
  | nx | bk | ct
  | rt (d : D) (fr : Bool)
abbrev SF := Ev → Option (Out × Ev)
def OutOk (K : PySem.W.Frag) (O : Addr → Prop) (fx : Nat → Option Addr) (env : Ev) (σ : Sl) (H : Hp) (E : Ends) (env' : Ev) : Out → Prop
  | .nx => ∀ σ' H', Bh2 K O fx env σ H env' σ' H' → E.nx σ' H'
  | .bk => ∀ σ' H', Bh2 K O fx env σ H env' σ' H' → E.bk σ' H'
  | .ct => ∀ σ' H', Bh2 K O fx env σ H env' σ' H' → E.ct σ' H'
  | .rt d fr => ∀ v σ' H', EPost2 K O fx env σ H d fr env' v σ' H' → E.rt v H'
def tS (K : PySem.W.Frag) (F : SF) : TS := fun E σ H => ∃ O fx env out env', R K O fx env σ H ∧ F env = some (out, env') ∧ OutOk K O fx env σ H E env' out
abbrev SS (X : Cx) (F : SF) (st : Stmt) : Prop := PS X st (tS X.K F)
abbrev SSs (X : Cx) (F : SF) (st : List Stmt) : Prop := PSs X st (tS X.K F)
theorem OutOk.trans {K : PySem.W.Frag} {O : Addr → Prop} {fx : Nat → Option Addr} {env e1 env' : Ev} {σ σ1 : Sl} {H H1 : Hp} {E : Ends} {out : Out} (b : Bh2 K O fx env σ H e1 σ1 H1) (h : OutOk K O fx env σ H E env' out) : OutOk K O fx e1 σ1 H1 E env' out := by
  cases out with
  | nx => exact fun σ' H' k => h σ' H' (b.trans k)
  | bk => exact fun σ' H' k => h σ' H' (b.trans k)
  | ct => exact fun σ' H' k => h σ' H' (b.trans k)
  | rt d fr => exact fun v σ' H' k => h v σ' H' (bh_epost b k)
def nxF : SF := fun env => some (.nx, env)
def bkF : SF := fun env => some (.bk, env)
def ctF : SF := fun env => some (.ct, env)
def seqF (F G : SF) : SF := fun env => match F env with
  | some (.nx, e1) => G e1
  | r => r
def exprF (f : EF) : SF := fun env => match f env with
  | some (_, _, e1) => some (.nx, e1)
  | none => none
def retF (f : EF) : SF := fun env => match f env with
  | some (d, fr, e1) => some (.rt d fr, e1)
  | none => none
def retN : SF := fun env => some (.rt .none false, env)
def ifF (t : TF) (F G : SF) : SF := fun env => match t env with
  | some (true, e1) => F e1
  | some (false, e1) => G e1
  | none => none
def noF : SF := fun _ => none
section
variable {X : Cx} {st : Stmt} {rest : List Stmt} {F G : SF} {f : EF} {e : Expr} {pos : Pos}
theorem nx_imp {K : PySem.W.Frag} {E : Ends} {σ : Sl} {H : Hp} (h : tS K nxF E σ H) : tNext E σ H := by
  obtain ⟨O, fx, env, out, env', r, e, q⟩ := h
  cases e
  exact q _ _ (Bh.refl r)
theorem ss_nil : SSs X nxF [] := pss_nil.imp fun _ _ _ h => nx_imp h
theorem ss_pass : SS X nxF (.Pass pos) := ps_pass.imp fun _ _ _ h => nx_imp h
theorem ss_doc {x j pos'} : SS X nxF (.Expr (.Constant (.str x) j pos') pos) := ps_doc.imp fun _ _ _ h => nx_imp h
theorem ss_break : SS X bkF (.Break pos) := ps_break.imp fun E σ H h => by
  obtain ⟨O, fx, env, out, env', r, e, q⟩ := h
  cases e
  exact q _ _ (Bh.refl r)
theorem ss_continue : SS X ctF (.Continue pos) := ps_continue.imp fun E σ H h => by
  obtain ⟨O, fx, env, out, env', r, e, q⟩ := h
  cases e
  exact q _ _ (Bh.refl r)
theorem ss_cons (h : SS X F st) (k : SSs X G rest) : SSs X (seqF F G) (st :: rest) := (pss_cons h k).imp fun E σ H h => by
  obtain ⟨O, fx, env, out, env', r, e, q⟩ := h
  unfold seqF at e
  split at e
  · rename_i e1 h1
    exact ⟨O, fx, env, .nx, e1, r, h1, fun σ1 H1 b => ⟨O, fx, e1, out, env', b.rel, e, q.trans b⟩⟩
  · rename_i hn
    refine ⟨O, fx, env, out, env', r, e, ?_⟩
    cases out with
    | nx => exact absurd e (hn env')
    | bk => exact q
    | ct => exact q
    | rt d fr => exact q
theorem ss_one (h : SS X F st) : SSs X F [st] := pss_one h
theorem ss_expr (h : SE X f e) (hs : swapsWith e none pos.line X.env = pure false := by rfl) : SS X (exprF f) (.Expr e pos) := (ps_expr h hs).imp fun E σ H h => by
  obtain ⟨O, fx, env, out, env', r, e, q⟩ := h
  unfold exprF at e
  split at e
  · rename_i d fr e1 h1
    cases e
    exact ⟨O, fx, env, d, fr, _, r, h1, fun v H' p => q _ _ p.weak.1⟩
  · cases e
theorem ss_ret (h : SE X f e) : SS X (retF f) (.Return (some e) pos) := (ps_ret h).imp fun E σ H h => by
  obtain ⟨O, fx, env, out, env', r, e, q⟩ := h
  unfold retF at e
  split at e
  · rename_i d fr e1 h1
    cases e
    exact ⟨O, fx, env, d, fr, _, r, h1, fun v H' p => q v _ _ p⟩
  · cases e
theorem ss_retN : SS X retN (.Return none pos) := ps_retN.imp fun E σ H h => by
  obtain ⟨O, fx, env, out, env', r, e, q⟩ := h
  cases e
  exact q _ _ _ ⟨Bh.refl r, rfl⟩
theorem ss_if {c : Expr} {as bs : List Stmt} {t : TF} (hc : ST X t c) (ha : SSs X F as) (hb : SSs X G bs) : SS X (ifF t F G) (.If c as bs pos) := (ps_if hc ha hb).imp fun E σ H h => by
  obtain ⟨O, fx, env, out, env', r, e, q⟩ := h
  unfold ifF at e
  split at e
  · rename_i e1 h1
    exact ⟨O, fx, env, true, e1, r, h1, fun H1 b => iteT ⟨O, fx, e1, out, env', b.rel, e, q.trans b⟩⟩
  · rename_i e1 h1
    exact ⟨O, fx, env, false, e1, r, h1, fun H1 b => iteF ⟨O, fx, e1, out, env', b.rel, e, q.trans b⟩⟩
  · cases e
/-- never come to -/
theorem ss_no : SS X noF st := ps_never.imp fun E σ H h => by
  obtain ⟨O, fx, env, out, env', r, e, q⟩ := h
  cases e
/-! ### stores -/
def setv (i : Nat) (d : D) (fr : Bool) (env : Ev) : Option Ev := match env[i]? with
  | some (some (_, .br)) => none
  | some _ => some (env.set i (some (d, if fr then .ow else .sh)))
  | none => none
theorem setv_ok {K : PySem.W.Frag} {O : Addr → Prop} {fx : Nat → Option Addr} {env e1 e2 : Ev} {σ : Sl} {H H1 : Hp} {d : D} {fr : Bool} {v : V} {i : Nat} (p : EPost K O fx env σ H d fr e1 v H1) (h : setv i d fr e1 = some e2) : Bh2 K O fx env σ H e2 (σ.set i (some v)) H1 := by
  unfold setv at h
  split at h
  · cases h
  · rename_i x hne hx
    cases h
    have nb : ∀ d, x ≠ some (d, .br) := fun d z => hne d z
    cases fr with
    | false => exact p.1.trans (p.1.rel.store (y := none) hx nb p.2)
    | true =>
      obtain ⟨a, rfl, f⟩ := p
      exact f.store hx nb
  · cases h
def setF (i : Nat) (f : EF) : SF := fun env => match f env with
  | some (d, fr, e1) => match setv i d fr e1 with
    | some e2 => some (.nx, e2)
    | none => none
  | none => none
theorem set_imp {K : PySem.W.Frag} {i : Nat} {f : EF} {E : Ends} {σ : Sl} {H : Hp} (h : tS K (setF i f) E σ H) : tAsg (tE K f) (gName i) E σ H := by
  obtain ⟨O, fx, env, out, env', r, e, q⟩ := h
  unfold setF at e
  split at e
  · rename_i d fr e1 h1
    split at e
    · rename_i e2 h2
      cases e
      exact ⟨O, fx, env, d, fr, e1, r, h1, fun v H1 p => q _ _ (setv_ok p h2)⟩
    · cases e
  · cases e
theorem ss_set {i : Nat} {x : Str} {pos' : Pos} (hN : X.N.Nodup) (hi : X.N[i]? = some x) (hx : Loc X.env.scope x) (he : SE X f e) (hs : swapsWith e (some (.Name x pos')) pos.line X.env = pure false := by rfl) (hf : X.fn x = true ∨ X.env.scope.names.lookup x = some .local := by first | exact .inl rfl | exact .inr rfl | assumption) :
    SS X (setF i f) (.Assign [.Name x pos'] e pos) := (ps_set hN hi hx he hs hf).imp fun _ _ _ h => set_imp h
/-! targets -/
abbrev GF := D → Ev → Option Ev
/-- all slots but these are as they were -/
def Bar (wr : List Nat) (σ σ' : Sl) : Prop := σ'.length = σ.length ∧ ∀ j : Nat, j ∉ wr → σ'[j]? = σ[j]?
def tG (K : PySem.W.Frag) (g : GF) (wr : List Nat) : TG := fun v σ H Q => ∃ O fx env d env', R K O fx env σ H ∧ Den K (Pb O env σ H) d v ∧ g d env = some env' ∧ ∀ σ' H', Bh2 K O fx env σ H env' σ' H' → Bar wr σ σ' → Q σ' H'
abbrev SG (X : Cx) (g : GF) (wr : List Nat) (t : Expr) : Prop := PG X t (tG X.K g wr)
theorem Bar.trans {wr wr' : List Nat} {a b c : Sl} (h : Bar wr a b) (k : Bar wr' b c) : Bar (wr ++ wr') a c :=
  ⟨k.1.trans h.1, fun j hj => (k.2 j fun z => hj (List.mem_append_right _ z)).trans (h.2 j fun z => hj (List.mem_append_left _ z))⟩
abbrev GFs := List D → Ev → Option Ev
def tGs (K : PySem.W.Frag) (g : GFs) (wr : List Nat) : TGs := fun vs σ H Q => ∃ O fx env ds env', R K O fx env σ H ∧ DenL K (Pb O env σ H) ds vs ∧ g ds env = some env' ∧ ∀ σ' H', Bh2 K O fx env σ H env' σ' H' → Bar wr σ σ' → Q σ' H'
abbrev SGs (X : Cx) (g : GFs) (wr : List Nat) (ts : List Expr) : Prop := PGs X ts (tGs X.K g wr)
theorem _root_.L2.PG.imp {e : Expr} {t t' : TG} (h : PG X e t) (k : ∀ v σ H Q, t' v σ H Q → t v σ H Q) : PG X e t' := ⟨fun pins s σ H v u Q I r w => h.run pins s σ H v u Q I r (k _ _ _ _ w)⟩
theorem _root_.L2.PGs.imp {e : List Expr} {t t' : TGs} (h : PGs X e t) (k : ∀ v σ H Q, t' v σ H Q → t v σ H Q) : PGs X e t' := ⟨fun pins s σ H v u Q I r w => h.run pins s σ H v u Q I r (k _ _ _ _ w)⟩
def nameG (i : Nat) : GF := fun d env => setv i d false env
theorem sg_name {i : Nat} {x : Str} (hN : X.N.Nodup) (hi : X.N[i]? = some x) (hx : Loc X.env.scope x) (hf : X.fn x = true ∨ X.env.scope.names.lookup x = some .local := by first | exact .inl rfl | exact .inr rfl | assumption) : SG X (nameG i) [i] (.Name x pos) :=
  (pg_name hN hi hx hf).imp fun v σ H Q h => by
    obtain ⟨O, fx, env, d, env', r, hd, e, q⟩ := h
    exact q _ _ (setv_ok (fr := false) ⟨Bh.refl r, hd⟩ e) ⟨List.length_set .., fun j hj => get_set_ne (by simpa using hj)⟩
def nilG : GFs := fun ds env => match ds with
  | [] => some env
  | _ => none
def consG (g : GF) (gs : GFs) : GFs := fun ds env => match ds with
  | d :: ds => match g d env with
    | some e1 => gs ds e1
    | none => none
  | [] => none
theorem sgs_nil : SGs X nilG [] [] := pgs_nil.imp fun vs σ H Q h => by
  obtain ⟨O, fx, env, ds, env', r, hd, e, q⟩ := h
  cases ds with
  | nil =>
    cases e
    exact ⟨hd, q _ _ (Bh.refl r) ⟨rfl, fun _ _ => rfl⟩⟩
  | cons => cases e
theorem sgs_cons {t : Expr} {ts : List Expr} {g : GF} {gs : GFs} {wr wr' : List Nat} (h : SG X g wr t) (k : SGs X gs wr' ts) (hs : (assignEach (t :: ts) X.env).map (·.2) = assign t X.env :: (assignEach ts X.env).map (·.2) := by rfl) : SGs X (consG g gs) (wr ++ wr') (t :: ts) :=
  (pgs_cons h k hs).imp fun vs σ H Q h => by
    obtain ⟨O, fx, env, ds, env', r, hd, e, q⟩ := h
    cases ds with
    | nil => cases e
    | cons d ds =>
      obtain ⟨v, w, rfl, h1, h2⟩ := hd
      simp only [consG] at e
      split at e
      · rename_i e1 h3
        exact ⟨v, w, rfl, O, fx, env, d, e1, r, h1, h3, fun σ1 H1 b k1 => ⟨O, fx, e1, ds, env', b.rel, denL_le (Le.of_same b.same) h2, e, fun σ2 H2 b2 k2 => q _ _ (b.trans b2) (k1.trans k2)⟩⟩
      · cases e
/-- a, b, .. = a tuple of n -/
def tupG (n : Nat) (gs : GFs) : GF := fun d env => match d with
  | .tuple ds => if ds.length = n then gs ds env else none
  | _ => none
theorem denL_length {K : PySem.W.Frag} {H : Hp} : ∀ {ds : List D} {vs : List V}, DenL K H ds vs → vs.length = ds.length
  | [], _, h => by cases h; rfl
  | d :: ds, _, h => by
    obtain ⟨v, r, rfl, _, h2⟩ := h
    simp [denL_length h2]
theorem sg_tup {es : List Expr} {k : Nat} {gs : GFs} {wr : List Nat} {n : Nat} (hc : X.calm = true) (h : SGs X gs wr es) (hn : (assignEach es X.env).length = n := by rfl) (hst : (assignEach es X.env).findIdx? (·.1) = none := by rfl) : SG X (tupG n gs) wr (.Tuple es k pos) :=
  (pg_tup hc h hn hst).imp fun v σ H Q h => by
    obtain ⟨O, fx, env, d, env', r, hd, e, q⟩ := h
    unfold tupG at e
    split at e
    · rename_i ds
      split at e
      · rename_i hl
        obtain ⟨a, vs, e1, h1, h2⟩ := hd
        exact ⟨a, vs, e1, sqT_le cut_le h1, (denL_length h2).trans hl, O, fx, env, ds, env', r, h2, e, q⟩
      · cases e
    · cases e
def asgF (f : EF) (g : GF) : SF := fun env => match f env with
  | some (d, _, e1) => match g d e1 with
    | some e2 => some (.nx, e2)
    | none => none
  | none => none
theorem asg_imp {K : PySem.W.Frag} {g : GF} {wr : List Nat} {f : EF} {E : Ends} {σ : Sl} {H : Hp} (h : tS K (asgF f g) E σ H) : tAsg (tE K f) (tG K g wr) E σ H := by
  obtain ⟨O, fx, env, out, env', r, e, q⟩ := h
  unfold asgF at e
  split at e
  · rename_i d fr e1 h1
    split at e
    · rename_i e2 h2
      cases e
      exact ⟨O, fx, env, d, fr, e1, r, h1, fun v H1 p => ⟨O, fx, e1, d, _, p.weak.1.rel, p.weak.2, h2, fun σ' H' b _ => q _ _ (p.weak.1.trans b)⟩⟩
    · cases e
  · cases e
theorem ss_asg {tg : Expr} {g : GF} {wr : List Nat} (he : SE X f e) (hg : SG X g wr tg) (hs : swapsWithSole [tg] e pos.line X.env = pure false := by rfl) (hw : swappedStores [tg] e X.env = pure none := by rfl)
    (h1 : (assignEach [tg] X.env).map (·.2) = [assign tg X.env] := by rfl) : SS X (asgF f g) (.Assign [tg] e pos) := (ps_asg he hg hs hw h1).imp fun _ _ _ h => asg_imp h
end

/-! ### loops -/
def forL (g : GF) (B : SF) : List D → SF
  | [], env => some (.nx, env)
  | d :: ds, env => match g d env with
    | none => none
    | some e1 => match B e1 with
      | some (.nx, e2) => forL g B ds e2
      | some (.ct, e2) => forL g B ds e2
      | some (.bk, e2) => some (.nx, e2)
      | some (.rt d fr, e2) => some (.rt d fr, e2)
      | none => none
def whileL (t : TF) (B : SF) : Nat → SF
  | 0, _ => none
  | n + 1, env => match t env with
    | none => none
    | some (false, e1) => some (.nx, e1)
    | some (true, e1) => match B e1 with
      | some (.nx, e2) => whileL t B n e2
      | some (.ct, e2) => whileL t B n e2
      | some (.bk, e2) => some (.nx, e2)
      | some (.rt d fr, e2) => some (.rt d fr, e2)
      | none => none
section
variable {X : Cx} {pos : Pos} {t : TF} {B : SF} {g : GF}
theorem while_imp {K : PySem.W.Frag} {n : Nat} {E : Ends} {σ : Sl} {H : Hp} (h : tS K (whileL t B n) E σ H) : tWhile (tT K t) (tS K B) E σ H := by
  obtain ⟨O, fx, env, out, env', r, e, q⟩ := h
  refine ⟨fun m σ1 H1 => ∃ e1, Bh2 K O fx env σ H e1 σ1 H1 ∧ whileL t B m e1 = some (out, env'), ⟨n, env, Bh.refl r, e⟩, ?_⟩
  rintro m σ1 H1 ⟨e1, b1, h1⟩
  cases m with
  | zero => cases h1
  | succ m =>
    simp only [whileL] at h1
    split at h1
    · cases h1
    · rename_i e2 h2
      cases h1
      exact ⟨O, fx, e1, false, _, b1.rel, h2, fun H2 b2 => iteF (q _ _ (b1.trans b2))⟩
    · rename_i e2 h2
      refine ⟨O, fx, e1, true, e2, b1.rel, h2, fun H2 b2 => iteT ?_⟩
      have b3 := b1.trans b2
      refine ⟨fun σ' H' => ∃ e', Bh2 K O fx env σ H e' σ' H' ∧ whileL t B m e' = some (out, env'), fun σ' H' z => ⟨m, Nat.lt_succ_self m, z⟩, ?_⟩
      split at h1
      · rename_i e3 h3
        exact ⟨O, fx, e2, .nx, e3, b3.rel, h3, fun σ' H' b => ⟨e3, b3.trans b, h1⟩⟩
      · rename_i e3 h3
        exact ⟨O, fx, e2, .ct, e3, b3.rel, h3, fun σ' H' b => ⟨e3, b3.trans b, h1⟩⟩
      · rename_i e3 h3
        cases h1
        exact ⟨O, fx, e2, .bk, _, b3.rel, h3, fun σ' H' b => q _ _ (b3.trans b)⟩
      · rename_i d fr e3 h3
        cases h1
        exact ⟨O, fx, e2, .rt d fr, _, b3.rel, h3, fun v σ' H' b => q v _ _ (bh_epost b3 b)⟩
      · cases h1
theorem ss_while {c : Expr} {body : List Stmt} (n : Nat) (hp : PassesOwn (model X.prog X.w) X.A X.env X.xe) (hc : ST X t c) (hb : SSs X B body) : SS X (whileL t B n) (.While c body [] pos) := (ps_while hp hc hb).imp fun _ _ _ h => while_imp h

theorem denL_get {K : PySem.W.Frag} {H : Hp} : ∀ {ds : List D} {vs : List V} {i : Nat} {x : V}, DenL K H ds vs → vs[i]? = some x → ∃ d, ds[i]? = some d ∧ Den K H d x
  | [], _, i, x, h, e => by cases h; simp at e
  | d :: ds, _, 0, x, h, e => by
    obtain ⟨v, r, rfl, h1, h2⟩ := h
    cases e
    exact ⟨d, rfl, h1⟩
  | d :: ds, _, i + 1, x, h, e => by
    obtain ⟨v, r, rfl, h1, h2⟩ := h
    exact denL_get (ds := ds) (i := i) h2 e
theorem denL_at {K : PySem.W.Frag} {H : Hp} : ∀ {ds : List D} {vs : List V} {i : Nat} {d : D}, DenL K H ds vs → ds[i]? = some d → ∃ x, vs[i]? = some x ∧ Den K H d x
  | [], _, i, x, h, e => by simp at e
  | d :: ds, _, 0, x, h, e => by
    obtain ⟨v, r, rfl, h1, h2⟩ := h
    cases e
    exact ⟨v, rfl, h1⟩
  | d :: ds, _, i + 1, x, h, e => by
    obtain ⟨v, r, rfl, h1, h2⟩ := h
    exact denL_at (ds := ds) (i := i) h2 e
theorem cut_sub {H : Hp} {O : Addr → Prop} : Same (cut H O) H := fun _ _ h => (cut_some.mp h).2
/-! ### what a for walks -/
/-- the iterator gives these items, as long as what all may read stays -/
structure JOk (K : PySem.W.Frag) (B : Hp) (J : It) (ds : List D) : Prop where
  go : ∀ (i : Nat) H, i < ds.length → Same B H → J.go i H
  stop : ∀ (i : Nat) H, ds.length ≤ i → Same B H → J.stop i H
  yld : ∀ (i : Nat) H d x H', Same B H → ds[i]? = some d → J.yld i H x H' → Same H H' ∧ ∀ O : Addr → Prop, (∀ a, O a → H a ≠ none) → Same B (cut H O) → Den K (cut H' O) d x
abbrev IF := Ev → Option (List D × Ev)
def tI (K : PySem.W.Frag) (s : IF) : TI := fun σ H Q => ∃ O fx env ds env', R K O fx env σ H ∧ s env = some (ds, env') ∧ ∀ J H', Bh K O fx env σ H env' H' → JOk K (Pb O env' σ H') J ds → Q J H'
abbrev SI (X : Cx) (s : IF) (tg iter : Expr) : Prop := PI X tg iter (tI X.K s)
theorem _root_.L2.PI.imp {X : Cx} {tg e : Expr} {t t' : TI} (h : PI X tg e t) (k : ∀ σ H Q, t' σ H Q → t σ H Q) : PI X tg e t' := ⟨fun pins s σ H Q I w => h.run pins s σ H Q I (k _ _ _ w)⟩
theorem R.grown {K : PySem.W.Frag} {O : Addr → Prop} {fx : Nat → Option Addr} {env : Ev} {σ : Sl} {H H' : Hp} (r : R K O fx env σ H) (s : Same H H') : Bh K O fx env σ H env H' :=
  ⟨r.grow s, cut_same s fun _ _ z => z, fun a z => by
    cases q : H a with
    | none => exact absurd q (mut_ne (r.out a z))
    | some u => rw [s _ _ q]⟩
def forF (s : IF) (g : GF) (B : SF) : SF := fun env => match s env with
  | some (ds, e1) => forL g B ds e1
  | none => none
theorem for_go {K : PySem.W.Frag} {O : Addr → Prop} {fx : Nat → Option Addr} {env e0 env' : Ev} {σ : Sl} {H H0 : Hp} {ds : List D} {J : It} {wr : List Nat} {E : Ends} {out : Out} (e : forL g B ds e0 = some (out, env')) (b0 : Bh K O fx env σ H e0 H0) (jo : JOk K (Pb O e0 σ H0) J ds) (q : OutOk K O fx env σ H E env' out) : tFor (fun _ _ R => R J H0) (tG K g wr) (tS K B) E σ H := by
  refine ⟨fun i m σ1 H1 => m = ds.length - i ∧ ∃ e1, Bh2 K O fx e0 σ H0 e1 σ1 H1 ∧ forL g B (ds.drop i) e1 = some (out, env'), ⟨_, rfl, e0, Bh.refl b0.rel, e⟩, ?_⟩
  rintro i m σ1 H1 ⟨rfl, e1, b1, h1⟩
  have le1 : Same (Pb O e0 σ H0) (Pb O e1 σ1 H1) := b1.same
  by_cases hi : i < ds.length
  · right
    refine ⟨jo.go i H1 hi (le1.trans cut_sub), fun σ' H' => ∃ e', Bh2 K O fx e0 σ H0 e' σ' H' ∧ forL g B (ds.drop (i + 1)) e' = some (out, env'), fun σ' H' z => ⟨_, by omega, rfl, z⟩, fun x H2 hy => ?_⟩
    obtain ⟨sm, hd⟩ := jo.yld i H1 ds[i] x H2 (le1.trans cut_sub) (List.getElem?_eq_getElem hi) hy
    have b2 := b1.trans (b1.rel.grown sm)
    have hd := hd (Oo O e1 σ1) (fun a z => b1.rel.root_some z) le1
    rw [List.drop_eq_getElem_cons hi] at h1
    simp only [forL] at h1
    split at h1
    · cases h1
    · rename_i e2 h2
      refine ⟨O, fx, e1, ds[i], e2, b2.rel, hd, h2, fun σ2 H3 b3 _ => ?_⟩
      have b4 := b2.trans b3
      split at h1
      · rename_i e3 h3
        exact ⟨O, fx, e2, .nx, e3, b4.rel, h3, fun σ' H' b => ⟨e3, b4.trans b, h1⟩⟩
      · rename_i e3 h3
        exact ⟨O, fx, e2, .ct, e3, b4.rel, h3, fun σ' H' b => ⟨e3, b4.trans b, h1⟩⟩
      · rename_i e3 h3
        cases h1
        exact ⟨O, fx, e2, .bk, _, b4.rel, h3, fun σ' H' b => q _ _ (b0.trans (b4.trans b))⟩
      · rename_i d' fr e3 h3
        cases h1
        exact ⟨O, fx, e2, .rt d' fr, _, b4.rel, h3, fun v' σ' H' b => q v' _ _ (bh_epost (b0.trans b4) b)⟩
      · cases h1
  · left
    refine ⟨jo.stop i H1 (by omega) (le1.trans cut_sub), ?_⟩
    rw [List.drop_eq_nil_of_le (by omega)] at h1
    cases h1
    exact q _ _ (b0.trans b1)
theorem for_imp {K : PySem.W.Frag} {s : IF} {wr : List Nat} {E : Ends} {σ : Sl} {H : Hp} (h : tS K (forF s g B) E σ H) : tFor (tI K s) (tG K g wr) (tS K B) E σ H := by
  obtain ⟨O, fx, env, out, env', r, e, q⟩ := h
  unfold forF at e
  split at e
  · rename_i ds e0 h0
    exact ⟨O, fx, env, ds, e0, r, h0, fun J H0 b0 jo => for_go e b0 jo q⟩
  · cases e
theorem ss_for {iter tg : Expr} {body : List Stmt} {s : IF} {wr : List Nat} (hp : PassesOwn (model X.prog X.w) X.A X.env X.xe) (hc : X.calm = true) (hi : SI X s tg iter) (hg : SG X g wr tg) (hb : SSs X B body)
    (hs : ∀ x, foldedSetIterable iter X.env x = pure x := by intro _; rfl) : SS X (forF s g B) (.For tg iter body [] pos) := (ps_for hp hc hi hg hb hs).imp fun _ _ _ h => for_imp h
/-! ### lists, tuples, texts -/
theorem atD {α : Type} {l : List α} {i : Nat} {x y : α} (h : l[i]? = some x) (k : l[i]? = some y) : x = y := Option.some.inj (h.symm.trans k)
theorem jok_list {K : PySem.W.Frag} {B : Hp} {a : Addr} {vs : List V} {ds : List D} (h : SqL K B a vs) (hd : DenL K B ds vs) : JOk K B (Itl K a) ds := by
  refine ⟨fun i H hi le => ?_, fun i H hi le => ⟨vs, sqL_le (Le.of_same le) h, by rw [denL_length hd]; exact hi⟩, fun i H d x H' le e y => ?_⟩
  · have : i < vs.length := by rw [denL_length hd]; exact hi
    exact ⟨vs, vs[i], sqL_le (Le.of_same le) h, List.getElem?_eq_getElem this⟩
  · obtain ⟨rfl, y⟩ := y
    obtain ⟨x', h1, h2⟩ := denL_at hd e
    obtain rfl := atD (y vs (sqL_le (Le.of_same le) h)) h1
    exact ⟨Same.refl _, fun O _ le2 => den_le (Le.of_same le2) h2⟩
theorem jok_tup {K : PySem.W.Frag} {B : Hp} {a : Addr} {vs : List V} {ds : List D} (h : SqT K B a vs) (hd : DenL K B ds vs) : JOk K B (Itt K a) ds := by
  refine ⟨fun i H hi le => ?_, fun i H hi le => ⟨vs, sqT_le (Le.of_same le) h, by rw [denL_length hd]; exact hi⟩, fun i H d x H' le e y => ?_⟩
  · have : i < vs.length := by rw [denL_length hd]; exact hi
    exact ⟨vs, vs[i], sqT_le (Le.of_same le) h, List.getElem?_eq_getElem this⟩
  · obtain ⟨rfl, y⟩ := y
    obtain ⟨x', h1, h2⟩ := denL_at hd e
    obtain rfl := atD (y vs (sqT_le (Le.of_same le) h)) h1
    exact ⟨Same.refl _, fun O _ le2 => den_le (Le.of_same le2) h2⟩
/-- the signs of a text -/
def signsD (x : Str) : List D := x.cps.toList.map fun c => .str ⟨#[c]⟩
theorem jok_str {K : PySem.W.Frag} {B : Hp} {x : Str} : JOk K B (Its x) (signsD x) := by
  have hl : (signsD x).length = x.cps.size := by simp [signsD]
  refine ⟨fun i H hi le => by rw [hl] at hi; exact hi, fun i H hi le => by rw [hl] at hi; exact hi, fun i H d v H' le e y => ?_⟩
  obtain ⟨rfl, c, hc, rfl⟩ := y
  refine ⟨Same.refl _, fun O _ _ => ?_⟩
  have : d = .str ⟨#[c]⟩ := by
    simp only [signsD, List.getElem?_map, Array.getElem?_toList, hc, Option.map_some, Option.some.injEq] at e
    exact e.symm
  subst this
  rfl
/-- a list, a tuple, a text -/
def seqI (f : EF) : IF := fun env => match f env with
  | some (.list ds, _, e1) => some (ds, e1)
  | some (.tuple ds, _, e1) => some (ds, e1)
  | some (.str x, _, e1) => some (signsD x, e1)
  | _ => none
theorem si_seq {tg e : Expr} {f : EF} (h : SE X f e) : SI X (seqI f) tg e := by
  refine ⟨fun pins s σ H Q I w => ?_⟩
  obtain ⟨O, fx, env, ds, env', r, e1, q⟩ := w
  unfold seqI at e1
  split at e1
  · rename_i ds' fr e2 h1
    cases e1
    refine (pi_list h).run pins s σ H Q I ⟨O, fx, env, _, fr, _, r, h1, fun v H' p => ?_⟩
    obtain ⟨b, a, vs, rfl, h2, h3⟩ := p.weak
    exact ⟨a, rfl, ⟨vs, sqL_le cut_le h2⟩, q _ _ b (jok_list h2 h3)⟩
  · rename_i ds' fr e2 h1
    cases e1
    refine (pi_tup h).run pins s σ H Q I ⟨O, fx, env, _, fr, _, r, h1, fun v H' p => ?_⟩
    obtain ⟨b, a, vs, rfl, h2, h3⟩ := p.weak
    exact ⟨a, rfl, ⟨vs, sqT_le cut_le h2⟩, q _ _ b (jok_tup h2 h3)⟩
  · rename_i x fr e2 h1
    cases e1
    refine (pi_str h).run pins s σ H Q I ⟨O, fx, env, _, fr, _, r, h1, fun v H' p => ?_⟩
    obtain ⟨b, h2⟩ := p.weak
    exact ⟨x, h2, q _ _ b jok_str⟩
  · cases e1
end
end PD

/-! PdD: list comprehensions of data. -/
namespace PD
open PySem PySem.Spec PyProof.Rows L2

def wipeE (env : Ev) : List Nat → Ev
  | [] => env
  | v :: vs => (wipeE env vs).set v none
def unw (env e : Ev) : List Nat → Ev
  | [] => e
  | v :: vs => (unw env e vs).set v (env.getD v none)
theorem wipeE_length (env : Ev) : ∀ vs, (wipeE env vs).length = env.length
  | [] => rfl
  | v :: vs => by rw [wipeE, List.length_set, wipeE_length env vs]
theorem unw_length (env e : Ev) : ∀ vs, (unw env e vs).length = e.length
  | [] => rfl
  | v :: vs => by rw [unw, List.length_set, unw_length env e vs]
theorem wipe_out' {σ : Sl} {j : Nat} : ∀ {vs : List Nat}, j ∉ vs → (wipe σ vs)[j]? = σ[j]?
  | [], _ => rfl
  | v :: vs, h => by
    simp only [List.mem_cons, not_or] at h
    rw [wipe, get_set_ne h.1, wipe_out' h.2]
theorem wipeE_out {env : Ev} {j : Nat} : ∀ {vs : List Nat}, j ∉ vs → (wipeE env vs)[j]? = env[j]?
  | [], _ => rfl
  | v :: vs, h => by
    simp only [List.mem_cons, not_or] at h
    rw [wipeE, get_set_ne h.1, wipeE_out h.2]
theorem unw_out {env e : Ev} {j : Nat} : ∀ {vs : List Nat}, j ∉ vs → (unw env e vs)[j]? = e[j]?
  | [], _ => rfl
  | v :: vs, h => by
    simp only [List.mem_cons, not_or] at h
    rw [unw, get_set_ne h.1, unw_out h.2]
theorem wipe_in {σ : Sl} {j : Nat} {x : V} : ∀ {vs : List Nat}, j ∈ vs → (wipe σ vs)[j]? ≠ some (some x)
  | v :: vs, h, z => by
    rw [wipe] at z
    obtain ⟨h1, h2⟩ := get_of_set z (by simp)
    rcases List.mem_cons.mp h with e | h
    · exact h2 e
    · exact wipe_in h h1
theorem wipeE_in {σ : Ev} {j : Nat} {x : D × Ow} : ∀ {vs : List Nat}, j ∈ vs → (wipeE σ vs)[j]? ≠ some (some x)
  | v :: vs, h, z => by
    rw [wipeE] at z
    obtain ⟨h1, h2⟩ := get_of_set z (by simp)
    rcases List.mem_cons.mp h with e | h
    · exact h2 e
    · exact wipeE_in h h1
theorem unw_in {env e : Ev} {j : Nat} {x : D × Ow} : ∀ {vs : List Nat}, j ∈ vs → (unw env e vs)[j]? = some (some x) → env[j]? = some (some x)
  | v :: vs, h, z => by
    rw [unw] at z
    by_cases hj : j = v
    · subst hj
      rcases get_set_none z with e | ⟨_, e⟩
      · exact absurd rfl e
      · rw [List.getD_eq_getElem?_getD] at e
        cases q : env[j]? with
        | none => rw [q] at e; cases e
        | some y => rw [q] at e; rw [e]; rfl
    · rw [get_set_ne hj] at z
      rcases List.mem_cons.mp h with e | h
      · exact absurd e hj
      · exact unw_in h z
/-- two rows of slots that differ in the block's own alone -/
theorem wipe_bar {σ σ' : Sl} {wr vs : List Nat} (h : Bar wr σ σ') (hw : ∀ j ∈ wr, j ∈ vs) : wipe σ' vs = wipe σ vs := by
  apply List.ext_getElem?
  intro j
  by_cases hj : j ∈ vs
  · have key : ∀ τ : Sl, (wipe τ vs)[j]? = if j < τ.length then some none else none := fun τ => by
      by_cases hl : j < τ.length
      · rw [if_pos hl]
        have hl' : j < (wipe τ vs).length := by rw [wipe_length]; exact hl
        rw [List.getElem?_eq_getElem hl']
        cases q : (wipe τ vs)[j] with
        | none => rfl
        | some x => exact absurd (by rw [List.getElem?_eq_getElem hl', q]) (wipe_in (σ := τ) (x := x) hj)
      · rw [if_neg hl, List.getElem?_eq_none (by rw [wipe_length]; omega)]
    rw [key, key, h.1]
  · rw [wipe_out' hj, wipe_out' hj, h.2 j fun z => hj (hw j z)]
theorem wipe_wipe (σ : Sl) (vs : List Nat) : wipe (wipe σ vs) vs = wipe σ vs :=
  wipe_bar (wr := vs) ⟨wipe_length σ vs, fun j hj => wipe_out' hj⟩ fun _ h => h

section
variable {K : PySem.W.Frag} {O : Addr → Prop} {fx : Nat → Option Addr} {env e : Ev} {σ σ' : Sl} {H H' : Hp} {vs : List Nat}
theorem R.wipe (r : R K O fx env σ H) (hf : ∀ p : Nat × Addr, fx p.1 = some p.2 → p.1 ∉ vs) : Bh2 K O fx env σ H (wipeE env vs) (wipe σ vs) H := by
  have key : ∀ {j : Nat} {x : D × Ow}, (wipeE env vs)[j]? = some (some x) → j ∉ vs ∧ env[j]? = some (some x) ∧ (L2.wipe σ vs)[j]? = σ[j]? := fun {j x} h => by
    by_cases hj : j ∈ vs
    · exact absurd h (wipeE_in hj)
    · exact ⟨hj, by rw [wipeE_out hj] at h; exact h, wipe_out' hj⟩
  have rt : ∀ b, Rt (wipeE env vs) (L2.wipe σ vs) b → Rt env σ b := fun b ⟨j, d, o, h1, h2, h3⟩ => by
    obtain ⟨_, k1, k2⟩ := key h1
    exact ⟨j, d, o, k1, h2, by rw [← k2]; exact h3⟩
  have s : Same (Pb O env σ H) (Pb O (wipeE env vs) (L2.wipe σ vs) H) := cut_anti fun b z => z.imp id (rt b)
  refine ⟨⟨by rw [wipeE_length, wipe_length]; exact r.len, fun j d h1 => ?_, fun j d o h1 h2 => ?_, fun j k b d d' o o' h1 h2 h3 h4 h5 h6 => ?_, r.out, fun p hp => ?_, fun j d h1 => ?_⟩, s, fun _ _ => rfl⟩
  · obtain ⟨_, k1, k2⟩ := key h1
    obtain ⟨v, q1, q2⟩ := r.val j d k1
    exact ⟨v, k2.trans q1, den_le (Le.of_same s) q2⟩
  · obtain ⟨_, k1, k2⟩ := key h1
    obtain ⟨b, q1, q2, q3⟩ := r.own j d o k1 h2
    exact ⟨b, k2.trans q1, q2, q3.mono (Le.of_same s) rfl⟩
  · obtain ⟨_, k1, k2⟩ := key h1
    obtain ⟨_, k3, k4⟩ := key h3
    exact r.apart j k b d d' o o' k1 h2 k3 h4 (k2.symm.trans h5) (k4.symm.trans h6)
  · obtain ⟨d, q1, q2⟩ := r.fix p hp
    exact ⟨d, by rw [wipeE_out (hf p hp)]; exact q1, by rw [wipe_out' (hf p hp)]; exact q2⟩
  · exact r.pin j d (key h1).2.1
/-- back from a block -/
theorem R.unwipe (r : R K O fx env σ H) (rb : R K O fx e (L2.wipe σ vs) H') (s : Same (Pb O env σ H) (Pb O e (L2.wipe σ vs) H')) (ou : ∀ a, O a → H' a = H a)
    (hn : ∀ j ∈ vs, ∀ d o, env[j]? = some (some (d, o)) → o = .sh) (he : ∀ j ∈ vs, ∀ x, e[j]? ≠ some (some x)) : Bh K O fx env σ H (unw env e vs) H' := by
  have rt : ∀ b, Rt (unw env e vs) σ b ↔ Rt e (L2.wipe σ vs) b := fun b => by
    constructor
    · rintro ⟨j, d, o, h1, h2, h3⟩
      by_cases hj : j ∈ vs
      · exact absurd (hn j hj d o (unw_in hj h1)) h2
      · rw [unw_out hj] at h1
        exact ⟨j, d, o, h1, h2, by rw [wipe_out' hj]; exact h3⟩
    · rintro ⟨j, d, o, h1, h2, h3⟩
      by_cases hj : j ∈ vs
      · exact absurd h1 (he j hj _)
      · exact ⟨j, d, o, by rw [unw_out hj]; exact h1, h2, by rw [wipe_out' hj] at h3; exact h3⟩
  have oo : Oo O (unw env e vs) σ = Oo O e (L2.wipe σ vs) := funext fun b => propext (or_congr Iff.rfl (rt b))
  have pe : Pb O (unw env e vs) σ H' = Pb O e (L2.wipe σ vs) H' := by
    show cut H' (Oo O (unw env e vs) σ) = _
    rw [oo]
  refine ⟨⟨by rw [unw_length, rb.len, wipe_length], fun j d h1 => ?_, fun j d o h1 h2 => ?_, fun j k b d d' o o' h1 h2 h3 h4 h5 h6 => ?_, rb.out, fun p hp => ?_, fun j d h1 => ?_⟩, by rw [pe]; exact s, ou⟩
  · rw [pe]
    by_cases hj : j ∈ vs
    · obtain ⟨v, q1, q2⟩ := r.val j d (unw_in hj h1)
      exact ⟨v, q1, den_le (Le.of_same s) q2⟩
    · rw [unw_out hj] at h1
      obtain ⟨v, q1, q2⟩ := rb.val j d h1
      rw [wipe_out' hj] at q1
      exact ⟨v, q1, q2⟩
  · rw [pe]
    by_cases hj : j ∈ vs
    · exact absurd (hn j hj d o (unw_in hj h1)) h2
    · rw [unw_out hj] at h1
      obtain ⟨v, q1, q2⟩ := rb.own j d o h1 h2
      rw [wipe_out' hj] at q1
      exact ⟨v, q1, q2⟩
  · have key : ∀ {j : Nat} {d : D} {o : Ow}, (unw env e vs)[j]? = some (some (d, o)) → o ≠ .sh → j ∉ vs ∧ e[j]? = some (some (d, o)) := fun {j d o} h1 h2 => by
      by_cases hj : j ∈ vs
      · exact absurd (hn j hj d o (unw_in hj h1)) h2
      · exact ⟨hj, by rw [unw_out hj] at h1; exact h1⟩
    obtain ⟨n1, k1⟩ := key h1 h2
    obtain ⟨n2, k2⟩ := key h3 h4
    exact rb.apart j k b d d' o o' k1 h2 k2 h4 (by rw [wipe_out' n1]; exact h5) (by rw [wipe_out' n2]; exact h6)
  · obtain ⟨d, q1, q2⟩ := rb.fix p hp
    have hj : p.1 ∉ vs := fun z => he _ z _ q1
    exact ⟨d, by rw [unw_out hj]; exact q1, by rw [wipe_out' hj] at q2; exact q2⟩
  · by_cases hj : j ∈ vs
    · have := hn j hj d .br (unw_in hj h1)
      cases this
    · rw [unw_out hj] at h1
      exact rb.pin j d h1
end

/-! ### the list that is made -/
def noOwn (env : Ev) : List Nat → Bool
  | [] => true
  | v :: vs => (match env[v]? with
    | some (some (_, .sh)) => true
    | some none => true
    | _ => false) && noOwn env vs
theorem noOwn_at {env : Ev} : ∀ {vs : List Nat}, noOwn env vs = true → ∀ j ∈ vs, ∀ d o, env[j]? = some (some (d, o)) → o = .sh
  | v :: vs, h, j, hj, d, o, e => by
    simp only [noOwn, Bool.and_eq_true] at h
    rcases List.mem_cons.mp hj with rfl | hj
    · rw [e] at h
      cases o with
      | sh => rfl
      | ow => exact absurd h.1 (by simp)
      | br => exact absurd h.1 (by simp)
    · exact noOwn_at h.2 j hj d o e
def lcL (vs : List Nat) (g : GF) (t : TF) (f : EF) : List D → Ev → Option (List D × Ev)
  | [], env => some ([], env)
  | d :: ds, env => match g d env with
    | none => none
    | some e1 => match t e1 with
      | none => none
      | some (false, e2) => lcL vs g t f ds (wipeE e2 vs)
      | some (true, e2) => match f e2 with
        | none => none
        | some (y, _, e3) => match lcL vs g t f ds (wipeE e3 vs) with
          | some (ys, e4) => some (y :: ys, e4)
          | none => none
def lcF (vs : List Nat) (s : IF) (g : GF) (t : TF) (f : EF) : EF := fun env => match s env with
  | some (ds, e1) => if ds.length ≤ sizeLine ∧ noOwn e1 vs = true then match lcL vs g t f ds (wipeE e1 vs) with
      | some (ys, e2) => some (.list ys, true, unw e1 e2 vs)
      | none => none
    else none
  | none => none
def yesT : TF := fun env => some (true, env)
theorem denL_append {K : PySem.W.Frag} {H : Hp} : ∀ {ds es : List D} {vs ws : List V}, DenL K H ds vs → DenL K H es ws → DenL K H (ds ++ es) (vs ++ ws)
  | [], _, _, _, h, k => by cases h; exact k
  | d :: ds, _, _, _, h, k => by
    obtain ⟨v, r, rfl, h1, h2⟩ := h
    exact ⟨v, _, rfl, h1, denL_append h2 k⟩

section
variable {K : PySem.W.Frag} {vs wr : List Nat} {s : IF} {g : GF} {t : TF} {f : EF}
/-- an item more in a list of ours -/
theorem push_pb {O : Addr → Prop} {env : Ev} {σ : Sl} {H : Hp} {a : Addr} {u : HO} : Pb (plus O a) env σ (upd H a u) = Pb (plus O a) env σ H := by
  funext b
  show cut _ _ b = cut _ _ b
  unfold cut
  by_cases z : Oo (plus O a) env σ b
  · rw [if_pos z, if_pos z]
  · rw [if_neg z, if_neg z, upd_ne (fun e : b = a => z (.inl (.inr e)))]
theorem push_ok {O : Addr → Prop} {fx : Nat → Option Addr} {env : Ev} {σ : Sl} {H : Hp} {a : Addr} {u : HO} (r : R K (plus O a) fx env σ H) (hm : Mut (some u) := by trivial) : R K (plus O a) fx env σ (upd H a u) := by
  refine ⟨r.len, fun i d h => ?_, fun i d o h n => ?_, r.apart, fun b z => ?_, r.fix, r.pin⟩
  · rw [push_pb]; exact r.val i d h
  · rw [push_pb]
    obtain ⟨b, q1, q2, q3⟩ := r.own i d o h n
    exact ⟨b, q1, q2, q3.mono (Le.refl _) (upd_ne fun z => q2 (.inr z))⟩
  · by_cases e : b = a
    · subst e; rw [upd_same]; exact hm
    · rw [upd_ne e]; exact r.out b z
/-- the block between two turns -/
structure Lw (K : PySem.W.Frag) (O : Addr → Prop) (fx : Nat → Option Addr) (a : Addr) (B : Hp) (H1 : Hp) (σB : Sl) (vs : List Nat) (go : Ev → Option (List D × Ev)) (n : Nat) (ys : List D) (e2 : Ev) (H2 : Hp) : Prop where
  ex : ∃ eB zs acc avs, R K (plus O a) fx eB σB H2 ∧ Same B (Pb (plus O a) eB σB H2) ∧ (∀ b, O b → H2 b = H1 b) ∧ go eB = some (zs, e2) ∧ acc ++ zs = ys ∧ acc.length ≤ n ∧ H2 a = some (.lst avs) ∧ DenL K (Pb (plus O a) eB σB H2) acc avs ∧ ∀ j ∈ vs, ∀ x, eB[j]? ≠ some (some x)
theorem lc_go {O : Addr → Prop} {fx : Nat → Option Addr} {env e1 e2 : Ev} {σ : Sl} {H H1 : Hp} {ds ys : List D} {J : It} {Q : VK} (hw : ∀ j ∈ wr, j ∈ vs) (hl : ds.length ≤ sizeLine) (hno : noOwn e1 vs = true) (h2 : lcL vs g t f ds (wipeE e1 vs) = some (ys, e2)) (b1 : Bh K O fx env σ H e1 H1) (jo : JOk K (Pb O e1 σ H1) J ds)
    (q : ∀ v H', EPost K O fx env σ H (.list ys) true (unw e1 e2 vs) v H' → Q v H') : tLc (fun _ _ R => R J H1) (tG K g wr) (tT K t) (tE K f) vs σ H Q := by
  intro a ha
  have hn := noOwn_at hno
  -- the new list
  have np : NPost K (Oo O e1 σ) H1 (.list []) true (.ref a) (upd H1 a (.lst [])) := ⟨fun b u e => by rw [upd_ne (ne_of_none e ha)]; exact e, a, rfl, ha, [], upd_same, rfl⟩
  obtain ⟨a', ea, fs⟩ := np.epost b1.rel
  cases ea
  have hfx : ∀ p : Nat × Addr, fx p.1 = some p.2 → p.1 ∉ vs := fun p hp hv => by
    obtain ⟨d, q1, _⟩ := b1.rel.fix p hp
    have := hn _ hv _ _ q1
    cases this
  have bw := fs.rel.wipe (vs := vs) hfx
  have s0 : Same (Pb O e1 σ H1) (Pb (plus O a) (wipeE e1 vs) (L2.wipe σ vs) (upd H1 a (.lst []))) := fs.same.trans bw.same
  have fin : ∀ {e3 : Ev} {σ3 : Sl} {H3 : Hp}, R K (plus O a) fx e3 σ3 H3 → L2.wipe σ3 vs = L2.wipe σ vs → Bh2 K (plus O a) fx e3 σ3 H3 (wipeE e3 vs) (L2.wipe σ vs) H3 := fun {e3 σ3 H3} r3 hw3 => by
    rw [← hw3]
    exact r3.wipe hfx
  refine ⟨fun i m H2 => m = ds.length - i ∧ i ≤ ds.length ∧ Lw K O fx a (Pb O e1 σ H1) H1 (L2.wipe σ vs) vs (lcL vs g t f (ds.drop i)) i ys e2 H2,
    ⟨_, rfl, Nat.zero_le _, wipeE e1 vs, ys, [], [], bw.rel, s0, fs.outer, h2, rfl, Nat.le_refl _, upd_same, rfl, fun j hj x => wipeE_in hj⟩, ?_⟩
  rintro i m H2 ⟨rfl, hi, eB, zs, acc, avs, rB, sB, ouB, goB, eq, hacc, hal, hden, hno2⟩
  have leB : Same (Pb O e1 σ H1) (Pb (plus O a) eB (L2.wipe σ vs) H2) := sB
  by_cases hlt : i < ds.length
  · right
    refine ⟨jo.go i H2 hlt (leB.trans cut_sub), Lw K O fx a (Pb O e1 σ H1) H1 (L2.wipe σ vs) vs (lcL vs g t f (ds.drop (i + 1))) (i + 1) ys e2, fun H' z => ⟨_, by omega, rfl, hlt, z⟩, fun x H3 hy => ?_⟩
    obtain ⟨sm, hd⟩ := jo.yld i H2 ds[i] x H3 (leB.trans cut_sub) (List.getElem?_eq_getElem hlt) hy
    have b3 := rB.grown sm
    have hd := hd (Oo (plus O a) eB (L2.wipe σ vs)) (fun a z => rB.root_some z) leB
    rw [List.drop_eq_getElem_cons hlt] at goB
    simp only [lcL] at goB
    split at goB
    · cases goB
    · rename_i e3 h3
      refine ⟨plus O a, fx, eB, ds[i], e3, b3.rel, hd, h3, fun σ4 H4 b4 bar => ?_⟩
      have hw4 : L2.wipe σ4 vs = L2.wipe σ vs := (wipe_bar bar hw).trans (wipe_wipe σ vs)
      refine ⟨hw4, ?_⟩
      have b34 := b3.trans b4
      split at goB
      · cases goB
      · rename_i e5 h5
        refine ⟨plus O a, fx, e3, false, e5, b4.rel, h5, fun H5 b5 => iteF ?_⟩
        have b35 := b34.trans b5
        have b6 := b35.trans (fin b35.rel hw4)
        exact ⟨_, zs, acc, avs, b6.rel, sB.trans b6.same, fun b z => (b6.outer b (.inl z)).trans (ouB b z), goB, eq, Nat.le_succ_of_le hacc, (b6.outer a (.inr rfl)).trans hal, denL_le (Le.of_same b6.same) hden, fun j hj x => wipeE_in hj⟩
      · rename_i e5 h5
        refine ⟨plus O a, fx, e3, true, e5, b4.rel, h5, fun H5 b5 => iteT ?_⟩
        have b35 := b34.trans b5
        split at goB
        · cases goB
        · rename_i y fr6 e6 h6
          refine ⟨plus O a, fx, e5, y, fr6, e6, b35.rel, h6, fun v H6 p6 => ?_⟩
          obtain ⟨b6', hy6⟩ := p6.weak
          have b6 := b35.trans b6'
          have ha6 : H6 a = some (.lst avs) := (b6.outer a (.inr rfl)).trans hal
          split at goB
          · rename_i ys' e7 h7
            cases goB
            have hlen := denL_length hden
            refine ⟨avs, ha6, by omega, ?_⟩
            have r7 : R K (plus O a) fx e6 σ4 (upd H6 a (.lst (avs ++ [v]))) := push_ok b6.rel
            have b7 := fin r7 hw4
            have s7 : Same (Pb (plus O a) eB (L2.wipe σ vs) H2) (Pb (plus O a) (wipeE e6 vs) (L2.wipe σ vs) (upd H6 a (.lst (avs ++ [v])))) := by
              refine Same.trans ?_ b7.same
              rw [push_pb]
              exact b6.same
            have s8 : Same (Pb (plus O a) e6 σ4 H6) (Pb (plus O a) (wipeE e6 vs) (L2.wipe σ vs) (upd H6 a (.lst (avs ++ [v])))) := by
              refine Same.trans ?_ b7.same
              rw [push_pb]
              exact Same.refl _
            refine ⟨_, ys', acc ++ [y], _, b7.rel, sB.trans s7, fun b z => ?_, h7, by rw [List.append_assoc]; exact eq, by simp; exact hacc, upd_same, denL_append (denL_le (Le.of_same s7) hden) ⟨v, [], rfl, den_le (Le.of_same s8) hy6, rfl⟩, fun j hj x => wipeE_in hj⟩
            have nb : b ≠ a := fun e => fs.new (e ▸ z)
            rw [upd_ne nb]
            exact (b6.outer b (.inl z)).trans (ouB b z)
          · cases goB
  · left
    refine ⟨jo.stop i H2 (by omega) (leB.trans cut_sub), ?_⟩
    rw [List.drop_eq_nil_of_le (by omega)] at goB
    cases goB
    rw [List.append_nil] at eq
    subst eq
    -- back in the def's frame
    have rA : R K (plus O a) fx e1 σ (upd H1 a (.lst avs)) := by
      have z := push_ok (u := .lst avs) fs.rel
      rw [upd_upd] at z
      exact z
    have sA : Same (Pb (plus O a) e1 σ (upd H1 a (.lst avs))) (Pb O e1 σ H1) := by
      rw [push_pb]
      exact cut_anti fun b z => plus_oo.mpr (.inl z)
    have bA := rA.unwipe rB (sA.trans sB) (fun b z => by
      by_cases e : b = a
      · subst e; rw [hal, upd_same]
      · rw [upd_ne e]
        rcases z with z | z
        · exact ouB b z
        · exact absurd z e) hn hno2
    have s9 : Same (Pb O e1 σ H1) (Pb (plus O a) (unw e1 e2 vs) σ H2) := by
      have z : Same (Pb O e1 σ H1) (Pb (plus O a) e1 σ (upd H1 a (.lst avs))) := by
        rw [push_pb]
        have z := fs.same
        rw [push_pb] at z
        exact z
      exact z.trans bA.same
    have oo : Pb (plus O a) (unw e1 e2 vs) σ H2 = Pb (plus O a) e2 (L2.wipe σ vs) H2 := by
      have rt : ∀ b, Rt (unw e1 e2 vs) σ b ↔ Rt e2 (L2.wipe σ vs) b := fun b => by
        constructor
        · rintro ⟨j, d, o, h1, h2, h3⟩
          by_cases hj : j ∈ vs
          · exact absurd (hn j hj d o (unw_in hj h1)) h2
          · rw [unw_out hj] at h1
            exact ⟨j, d, o, h1, h2, by rw [wipe_out' hj]; exact h3⟩
        · rintro ⟨j, d, o, h1, h2, h3⟩
          by_cases hj : j ∈ vs
          · exact absurd h1 (hno2 j hj _)
          · exact ⟨j, d, o, by rw [unw_out hj]; exact h1, h2, by rw [wipe_out' hj] at h3; exact h3⟩
      show cut _ _ = cut _ _
      rw [show Oo (plus O a) (unw e1 e2 vs) σ = Oo (plus O a) e2 (L2.wipe σ vs) from funext fun b => propext (or_congr Iff.rfl (rt b))]
    exact q _ _ ⟨a, rfl, fs.new, bA.rel, b1.same.trans s9, fun b z => (ouB b z).trans (b1.outer b z), avs, hal, by rw [oo]; exact hden⟩
theorem lc_imp {σ : Sl} {H : Hp} {Q : VK} (hw : ∀ j ∈ wr, j ∈ vs) (h : tE K (lcF vs s g t f) σ H Q) : tLc (tI K s) (tG K g wr) (tT K t) (tE K f) vs σ H Q := by
  obtain ⟨O, fx, env, d, fr, env', r, e, q⟩ := h
  unfold lcF at e
  split at e
  · rename_i ds e1 h1
    split at e
    · rename_i hc
      split at e
      · rename_i ys e2 h2
        cases e
        exact ⟨O, fx, env, ds, e1, r, h1, fun J H1 b1 jo => lc_go hw hc.1 hc.2 h2 b1 jo q⟩
      · cases e
    · cases e
  · cases e
theorem yes_imp {σ : Sl} {H : Hp} {Q : Bool → Hp → Prop} (h : tT K yesT σ H Q) : tYes σ H Q := by
  obtain ⟨O, fx, env, b, env', r, e, q⟩ := h
  cases e
  exact q _ (Bh.refl r)
end
section
variable {X : Cx}
theorem _root_.L2.PTs.imp {e : List Expr} {t t' : TT} (h : PTs X e t) (k : ∀ σ H Q, t' σ H Q → t σ H Q) : PTs X e t' := ⟨fun pins s σ H Q I w => h.run pins s σ H Q I (k _ _ _ w)⟩
abbrev STs (X : Cx) (t : TF) (es : List Expr) : Prop := PTs X es (tT X.K t)
theorem sts_nil : STs X yesT [] := pts_nil.imp fun _ _ _ h => yes_imp h
theorem sts_one {c : Expr} {t : TF} (h : ST X t c) : STs X t [c] := pts_one h
theorem se_lc {elt tg iter : Expr} {ifs : List Expr} {scope : Scope} {own : List (Str × Nat)} {pos : Pos} {s : IF} {g : GF} {wr : List Nat} {t : TF} {f : EF} (hc : X.calm = true) (hN : X.N.Nodup) (hi : SI X s tg iter) (ok : BlkOk X.N X.env.scope scope own)
    (hw : ∀ j ∈ wr, j ∈ own.map (·.2))
    (hg : ∀ (s : Shared) (H : Hp) (C : Addr) (cl : List (Str × Addr)) (fp : List Addr), SG (X.blk s H scope (compEnvC scope cl C X.env) fp) g wr tg) (ht : ∀ (s : Shared) (H : Hp) (C : Addr) (cl : List (Str × Addr)) (fp : List Addr), STs (X.blk s H scope (compEnvC scope cl C X.env) fp) t ifs)
    (he : ∀ (s : Shared) (H : Hp) (C : Addr) (cl : List (Str × Addr)) (fp : List Addr), SE (X.blk s H scope (compEnvC scope cl C X.env) fp) f elt) (hs : ∀ x, foldedSetIterable iter X.env x = pure x := by intro _; rfl) :
    SE X (lcF (own.map (·.2)) s g t f) (.ListComp elt [⟨tg, iter, ifs, 0⟩] scope pos) := (pe_lc hc hN hi ok hg ht he hs).imp fun _ _ _ h => lc_imp hw h
theorem ss_setLc {i : Nat} {y : Str} {py : Pos} {elt tg iter : Expr} {ifs : List Expr} {scope : Scope} {own : List (Str × Nat)} {pos spos : Pos} {s : IF} {g : GF} {wr : List Nat} {t : TF} {f : EF} (hc : X.calm = true) (hN : X.N.Nodup) (hy : X.N[i]? = some y) (hyl : X.env.scope.names.lookup y = some .local)
    (hsw : swapsWith (.ListComp elt [⟨tg, iter, ifs, 0⟩] scope pos) (some (.Name y py)) spos.line X.env = pure true) (hi : SI X s tg iter) (ok : BlkOk X.N X.env.scope scope own) (hw : ∀ j ∈ wr, j ∈ own.map (·.2))
    (hg : ∀ (s : Shared) (H : Hp) (C : Addr) (cl : List (Str × Addr)) (fp : List Addr), SG (X.blk s H scope (compEnvC scope cl C X.env) fp) g wr tg) (ht : ∀ (s : Shared) (H : Hp) (C : Addr) (cl : List (Str × Addr)) (fp : List Addr), STs (X.blk s H scope (compEnvC scope cl C X.env) fp) t ifs)
    (he : ∀ (s : Shared) (H : Hp) (C : Addr) (cl : List (Str × Addr)) (fp : List Addr), SE (X.blk s H scope (compEnvC scope cl C X.env) fp) f elt) (hs : ∀ x, foldedSetIterable iter X.env x = pure x := by intro _; rfl) :
    SS X (setF i (lcF (own.map (·.2)) s g t f)) (.Assign [.Name y py] (.ListComp elt [⟨tg, iter, ifs, 0⟩] scope pos) spos) := (ps_setLc hc hN hy hyl hsw hi ok hg ht he hs).imp fun E σ H h => by
  have z := set_imp h
  exact lc_imp hw z
end
end PD

/-! PdE: defs and their calls, of data. -/
namespace PD
open PySem PySem.Spec PyProof.Rows L2

/-- the arguments as a frame; b: the first one is changed in place -/
def argE (b : Bool) : List D → Ev
  | [] => []
  | d :: r => some (d, if b then Ow.br else Ow.sh) :: r.map fun d => some (d, Ow.sh)
def upd0 (b : Bool) (ds : List D) (d0 : D) : List D := match b, ds with
  | true, _ :: r => d0 :: r
  | _, ds => ds
/-- what a def is: from the arguments the value, whether nobody else has it, and what the first argument has become -/
abbrev FF := List D → Option (D × Bool × D)
def spF (K : PySem.W.Frag) (b : Bool) (n : Nat) (F : FF) : Sp := fun vs H Q E => vs.length = n ∧ ∃ O fx ds d fr d0, R K O fx (argE b ds) (vs.map some) H ∧ F ds = some (d, fr, d0) ∧
  ∀ v H', EPost2 K O fx (argE b ds) (vs.map some) H d fr (argE b (upd0 b ds d0)) v (vs.map some) H' → Q v H'
def fin0 (b : Bool) (e : Ev) (d : D) (fr : Bool) : Option (D × Bool × D) := match b with
  | true => match e[(0 : Nat)]? with
    | some (some (d0, Ow.br)) => some (d, fr, d0)
    | _ => none
  | false => some (d, fr, .none)
theorem fin0_true {e : Ev} {d : D} {fr : Bool} {x : D × Bool × D} (h : fin0 true e d fr = some x) : ∃ d0, e[0]? = some (some (d0, Ow.br)) ∧ x = (d, fr, d0) := by
  unfold fin0 at h
  cases q : e[0]? with
  | none => rw [q] at h; cases h
  | some y =>
    cases y with
    | none => rw [q] at h; cases h
    | some p =>
      obtain ⟨d0, o⟩ := p
      rw [q] at h
      cases o with
      | br => cases h; exact ⟨d0, rfl, rfl⟩
      | sh => cases h
      | ow => cases h
/-- .. by its body -/
def bodyFF (b : Bool) (n : Nat) (B : SF) : FF := fun ds => match B (argE b ds ++ List.replicate (n - ds.length) none) with
  | some (.rt d fr, e) => fin0 b e d fr
  | some (.nx, e) => fin0 b e .none false
  | _ => none

section
variable {b : Bool} {ds : List D} {d d0 : D} {o : Ow} {i : Nat}
theorem argE_length : (argE b ds).length = ds.length := by
  cases ds <;> simp [argE]
theorem argE_get (h : (argE b ds)[i]? = some (some (d, o))) : ds[i]? = some d ∧ ((o = .sh ∧ (b = false ∨ i ≠ 0)) ∨ (o = .br ∧ b = true ∧ i = 0)) := by
  cases ds with
  | nil => simp [argE] at h
  | cons e r =>
    cases i with
    | zero =>
      simp only [argE, List.getElem?_cons_zero, Option.some.injEq, Prod.mk.injEq] at h
      obtain ⟨rfl, rfl⟩ := h
      cases b
      · exact ⟨rfl, .inl ⟨rfl, .inl rfl⟩⟩
      · exact ⟨rfl, .inr ⟨rfl, rfl, rfl⟩⟩
    | succ i =>
      simp only [argE, List.getElem?_cons_succ, List.getElem?_map, Option.map_eq_some_iff] at h
      obtain ⟨x, h1, h2⟩ := h
      simp only [Option.some.injEq, Prod.mk.injEq] at h2
      obtain ⟨rfl, rfl⟩ := h2
      exact ⟨by simpa using h1, .inl ⟨rfl, .inr (by omega)⟩⟩
theorem argE_at (h : ds[i]? = some d) : (argE b ds)[i]? = some (some (d, if b = true ∧ i = 0 then Ow.br else Ow.sh)) := by
  cases ds with
  | nil => simp at h
  | cons e r =>
    cases i with
    | zero =>
      cases h
      cases b <;> rfl
    | succ i =>
      simp only [List.getElem?_cons_succ] at h
      simp [argE, h]
theorem upd0_length : (upd0 b ds d0).length = ds.length := by
  cases b <;> cases ds <;> rfl
theorem upd0_zero (h : ds ≠ []) : (upd0 true ds d0)[0]? = some d0 := by
  cases ds with
  | nil => exact absurd rfl h
  | cons => rfl
theorem upd0_ne (h : b = false ∨ i ≠ 0) : (upd0 b ds d0)[i]? = ds[i]? := by
  cases b with
  | false => cases ds <;> rfl
  | true =>
    rcases h with h | h
    · cases h
    · cases ds with
      | nil => rfl
      | cons e r =>
        cases i with
        | zero => exact absurd rfl h
        | succ i => rfl
end

section
variable {K : PySem.W.Frag} {O : Addr → Prop} {fx : Nat → Option Addr} {env : Ev} {σ : Sl} {H H' : Hp} {n : Nat}
theorem get_ext {α : Type} {l : List (Option α)} {i n : Nat} {x : α} : (l ++ List.replicate n none)[i]? = some (some x) ↔ l[i]? = some (some x) := by
  rw [List.getElem?_append]
  by_cases h : i < l.length
  · rw [if_pos h]
  · rw [if_neg h, List.getElem?_eq_none (by omega : l.length ≤ i), List.getElem?_replicate]
    split <;> simp
theorem rt_ext {m : Nat} {c : Addr} : Rt (env ++ List.replicate n none) (σ ++ List.replicate m none) c ↔ Rt env σ c := by
  unfold Rt
  simp only [get_ext]
theorem oo_ext {m : Nat} : Oo O (env ++ List.replicate n none) (σ ++ List.replicate m none) = Oo O env σ := funext fun _ => propext (or_congr Iff.rfl rt_ext)
theorem R.ext (r : R K O fx env σ H) : R K O fx (env ++ List.replicate n none) (σ ++ List.replicate n none) H := by
  refine ⟨by simp [r.len], fun i d h => ?_, fun i d o h k => ?_, fun i j a d e o p h1 h2 h3 h4 h5 h6 => ?_, r.out, fun p hp => ?_, fun i d h => r.pin i d (get_ext.mp h)⟩
  · obtain ⟨v, q1, q2⟩ := r.val i d (get_ext.mp h)
    exact ⟨v, get_ext.mpr q1, by rw [Pb, oo_ext]; exact q2⟩
  · obtain ⟨v, q1, q2, q3⟩ := r.own i d o (get_ext.mp h) k
    exact ⟨v, get_ext.mpr q1, q2, by rw [Pb, oo_ext]; exact q3⟩
  · exact r.apart i j a d e o p (get_ext.mp h1) h2 (get_ext.mp h3) h4 (get_ext.mp h5) (get_ext.mp h6)
  · obtain ⟨d, q1, q2⟩ := r.fix p hp
    exact ⟨d, get_ext.mpr q1, get_ext.mpr q2⟩
/-- the arguments at a def's end -/
theorem R.back {b : Bool} {ds : List D} {d0 : D} {vs : List V} {O' : Addr → Prop} {e : Ev} {σ' : Sl} (r : R K O fx (argE b ds) (vs.map some) H) (r' : R K O' fx e σ' H') (s : Same (Pb O (argE b ds) (vs.map some) H) (Pb O' e σ' H'))
    (hb : b = true → e[0]? = some (some (d0, .br))) : R K O' fx (argE b (upd0 b ds d0)) (vs.map some) H' ∧ Same (Pb O' e σ' H') (Pb O' (argE b (upd0 b ds d0)) (vs.map some) H') := by
  have key : ∀ {i : Nat} {d : D} {o : Ow}, (argE b (upd0 b ds d0))[i]? = some (some (d, o)) → (o = .sh ∧ (b = false ∨ i ≠ 0) ∧ (argE b ds)[i]? = some (some (d, .sh))) ∨ (o = .br ∧ b = true ∧ i = 0 ∧ d = d0 ∧ ∃ d1, (argE b ds)[0]? = some (some (d1, .br))) := fun {i d o} h => by
    obtain ⟨h1, h2⟩ := argE_get h
    rcases h2 with ⟨rfl, h2⟩ | ⟨rfl, h2, h3⟩
    · left
      refine ⟨rfl, h2, ?_⟩
      rw [upd0_ne h2] at h1
      rw [argE_at h1, if_neg fun z => by
        rcases h2 with h2 | h2
        · rw [h2] at z; exact Bool.false_ne_true z.1
        · exact h2 z.2]
    · right
      subst h2; subst h3
      have hne : ds ≠ [] := by
        rintro rfl
        simp [upd0] at h1
      rw [upd0_zero hne] at h1
      cases ds with
      | nil => exact absurd rfl hne
      | cons d1 r => exact ⟨rfl, rfl, rfl, (Option.some.inj h1).symm, d1, rfl⟩
  -- the root of the first one
  have rt0 : b = true → ∀ d1, (argE b ds)[0]? = some (some (d1, .br)) → ∃ a, (vs.map some)[0]? = some (some (V.ref a)) ∧ σ'[0]? = some (some (V.ref a)) := fun hb' d1 h => by
    obtain ⟨a, ha⟩ := r.pin 0 d1 h
    obtain ⟨_, _, q1⟩ := r.fix (0, a) ha
    obtain ⟨_, _, q2⟩ := r'.fix (0, a) ha
    exact ⟨a, q1, q2⟩
  have rt : ∀ c, Rt (argE b (upd0 b ds d0)) (vs.map some) c → Rt e σ' c := fun c ⟨i, d, o, h1, h2, h3⟩ => by
    rcases key h1 with ⟨z, _⟩ | ⟨rfl, hb', rfl, rfl, d1, h4⟩
    · exact absurd z h2
    · obtain ⟨a, q1, q2⟩ := rt0 hb' d1 h4
      rw [q1] at h3
      cases h3
      exact ⟨0, _, .br, hb hb', by decide, q2⟩
  have s2 : Same (Pb O' e σ' H') (Pb O' (argE b (upd0 b ds d0)) (vs.map some) H') := cut_anti fun c z => z.imp id (rt c)
  have le := Le.of_same (s.trans s2)
  refine ⟨⟨by rw [argE_length, upd0_length, ← argE_length (b := b)]; exact r.len, fun i d h => ?_, fun i d o h k => ?_, fun i j a d e' o p h1 h2 h3 h4 h5 h6 => ?_, r'.out, fun p hp => ?_, fun i d h => ?_⟩, s2⟩
  · rcases key h with ⟨_, _, h1⟩ | ⟨z, _⟩
    · obtain ⟨v, q1, q2⟩ := r.val i d h1
      exact ⟨v, q1, den_le le q2⟩
    · cases z
  · rcases key h with ⟨z, _⟩ | ⟨rfl, hb', rfl, rfl, d1, h4⟩
    · exact absurd z k
    · obtain ⟨a, q1, q2⟩ := rt0 hb' d1 h4
      obtain ⟨a', q3, q4, q5⟩ := r'.own 0 _ .br (hb hb') (by decide)
      rw [q2] at q3
      cases q3
      exact ⟨a, q1, q4, q5.mono (Le.of_same s2) rfl⟩
  · rcases key h1 with ⟨z, _⟩ | ⟨_, _, rfl, _⟩
    · exact absurd z h2
    · rcases key h3 with ⟨z, _⟩ | ⟨_, _, rfl, _⟩
      · exact absurd z h4
      · rfl
  · obtain ⟨d, q1, q2⟩ := r.fix p hp
    obtain ⟨h1, h2⟩ := argE_get q1
    rcases h2 with ⟨z, _⟩ | ⟨_, hb', h3⟩
    · cases z
    · refine ⟨d0, ?_, q2⟩
      rw [h3] at h1 ⊢
      subst hb'
      have hne : ds ≠ [] := by
        rintro rfl
        simp at h1
      rw [argE_at (upd0_zero hne), if_pos ⟨rfl, rfl⟩]
  · rcases key h with ⟨z, _⟩ | ⟨_, hb', rfl, _, d1, h4⟩
    · cases z
    · subst hb'
      exact r.pin 0 d1 h4
end

section
variable {P : Program} {w : World} {K : PySem.W.Frag} {mg : Str → Option Value} {base : Heap}
theorem fn_body {b : Bool} {N : List Str} {vs : List V} {H : Hp} {Q : VK} {E : XK} {n : Nat} {B : SF} (h : spF K b n (bodyFF b N.length B) vs H Q E) : tS K B { nx := fun _ H' => Q .non H', rt := Q } (L2.start N vs) H := by
  obtain ⟨hn, O, fx, ds, d, fr, d0, r, e, q⟩ := h
  have hl : vs.length = ds.length := by
    have z := r.len
    rw [argE_length, List.length_map] at z
    exact z.symm
  have rx := r.ext (n := N.length - ds.length)
  have fin : ∀ {d' : D} {fr' : Bool} {e' : Ev} {v : V} {σ' : Sl} {H' : Hp}, fin0 b e' d' fr' = some (d, fr, d0) → EPost2 K O fx (argE b ds ++ List.replicate (N.length - ds.length) none) (vs.map some ++ List.replicate (N.length - ds.length) none) H d' fr' e' v σ' H' → Q v H' := fun {d' fr' e' v σ' H'} h p => by
    have hb : b = true → e'[0]? = some (some (d0, .br)) ∧ True := fun hb => by
      subst hb
      obtain ⟨d1, h1, h2⟩ := fin0_true h
      cases h2
      exact ⟨h1, trivial⟩
    have hd : d' = d ∧ fr' = fr := by
      cases b with
      | false => cases h; exact ⟨rfl, rfl⟩
      | true =>
        obtain ⟨d1, h1, h2⟩ := fin0_true h
        cases h2
        exact ⟨rfl, rfl⟩
    obtain ⟨rfl, rfl⟩ := hd
    refine q v H' ?_
    have pe : Pb O (argE b ds ++ List.replicate (N.length - ds.length) none) (vs.map some ++ List.replicate (N.length - ds.length) none) H = Pb O (argE b ds) (vs.map some) H := by rw [Pb, oo_ext]
    cases fr' with
    | false =>
      obtain ⟨bh, dn⟩ := p
      have s1 := bh.same
      rw [pe] at s1
      obtain ⟨r2, s2⟩ := r.back bh.rel s1 fun hb' => (hb hb').1
      exact ⟨⟨r2, s1.trans s2, bh.outer⟩, den_le (Le.of_same s2) dn⟩
    | true =>
      obtain ⟨a, rfl, f⟩ := p
      have s1 := f.same
      rw [pe] at s1
      obtain ⟨r2, s2⟩ := r.back f.rel s1 fun hb' => (hb hb').1
      exact ⟨a, rfl, f.new, r2, s1.trans s2, f.outer, f.own.mono (Le.of_same s2) rfl⟩
  have hs : L2.start N vs = vs.map some ++ List.replicate (N.length - ds.length) none := by unfold L2.start; rw [hl]
  rw [hs]
  unfold bodyFF at e
  split at e
  · rename_i d' fr' e' h1
    exact ⟨O, fx, _, .rt d' fr', e', rx, h1, fun v σ' H' p => fin e p⟩
  · rename_i e' h1
    exact ⟨O, fx, _, .nx, e', rx, h1, fun σ' H' bh => fin (v := .non) e ⟨bh, rfl⟩⟩
  · cases e
/-- THE RULE for a def -/
theorem fn_ok {x qual : Str} {st : Stmt} {f : Addr} {fd : FuncData} {N ps : List Str} {k : Nat} {b : Bool} {B : SF} (F : Fun K x qual st f fd) (S : FnScope N ps (defScope st))
    (hbody : ∀ (cdv : Value) (A : Around) (outer : List Env) (s : Shared) (H : Hp) (E : XK), Room k (A.deeper (envOfC qual (defScope st) s.heap.objs.size f cdv)) →
      SSs (cxOf CX0 P w K mg base N qual (defScope st) f cdv A outer s H E).nox B (defBody st)) : FnOk P w K mg base CX0 (k + 1) f fd ps (spF K b ps.length (bodyFF b N.length B)) :=
  F.ok S (fun vs H Q E h => h.1) fun cdv A outer s H vs Q E hr h => ⟨_, hbody cdv A outer s H E hr, fn_body h⟩
theorem FnOk.weaken {k : Nat} {f : Addr} {fd : FuncData} {ps : List Str} {b : Bool} {n : Nat} {F G : FF} (h : FnOk P w K mg base CX0 k f fd ps (spF K b n F)) (e : ∀ ds r, G ds = some r → F ds = some r) : FnOk P w K mg base CX0 k f fd ps (spF K b n G) :=
  h.imp fun vs H Q E ⟨hn, O, fx, ds, d, fr, d0, r, q, z⟩ => ⟨hn, O, fx, ds, d, fr, d0, r, e _ _ q, z⟩
/-- nothing can be asked -/
theorem fn_none {f : Addr} {fd : FuncData} {ps : List Str} {b : Bool} {k : Nat} : FnOk P w K mg base CX0 k f fd ps (spF K b ps.length fun _ => none) :=
  ⟨fun vs H Q E h => h.1, fun A outer s H args us vs Q E _ _ _ _ h => by
    obtain ⟨_, O, fx, ds, d, fr, d0, r, e, q⟩ := h
    cases e⟩
end

/-! ### calls -/
mutual
/-- nothing in it can be changed -/
def immD : D → Bool
  | .none | .bool _ | .int _ | .str _ => true
  | .tuple ds => immL ds
  | .list _ | .dict _ => false
def immL : List D → Bool
  | [] => true
  | d :: ds => immD d && immL ds
end
def pkS (e : Ev) : List Opd → List Nat
  | [] => []
  | .val _ :: r => pkS e r
  | .slot i :: r => match e[i]? with
    | some (some (_, .sh)) => pkS e r
    | _ => i :: pkS e r
def frzL : List Nat → Ev → Option Ev
  | [], e => some e
  | i :: r, e => match e[i]? with
    | some (some (d, .ow)) => frzL r (e.set i (some (d, .sh)))
    | some (some (_, .sh)) => frzL r e
    | _ => none
/-- a call -/
def callF (F : FF) (dds : List D) (fl : OLF) : EF := fun env => match fl env with
  | some (os, e1) => match derefs e1 os with
    | some ds => match F (ds ++ dds) with
      | some (d, fr, _) => if (pkS e1 os).isEmpty then some (d, fr, e1)
        else if immD d then some (d, false, e1)
        else match frzL (pkS e1 os) e1 with
          | some e2 => if (pkS e2 os).isEmpty then some (d, fr, e2) else none
          | none => none
      | none => none
    | none => none
  | none => none
/-- a call whose first argument is a name, changed in place -/
def callM (F : FF) (fl : OLF) : EF := fun env => match fl env with
  | some (.slot i :: os, e0) => match frzL (pkS e0 os) e0 with
    | some e1 => if (pkS e1 os).isEmpty then match e1[i]?, derefs e1 os with
        | some (some (c, o)), some ds => if o = .sh then none else match F (c :: ds) with
          | some (d, fr, c') => some (d, fr, e1.set i (some (c', o)))
          | none => none
        | _, _ => none
      else none
    | none => none
  | _ => none

section
variable {K : PySem.W.Frag} {O : Addr → Prop} {fx : Nat → Option Addr} {env e1 e2 : Ev} {σ : Sl} {H H' : Hp} {d : D} {v : V}
mutual
theorem imm_den {O' : Addr → Prop} (m : ∀ a, O a → Mut (H a)) : ∀ {d : D} {v : V}, immD d = true → Den K (cut H O') d v → Den K (cut H O) d v
  | .none, _, _, h => h
  | .bool _, _, _, h => h
  | .int _, _, _, h => h
  | .str _, _, _, h => h
  | .list _, _, i, _ => nomatch i
  | .dict _, _, i, _ => nomatch i
  | .tuple ds, _, i, h => by
    obtain ⟨a, vs, e, h1, h2⟩ := h
    refine ⟨a, vs, e, ?_, imm_denL m (by simpa [immD] using i) h2⟩
    rcases h1 with h1 | h1
    · left
      obtain ⟨_, h1⟩ := cut_rd.mp h1
      refine cut_rd.mpr ⟨fun z => ?_, h1⟩
      have q := m a z
      rcases h1 with h1 | ⟨o, h1⟩
      · rw [h1] at q; exact q
      · rw [h1] at q; exact q
    · exact .inr h1
theorem imm_denL {O' : Addr → Prop} (m : ∀ a, O a → Mut (H a)) : ∀ {ds : List D} {vs : List V}, immL ds = true → DenL K (cut H O') ds vs → DenL K (cut H O) ds vs
  | [], _, _, h => h
  | d :: ds, _, i, h => by
    simp only [immL, Bool.and_eq_true] at i
    obtain ⟨v, r, e, h1, h2⟩ := h
    exact ⟨v, r, e, imm_den m i.1 h1, imm_denL m i.2 h2⟩
end
/-- all that a callee may read as it stands -/
theorem R.args {ds : List D} {vs : List V} (hd : DenL K (cut H O) ds vs) (ho : ∀ a, O a → Mut (H a)) : R K O (fun _ => none) (argE false ds) (vs.map some) H ∧ Oo O (argE false ds) (vs.map some) = O := by
  have nr : ∀ c, ¬ Rt (argE false ds) (vs.map some) c := fun c ⟨i, d, o, h1, h2, _⟩ => by
    rcases (argE_get h1).2 with ⟨z, _⟩ | ⟨_, z, _⟩
    · exact h2 z
    · cases z
  have oo : Oo O (argE false ds) (vs.map some) = O := funext fun c => propext ⟨fun z => z.elim id fun z => absurd z (nr c), .inl⟩
  have no : ∀ {i : Nat} {d : D} {o : Ow}, (argE false ds)[i]? = some (some (d, o)) → o = .sh := fun h => by
    rcases (argE_get h).2 with ⟨z, _⟩ | ⟨_, z, _⟩
    · exact z
    · cases z
  refine ⟨⟨by rw [argE_length, List.length_map]; exact (denL_length hd).symm, fun i d h => ?_, fun i d o h k => absurd (no h) k, fun i j a d e o p h1 h2 => absurd (no h1) h2, ho, (fun p hp => by cases hp), (fun i d h => by have z := no h; cases z)⟩, oo⟩
  obtain ⟨x, q1, q2⟩ := denL_at hd (argE_get h).1
  refine ⟨x, by rw [List.getElem?_map, q1]; rfl, ?_⟩
  show Den K (cut H (Oo O (argE false ds) (vs.map some))) d x
  rw [oo]
  exact q2
/-- behind a call that reads alone -/
theorem call_back {O' : Addr → Prop} {ds ds' : List D} {vs : List V} {fr : Bool} (oo : Oo O' (argE false ds) (vs.map some) = O') (oo' : ∀ O' : Addr → Prop, Oo O' (argE false ds') (vs.map some) = O') (p : EPost2 K O' (fun _ => none) (argE false ds) (vs.map some) H d fr (argE false ds') v (vs.map some) H') :
    Same H H' ∧ NPost K O' H d fr v H' := by
  have sm : Bh2 K O' (fun _ => none) (argE false ds) (vs.map some) H (argE false ds') (vs.map some) H' → Same H H' := fun b c u e => by
    by_cases z : O' c
    · rw [b.outer c z]; exact e
    · have z1 : (Pb O' (argE false ds) (vs.map some) H) c = some u := cut_some.mpr ⟨by rw [oo]; exact z, e⟩
      exact (cut_some.mp (b.same _ _ z1)).2
  have s := sm p.weak.1
  refine ⟨s, s, ?_⟩
  cases fr with
  | false =>
    have q : Den K (cut H' (Oo O' (argE false ds') (vs.map some))) d v := p.2
    rw [oo'] at q
    exact q
  | true =>
    obtain ⟨a, rfl, f⟩ := p
    have q := f.own
    have e2 : Pb (plus O' a) (argE false ds') (vs.map some) H' = cut H' (plus O' a) := by
      show cut H' (Oo (plus O' a) (argE false ds') (vs.map some)) = _
      rw [oo']
    rw [e2] at q
    refine ⟨a, rfl, ?_, q⟩
    cases ha : H a with
    | none => rfl
    | some u =>
      have z1 : (Pb O' (argE false ds) (vs.map some) H) a = some u := cut_some.mpr ⟨by rw [oo]; exact f.new, ha⟩
      have z2 := f.same _ _ z1
      exact absurd (Or.inl (Or.inr rfl)) (cut_some.mp z2).1
theorem oAre_den (r : R K O fx env σ H) : ∀ {os : List Opd} {vs : List V} {ds : List D}, OAre K O env σ H os vs → derefs env os = some ds → (pkS env os).isEmpty = true → DenL K (Pb O env σ H) ds vs
  | [], _, _, h, e, _ => by cases e; exact h
  | .val d :: os, _, _, h, e, k => by
    obtain ⟨v, r', rfl, h1, h2⟩ := h
    simp only [derefs, deref] at e
    split at e
    · rename_i ds' e2
      cases e
      exact ⟨v, r', rfl, h1, oAre_den r h2 e2 k⟩
    · cases e
  | .slot i :: os, _, _, h, e, k => by
    obtain ⟨v, r', rfl, h1, h2⟩ := h
    simp only [pkS] at k
    split at k
    · rename_i d' h3
      have h4 : deref env (.slot i) = some d' := by simp [deref, h3]
      simp only [derefs, h4] at e
      split at e
      · rename_i ds' e2
        cases e
        obtain ⟨v', q1, q2⟩ := r.val i d' h3
        have h1 : σ[i]? = some (some v) := h1
        rw [h1] at q1
        cases q1
        exact ⟨v, r', rfl, q2, oAre_den r h2 e2 k⟩
      · cases e
    · cases k
theorem derefs_pk {os : List Opd} {vs : List V} {ds : List D} (r : R K O fx env σ H) (h : OAre K O env σ H os vs) (e : derefs env os = some ds) : DenL K (cut H fun c => Oo O env σ c ∧ V.ref c ∉ vs) ds vs := by
  have pk := pkL_of r h e
  have all : ∀ {ds : List D} {ws : List V}, PkL K (Oo O env σ) H ds ws → (∀ x ∈ ws, x ∈ vs) → DenL K (cut H fun c => Oo O env σ c ∧ V.ref c ∉ vs) ds ws := by
    intro ds
    induction ds with
    | nil => intro ws h _; exact h
    | cons d ds ih =>
      intro ws h hm
      obtain ⟨v, t, rfl, h1, h2⟩ := h
      have le : Le (cut H (Oo O env σ)) (cut H fun c => Oo O env σ c ∧ V.ref c ∉ vs) := Le.of_same (cut_anti fun c z => z.1)
      refine ⟨v, t, rfl, ?_, ih h2 fun x hx => hm x (List.mem_cons_of_mem _ hx)⟩
      rcases h1 with h1 | ⟨a, rfl, h1⟩
      · exact den_le le h1
      · exact h1.den le fun u hu => cut_some.mpr ⟨fun z => z.2 (hm _ List.mem_cons_self), hu⟩
  exact all pk fun x hx => hx
theorem derefs_length : ∀ {os : List Opd} {ds : List D}, derefs env os = some ds → ds.length = os.length
  | [], _, e => by cases e; rfl
  | o :: os, _, e => by
    simp only [derefs] at e
    split at e
    · split at e
      · rename_i ds' e2
        cases e
        simp [derefs_length e2]
      · cases e
    · cases e
theorem frzL_ok (r : R K O fx env σ H) : ∀ {is : List Nat} {e2 : Ev}, frzL is env = some e2 → Bh K O fx env σ H e2 H ∧ ∀ o, deref e2 o = deref env o := by
  intro is
  induction is generalizing env with
  | nil =>
    intro e2 h
    cases h
    exact ⟨Bh.refl r, fun _ => rfl⟩
  | cons i is ih =>
    intro e2 h
    simp only [frzL] at h
    split at h
    · rename_i d' h1
      obtain ⟨a, q1, q2, q3⟩ := r.freeze h1
      obtain ⟨q4, q5⟩ := ih q2.rel h
      refine ⟨q2.trans q4, fun o => (q5 o).trans ?_⟩
      cases o with
      | val _ => rfl
      | slot j =>
        simp only [deref]
        by_cases hj : j = i
        · subst hj
          rw [get_set_self h1, h1]
        · rw [get_set_ne hj]
    · exact ih r h
    · cases h
theorem derefs_congr (h : ∀ o, deref e2 o = deref env o) : ∀ os, derefs e2 os = derefs env os
  | [] => rfl
  | o :: os => by simp only [derefs, h, derefs_congr h os]
/-- constants as further arguments -/
def Consts (K : PySem.W.Frag) (dds : List D) (dvs : List V) : Prop := ∀ H, DenL K H dds dvs
theorem call_imp {F : FF} {fl : OLF} {dds : List D} {dvs : List V} {n : Nat} {Q : VK} {E : XK} (hc : Consts K dds dvs) (hn : ∀ os, (∃ e e', fl e = some (os, e')) → os.length + dvs.length = n) (h : tE K (callF F dds fl) σ H Q) : tCall (spF K false n F) dvs E (tOL K fl) σ H Q := by
  obtain ⟨O, fx, env, d, fr, env', r, e, q⟩ := h
  unfold callF at e
  split at e
  · rename_i os e1 h1
    split at e
    · rename_i ds h2
      split at e
      · rename_i d' fr' c' h3
        refine ⟨O, fx, env, os, e1, r, h1, fun vs H1 b1 a1 => ?_⟩
        have hl : (vs ++ dvs).length = n := by
          rw [List.length_append, ← hn os ⟨_, _, h1⟩, ← derefs_length h2, denL_length (derefs_pk b1.rel a1 h2)]
        have oof : ∀ (xs : List D) (O' : Addr → Prop), Oo O' (argE false xs) ((vs ++ dvs).map some) = O' := fun xs O' => funext fun c => propext ⟨fun z => z.elim id (fun ⟨i, d, o, g1, g2, _⟩ => by
          rcases (argE_get g1).2 with ⟨z, _⟩ | ⟨_, z, _⟩
          · exact absurd z g2
          · cases z), .inl⟩
        -- where what is handed over may all be read as it stands
        have direct : ∀ {e2 : Ev}, Bh K O fx env σ H e2 H1 → OAre K O e2 σ H1 os vs → derefs e2 os = some ds → (pkS e2 os).isEmpty = true → (∀ v H', EPost K O fx env σ H d' fr' e2 v H' → Q v H') → spF K false n F (vs ++ dvs) H1 Q E := fun {e2} b2 a2 g2 g3 q2 => by
          have hd : DenL K (Pb O e2 σ H1) (ds ++ dds) (vs ++ dvs) := denL_append (oAre_den b2.rel a2 g2 g3) (hc _)
          obtain ⟨ra, oo⟩ := R.args hd fun a z => b2.rel.root_mut z
          refine ⟨hl, Oo O e2 σ, fun _ => none, ds ++ dds, d', fr', c', ra, h3, fun v H' p => ?_⟩
          obtain ⟨s, np⟩ := call_back oo (oof _) p
          exact q2 v H' (bh_epost b2 (np.epost b2.rel))
        split at e
        · rename_i h4
          cases e
          exact direct b1 a1 h2 h4 q
        · split at e
          · rename_i h5
            cases e
            have mt : ∀ a, (fun c => Oo O env' σ c ∧ V.ref c ∉ vs) a → Mut (H1 a) := fun a z => b1.rel.root_mut z.1
            have hd : DenL K (cut H1 fun c => Oo O env' σ c ∧ V.ref c ∉ vs) (ds ++ dds) (vs ++ dvs) := denL_append (derefs_pk b1.rel a1 h2) (hc _)
            obtain ⟨ra, oo⟩ := R.args hd mt
            refine ⟨hl, _, fun _ => none, ds ++ dds, d, fr', c', ra, h3, fun v H' p => ?_⟩
            obtain ⟨s, np⟩ := call_back oo (oof _) p
            have dn : Den K (cut H' fun c => Oo O env' σ c ∧ V.ref c ∉ vs) d v := by
              cases fr' with
              | false => exact np.res
              | true =>
                obtain ⟨a, _, _, w⟩ := np.res
                cases d <;> first | exact w.elim | (simp [immD] at h5)
            have np2 : NPost K (Oo O env' σ) H1 d false v H' := ⟨s, imm_den (fun a z => by
              have m := b1.rel.root_mut z
              cases e : H1 a with
              | none => rw [e] at m; exact m.elim
              | some u => rw [s _ _ e]; rw [e] at m; exact m) h5 dn⟩
            exact q v H' (bh_epost b1 (np2.epost b1.rel))
          · split at e
            · rename_i e2 h6
              split at e
              · rename_i h7
                cases e
                obtain ⟨g1, g2⟩ := frzL_ok b1.rel h6
                exact direct (b1.trans g1) (OAre.le g1.same a1) ((derefs_congr g2 os).trans h2) h7 q
              · cases e
            · cases e
      · cases e
    · cases e
  · cases e
end
end PD

/-! PdF: calls that change their first argument in place; the rules for calls. -/
namespace PD
open PySem PySem.Spec PyProof.Rows L2
section
variable {K : PySem.W.Frag} {O : Addr → Prop} {fx : Nat → Option Addr} {env e1 e2 : Ev} {σ : Sl} {H H' : Hp} {d : D} {v : V}
theorem frzL_own {i : Nat} {c : D} {o : Ow} (hne : o ≠ Ow.sh) : ∀ {is : List Nat} {env e2 : Ev}, frzL is env = some e2 → e2[i]? = some (some (c, o)) → env[i]? = some (some (c, o))
  | [], env, e2, h, k => by cases h; exact k
  | j :: is, env, e2, h, k => by
    simp only [frzL] at h
    split at h
    · rename_i d h1
      have := frzL_own hne h k
      exact (get_of_set this (by intro z; cases z; exact hne rfl)).1
    · exact frzL_own hne h k
    · cases h
theorem callM_imp {F : FF} {fl : OLF} {n : Nat} {Q : VK} {E : XK} (hn : ∀ os, (∃ e e', fl e = some (os, e')) → os.length = n) (h : tE K (callM F fl) σ H Q) : tCall (spF K true n F) [] E (tOL K fl) σ H Q := by
  obtain ⟨O, fx, env, d, fr, env', r, e, q⟩ := h
  unfold callM at e
  split at e
  · rename_i i os e0 h1
    split at e
    · rename_i e1 h2
      split at e
      · rename_i h3
        split at e
        · rename_i c o ds h4 h5
          split at e
          · cases e
          · rename_i hne
            split at e
            · rename_i d' fr' c' h6
              cases e
              refine ⟨O, fx, env, _, e0, r, h1, fun vs H1 b0 a0 => ?_⟩
              obtain ⟨g1, g2⟩ := frzL_ok b0.rel h2
              have b1 := b0.trans g1
              have r1 := b1.rel
              obtain ⟨v0, vs', rfl, av, as⟩ := OAre.le g1.same a0
              obtain ⟨p, hs, hO, hw⟩ := r1.own i c o h4 hne
              have av : σ[i]? = some (some v0) := av
              rw [hs] at av
              cases av
              have hd := oAre_den r1 as h5 h3
              have hlen : (V.ref p :: vs').length = n := by
                rw [← hn _ ⟨_, _, h1⟩, List.length_cons, List.length_cons, denL_length hd, derefs_length h5]
              have hp : Oo O e1 σ p := .inr ⟨i, c, o, h4, hne, hs⟩
              -- the callee's frame
              have rtc : ∀ (x : D) (xs : List D) a, Rt (argE true (x :: xs)) ((V.ref p :: vs').map some) a ↔ a = p := fun x xs a => by
                constructor
                · rintro ⟨j, d, o', k1, k2, k3⟩
                  rcases (argE_get k1).2 with ⟨z, _⟩ | ⟨_, _, rfl⟩
                  · exact absurd z k2
                  · cases k3; rfl
                · rintro rfl
                  exact ⟨0, x, .br, rfl, by decide, rfl⟩
              have oo : ∀ (O2 : Addr → Prop) (x : D) (xs : List D), Oo O2 (argE true (x :: xs)) ((V.ref p :: vs').map some) = fun a => O2 a ∨ a = p := fun O2 x xs => funext fun a => propext (or_congr Iff.rfl (rtc x xs a))
              have oeq : (fun a => (Oo O e1 σ a ∧ a ≠ p) ∨ a = p) = Oo O e1 σ := funext fun a => propext ⟨fun z => z.elim (fun z => z.1) fun z => by rw [z]; exact hp, fun z => by
                by_cases e : a = p
                · exact .inr e
                · exact .inl ⟨z, e⟩⟩
              have pb : ∀ (x : D) (xs : List D) (H2 : Hp), Pb (fun a => Oo O e1 σ a ∧ a ≠ p) (argE true (x :: xs)) ((V.ref p :: vs').map some) H2 = cut H2 (Oo O e1 σ) := fun x xs H2 => by
                show cut H2 (Oo _ _ _) = _
                rw [oo, oeq]
              have ra : R K (fun a => Oo O e1 σ a ∧ a ≠ p) (fun j => if j = 0 then some p else none) (argE true (c :: ds)) ((V.ref p :: vs').map some) H1 := by
                refine ⟨by rw [argE_length, List.length_map, List.length_cons, List.length_cons, denL_length hd], fun j d k => ?_, fun j d o' k1 k2 => ?_, fun j k b d' e' o' p' k1 k2 k3 k4 k5 k6 => ?_, fun a z => r1.root_mut z.1, fun x hx => ?_, fun j d k => ?_⟩
                · rw [pb]
                  obtain ⟨k1, k2⟩ := argE_get k
                  rcases k2 with ⟨_, z | z⟩ | ⟨z, _⟩
                  · cases z
                  · cases j with
                    | zero => exact absurd rfl z
                    | succ j =>
                      obtain ⟨x, q1, q2⟩ := denL_at hd (by simpa using k1)
                      exact ⟨x, by simp [q1], q2⟩
                  · cases z
                · rw [pb]
                  rcases (argE_get k1).2 with ⟨z, _⟩ | ⟨_, _, rfl⟩
                  · exact absurd z k2
                  · have z := (argE_get k1).1
                    cases z
                    exact ⟨p, rfl, fun z => z.2 rfl, hw⟩
                · rcases (argE_get k1).2 with ⟨z, _⟩ | ⟨_, _, rfl⟩
                  · exact absurd z k2
                  · rcases (argE_get k3).2 with ⟨z, _⟩ | ⟨_, _, rfl⟩
                    · exact absurd z k4
                    · rfl
                · obtain ⟨x1, x2⟩ := x
                  by_cases z : x1 = 0
                  · subst z
                    have hx : some p = some x2 := hx
                    cases hx
                    exact ⟨c, rfl, rfl⟩
                  · have hx : (if x1 = 0 then some p else none) = some x2 := hx
                    rw [if_neg z] at hx
                    cases hx
                · rcases (argE_get k).2 with ⟨z, _⟩ | ⟨_, _, rfl⟩
                  · cases z
                  · exact ⟨p, rfl⟩
              show spF K true n F ((V.ref p :: vs') ++ []) H1 Q E
              rw [List.append_nil]
              refine ⟨hlen, _, _, c :: ds, d, fr, c', ra, h6, fun v H' pp => ?_⟩
              have pp : EPost2 K (fun a => Oo O e1 σ a ∧ a ≠ p) (fun j => if j = 0 then some p else none) (argE true (c :: ds)) ((V.ref p :: vs').map some) H1 d fr (argE true (c' :: ds)) v ((V.ref p :: vs').map some) H' := pp
              have bh := pp.weak.1
              have hsame : ∀ a u, ¬ Oo O e1 σ a → H1 a = some u → H' a = some u := fun a u z k => by
                have z1 : Pb (fun a => Oo O e1 σ a ∧ a ≠ p) (argE true (c :: ds)) ((V.ref p :: vs').map some) H1 a = some u := by
                  rw [pb]
                  exact cut_some.mpr ⟨z, k⟩
                exact (cut_some.mp (bh.same _ _ z1)).2
              obtain ⟨p', q1, q2, ow'⟩ := bh.rel.own 0 c' .br rfl (by decide)
              cases q1
              rw [pb] at ow'
              obtain ⟨u, hu, mu⟩ := ow'.ex
              -- the heap but for the first argument
              generalize hH2 : (fun a => if a = p then H1 a else H' a : Hp) = H2
              have e2p : H2 p = H1 p := by rw [← hH2]; exact if_pos rfl
              have e2n : ∀ a, a ≠ p → H2 a = H' a := fun a z => by rw [← hH2]; exact if_neg z
              have sm : Same H1 H2 := fun a x k => by
                by_cases z : a = p
                · rw [z, e2p]; rw [z] at k; exact k
                · rw [e2n a z]
                  by_cases y : Oo O e1 σ a
                  · rw [bh.outer a ⟨y, z⟩]; exact k
                  · exact hsame a x y k
              have e3 : upd H2 p u = H' := by
                funext a
                by_cases z : a = p
                · rw [z, upd_same, hu]
                · rw [upd_ne z, e2n a z]
              have cute : ∀ O2 : Addr → Prop, O2 p → cut H2 O2 = cut H' O2 := fun O2 hO2 => by
                funext a
                unfold cut
                by_cases z : O2 a
                · rw [if_pos z, if_pos z]
                · rw [if_neg z, if_neg z]
                  exact e2n a fun y => z (y ▸ hO2)
              have b2 := b1.trans (r1.grown sm)
              cases fr with
              | false =>
                have bm : Bh2 K O fx e1 σ H2 (e1.set i (some (c', o))) σ (upd H2 p u) := b2.rel.mutate h4 hne hs (by
                  show OwnAt K (cut H2 (Oo O e1 σ)) (upd H2 p u) p c'
                  rw [e3, cute _ hp]
                  exact ow')
                rw [e3] at bm
                refine q v H' ⟨b2.trans bm, den_le (Le.of_same bm.same) ?_⟩
                have z := pp.2
                rw [pb] at z
                show Den K (cut H2 (Oo O e1 σ)) d v
                rw [cute _ hp]
                exact z
              | true =>
                obtain ⟨a, rfl, f⟩ := pp
                have hap : a ≠ p := fun z => by
                  obtain ⟨p', q1, q2, _⟩ := f.rel.own 0 c' .br rfl (by decide)
                  cases q1
                  exact q2 (.inr z.symm)
                have pb2 : Pb (plus (fun a => Oo O e1 σ a ∧ a ≠ p) a) (argE true (c' :: ds)) ((V.ref p :: vs').map some) H' = cut H' (plus (Oo O e1 σ) a) := by
                  show cut H' (Oo _ _ _) = _
                  rw [oo]
                  have : (fun b => plus (fun a => Oo O e1 σ a ∧ a ≠ p) a b ∨ b = p) = plus (Oo O e1 σ) a := funext fun b => propext (by
                    unfold plus
                    constructor
                    · rintro ((z | z) | z)
                      · exact .inl z.1
                      · exact .inr z
                      · exact .inl (z ▸ hp)
                    · rintro (z | z)
                      · by_cases y : b = p
                        · exact .inr y
                        · exact .inl (.inl ⟨z, y⟩)
                      · exact .inl (.inr z))
                  rw [this]
                have hno : ¬ Oo O e1 σ a := fun z => f.new ⟨z, hap⟩
                have h1a : H1 a = none := by
                  cases k : H1 a with
                  | none => rfl
                  | some x =>
                    have z1 : Pb (fun a => Oo O e1 σ a ∧ a ≠ p) (argE true (c :: ds)) ((V.ref p :: vs').map some) H1 a = some x := by
                      rw [pb]
                      exact cut_some.mpr ⟨hno, k⟩
                    have z2 := f.same _ _ z1
                    rw [pb2] at z2
                    exact absurd (Or.inr rfl) (cut_some.mp z2).1
                have own2 := f.own
                rw [pb2] at own2
                have np : NPost K (Oo O e1 σ) H1 d true (.ref a) H2 := ⟨sm, a, rfl, h1a, by
                  rw [cute _ (.inl hp)]
                  exact own2.mono (Le.refl _) (e2n a hap)⟩
                obtain ⟨a', ea, f2⟩ := np.epost r1
                cases ea
                have po : Pb (plus O a) e1 σ H2 = cut H' (plus (Oo O e1 σ) a) := by
                  show cut H2 (Oo (plus O a) e1 σ) = _
                  rw [show Oo (plus O a) e1 σ = plus (Oo O e1 σ) a from funext fun b => propext plus_oo]
                  exact cute _ (.inl hp)
                obtain ⟨p', q1, q2, ow2⟩ := f.rel.own 0 c' .br rfl (by decide)
                cases q1
                rw [pb2] at ow2
                have bm : Bh2 K (plus O a) fx e1 σ H2 (e1.set i (some (c', o))) σ (upd H2 p u) := f2.rel.mutate h4 hne hs (by
                  rw [e3, po]
                  exact ow2)
                rw [e3] at bm
                refine q _ H' ⟨a, rfl, f2.new, bm.rel, b1.same.trans (f2.same.trans bm.same), fun b z => (bm.outer b (.inl z)).trans ((f2.outer b z).trans (b1.outer b z)), ?_⟩
                have own3 : OwnAt K (Pb (plus O a) e1 σ H2) H' a d := by rw [po]; exact own2
                exact own3.mono (Le.of_same bm.same) rfl
            · cases e
        · cases e
      · cases e
    · cases e
  · cases e
end

/-- the number of operands -/
def Len (fl : OLF) (n : Nat) : Prop := ∀ os, (∃ e e', fl e = some (os, e')) → os.length = n
theorem len_nil : Len nilO 0 := fun os ⟨e, e', h⟩ => by cases h; rfl
theorem len_cons {f : OF} {fl : OLF} {n : Nat} (h : Len fl n) : Len (consO f fl) (n + 1) := fun os ⟨e, e', k⟩ => by
  unfold consO at k
  split at k
  · split at k
    · rename_i os' e2 h2
      cases k
      simp [h _ ⟨_, _, h2⟩]
    · cases k
  · cases k
theorem binds_consts {K : PySem.W.Frag} : Consts K [] [] := fun _ => rfl

/-- what is known of a def of the program, for its calls -/
structure Kn (X : Cx) (x : Str) (b : Bool) (n : Nat) (dds : List D) (F : FF) : Prop where
  ex : ∃ (k : Nat) (f : Addr) (fd : FuncData) (ps : List Str) (ds : List Value) (dvs : List V), FnOk X.prog X.w X.K X.mg X.base CX0 k f fd ps (spF X.K b n F) ∧ Room k X.A ∧ X.mg x = some (.ref f) ∧ PySem.W.keepIn X.K (.ref f) = true ∧ Binds X.K fd ps ds ∧ Vals dvs ds ∧ Consts X.K dds dvs ∧ dvs.length = dds.length
section
variable {X : Cx} {x : Str} {p pos : Pos} {e : Expr} {es : List Expr} {fl : OLF} {F : FF} {n m : Nat} {dds : List D}
theorem se_call (Kx : Kn X x false n dds F) (hg : Gl X x) (ha : SOL X fl (e :: es)) (hl : Len fl m) (hm : m + dds.length = n) (hdb : (x == ("__debug__" : Str)) = false := by decide)
    (he : starEach (e :: es) X.env = (false, eval e X.env) :: starEach es X.env := by rfl) (hpl : (backTo pos (starEach es X.env)).any (·.1) = false := by rfl) : SE X (callF F dds fl) (.Call (.Name x p) (e :: es) [] pos) := by
  obtain ⟨k, f, fd, ps, ds, dvs, F', hr, hmg, hk, hb, hd, hc, hcl⟩ := Kx.ex
  exact (pe_call F' hr hg hmg hk hb hd pass0 ha hdb he hpl).imp fun _ _ _ h => call_imp hc (fun os z => by rw [hl os z, hcl]; exact hm) h
theorem se_call0 (Kx : Kn X x false n dds F) (hg : Gl X x) (hm : dds.length = n) (hdb : (x == ("__debug__" : Str)) = false := by decide) : SE X (callF F dds nilO) (.Call (.Name x p) [] [] pos) := by
  obtain ⟨k, f, fd, ps, ds, dvs, F', hr, hmg, hk, hb, hd, hc, hcl⟩ := Kx.ex
  exact (pe_call0 F' hr hg hmg hk hb hd pass0 hdb).imp fun σ H Q h => by
    have z := call_imp (E := E0) (dvs := dvs) (n := n) hc (fun os z => by rw [len_nil os z, hcl, hm]; simp) h
    exact nilO_imp (K := X.K) (Q := fun vs H1 => spF X.K false n F (vs ++ dvs) H1 Q E0) z
theorem se_callM (Kx : Kn X x true n [] F) (hg : Gl X x) (ha : SOL X fl (e :: es)) (hl : Len fl n) (hdb : (x == ("__debug__" : Str)) = false := by decide)
    (he : starEach (e :: es) X.env = (false, eval e X.env) :: starEach es X.env := by rfl) (hpl : (backTo pos (starEach es X.env)).any (·.1) = false := by rfl) : SE X (callM F fl) (.Call (.Name x p) (e :: es) [] pos) := by
  obtain ⟨k, f, fd, ps, ds, dvs, F', hr, hmg, hk, hb, hd, hc, hcl⟩ := Kx.ex
  have : dvs = [] := List.length_eq_zero_iff.mp hcl
  subst this
  exact (pe_call F' hr hg hmg hk hb hd pass0 ha hdb he hpl).imp fun _ _ _ h => callM_imp hl h
end
end PD

/-! PdG: operators on data. -/
namespace PD
open PySem PySem.Spec PyProof.Rows L2

/-! ### data as the library reads it -/
section
variable {X : Cx} {pins : List (Addr × Obj)} {σ : Sl} {H : Hp} {s : Shared}
mutual
theorem den_reads (I : Inv X pins σ H s) : ∀ {d : D} {v : V} {u : Value}, d.plain = true → Den X.K H d v → RelV v u → ∃ as, Reads s.heap u d as
  | .none, _, _, _, h, r => by cases h; cases r; exact ⟨_, .none⟩
  | .bool b, _, _, _, h, r => by cases h; cases r; exact ⟨_, .bool b⟩
  | .int i, _, _, _, h, r => by cases h; obtain ⟨t, rfl⟩ := r; exact ⟨_, .int i t⟩
  | .str i, _, _, _, h, r => by cases h; obtain ⟨t, rfl⟩ := r; exact ⟨_, .str i t⟩
  | .dict _, _, _, p, _, _ => by simp [PyData.plain] at p
  | .list ds, _, _, p, h, r => by
    obtain ⟨a, vs, rfl, h1, h2⟩ := h
    cases r
    obtain ⟨its, rv, ⟨o, n, e1, e2, _, e3⟩, _⟩ := I.list h1
    obtain ⟨as, ra⟩ := denL_reads I (by simpa [PyData.plain] using p) h2 rv
    exact ⟨_, .list e1 e2 e3 ra⟩
  | .tuple ds, _, _, p, h, r => by
    obtain ⟨a, vs, rfl, h1, h2⟩ := h
    cases r
    obtain ⟨its, rv, ⟨o, e1, e2, n, e3⟩, _⟩ := I.tuple h1
    obtain ⟨as, ra⟩ := denL_reads I (by simpa [PyData.plain] using p) h2 rv
    exact ⟨_, .tuple e1 e2 e3 ra⟩
theorem denL_reads (I : Inv X pins σ H s) : ∀ {ds : List D} {vs : List V} {us : List Value}, PyData.plainAll ds = true → DenL X.K H ds vs → Vals vs us → ∃ as, ReadsAll s.heap us ds as
  | [], _, _, _, h, r => by cases h; cases r; exact ⟨_, .nil⟩
  | d :: ds, _, _, p, h, r => by
    obtain ⟨v, t, rfl, h1, h2⟩ := h
    simp only [PyData.plainAll, Bool.and_eq_true] at p
    cases r with
    | cons r1 r2 =>
      obtain ⟨as, ra⟩ := den_reads I p.1 h1 r1
      obtain ⟨bs, rb⟩ := denL_reads I p.2 h2 r2
      exact ⟨_, .cons ra rb⟩
end
theorem pk_den {K : PySem.W.Frag} {O : Addr → Prop} {d : D} {v : V} (h : Pk K O H d v) : Den K H d v := by
  rcases h with h | ⟨a, rfl, h⟩
  · exact den_le cut_le h
  · exact h.den cut_le fun u hu => hu
theorem pk_reads (I : Inv X pins σ H s) {O : Addr → Prop} {d : D} {v : V} {u : Value} (p : d.plain = true) (h : Pk X.K O H d v) (r : RelV v u) : ∃ as, Reads s.heap u d as := den_reads I p (pk_den h) r
end

/-! ### operations of two -/
abbrev G1 := D → Option (D × Bool)
abbrev G2 := D → D → Option (D × Bool)
def g1 (f : G1) : List D → Option (D × Bool)
  | [a] => f a
  | _ => none
def g2 (f : G2) : List D → Option (D × Bool)
  | [a, b] => f a b
  | _ => none
section
variable {K : PySem.W.Frag} {H : Hp} {x y : V} {Q : VK}
theorem rD1_elim {f : G1} (h : rD K (g1 f) [x] H Q) : ∃ O a d fr, (∀ a, O a → Mut (H a)) ∧ Pk K O H a x ∧ f a = some (d, fr) ∧ ∀ v H', NPost K O H d fr v H' → Q v H' := by
  obtain ⟨O, ds, d, fr, m, pk, e, q⟩ := h
  match ds, e, pk with
  | [a], e, pk =>
    obtain ⟨v, r, e1, p1, p2⟩ := pk
    cases e1
    exact ⟨O, a, d, fr, m, p1, e, q⟩
theorem rD2_elim {f : G2} (h : rD2 K (g2 f) x y H Q) : ∃ O a b d fr, (∀ a, O a → Mut (H a)) ∧ Pk K O H a x ∧ Pk K O H b y ∧ f a b = some (d, fr) ∧ ∀ v H', NPost K O H d fr v H' → Q v H' := by
  obtain ⟨O, ds, d, fr, m, pk, e, q⟩ := h
  match ds, e, pk with
  | [a, b], e, pk =>
    obtain ⟨v, r, e1, p1, p2⟩ := pk
    obtain ⟨v', r', e2, p3, p4⟩ := p2
    cases e1; cases e2; cases p4
    exact ⟨O, a, b, d, fr, m, p1, p3, e, q⟩
variable {O : Addr → Prop}
theorem np_val {d : D} {v : V} (h : ∀ H, Den K H d v) : NPost K O H d false v H := ⟨Same.refl _, h _⟩
theorem np_den {d : D} {v : V} (h : Den K (cut H O) d v) : NPost K O H d false v H := ⟨Same.refl _, h⟩
theorem same_new' {p : Addr} {u : HO} (h : H p = none) : Same H (upd H p u) := fun b x e => by rw [upd_ne (ne_of_none e h)]; exact e
theorem np_list {p : Addr} {ds : List D} {vs : List V} (h : H p = none) (hd : DenL K (cut H O) ds vs) : NPost K O H (.list ds) true (.ref p) (upd H p (.lst vs)) :=
  ⟨same_new' h, p, rfl, h, vs, upd_same, denL_le (Le.of_same (cut_same (same_new' h) fun a na z => z.elim id fun e => absurd (e ▸ h) na)) hd⟩
theorem np_tup {p : Addr} {ds : List D} {vs : List V} (m : ∀ a, O a → Mut (H a)) (h : H p = none) (hd : DenL K (cut H O) ds vs) : NPost K O H (.tuple ds) false (.ref p) (upd H p (.tup vs)) :=
  ⟨same_new' h, p, vs, rfl, .inl (.inl (cut_some.mpr ⟨fun z => mut_ne (m p z) h, upd_same⟩)), denL_le (Le.of_same (cut_same (same_new' h) fun _ _ z => z)) hd⟩
end

section
variable {X : Cx}
/-! #### == and != -/
def eqD (a b : D) : Option (D × Bool) := if a.plain && b.plain && decide (a.depth ≤ 60) then some (.bool (PyData.eqv a b), false) else none
def neD (a b : D) : Option (D × Bool) := if a.plain && b.plain && decide (a.depth ≤ 60) then some (.bool (!PyData.eqv a b), false) else none
theorem or_eq (hu : X.A.units + 64 < cLine) : OpR X (compareOp .Eq) (rD2 X.K (g2 eqD)) := by
  intro pins s σ H x y v u Q I rx ry h
  obtain ⟨O, a, b, d, fr, m, p1, p2, e, q⟩ := rD2_elim h
  unfold eqD at e
  split at e
  · rename_i c
    cases e
    simp only [Bool.and_eq_true, decide_eq_true_eq] at c
    obtain ⟨as, ra⟩ := pk_reads I c.1.1 p1 rx
    obtain ⟨bs, rb⟩ := pk_reads I c.1.2 p2 ry
    refine SeqAt.eq_plain ra rb c.1.1 c.1.2 ?_ ⟨.bl _, H, I, rfl, q _ _ (np_val fun _ => rfl)⟩
    have := Nat.min_le_left a.depth b.depth
    omega
  · cases e
theorem or_ne (hu : X.A.units + 64 < cLine) : OpR X (compareOp .NotEq) (rD2 X.K (g2 neD)) := by
  intro pins s σ H x y v u Q I rx ry h
  obtain ⟨O, a, b, d, fr, m, p1, p2, e, q⟩ := rD2_elim h
  unfold neD at e
  split at e
  · rename_i c
    cases e
    simp only [Bool.and_eq_true, decide_eq_true_eq] at c
    obtain ⟨as, ra⟩ := pk_reads I c.1.1 p1 rx
    obtain ⟨bs, rb⟩ := pk_reads I c.1.2 p2 ry
    refine SeqAt.ne_plain ra rb c.1.1 c.1.2 ?_ ⟨.bl _, H, I, rfl, q _ _ (np_val fun _ => rfl)⟩
    have := Nat.min_le_left a.depth b.depth
    omega
  · cases e
/-! #### order of ints -/
def ltD : G2
  | .int a, .int b => some (.bool (decide (a < b)), false)
  | _, _ => none
def leD : G2
  | .int a, .int b => some (.bool (decide (a ≤ b)), false)
  | _, _ => none
def gtD : G2
  | .int a, .int b => some (.bool (decide (b < a)), false)
  | _, _ => none
def geD : G2
  | .int a, .int b => some (.bool (decide (b ≤ a)), false)
  | _, _ => none
/-- an operation of two ints -/
theorem or_int {op : Value → Value → Sem Value} {C : Int → Int → Prop} {f : Int → Int → V} {G : Int → Int → D} {g : G2} (ho : OpR X op (rI C f)) (hg : ∀ a b r, g a b = some r → ∃ i j, a = .int i ∧ b = .int j ∧ C i j ∧ r = (G i j, false)) (hd : ∀ K H i j, Den K H (G i j) (f i j)) : OpR X op (rD2 X.K (g2 g)) := by
  intro pins s σ H x y v u Q I rx ry h
  obtain ⟨O, a, b, d, fr, m, p1, p2, e, q⟩ := rD2_elim h
  obtain ⟨i, j, rfl, rfl, hC, er⟩ := hg _ _ _ e
  cases er
  obtain rfl := pk_int p1
  obtain rfl := pk_int p2
  exact ho pins s σ H _ _ v u Q I rx ry ⟨i, j, rfl, rfl, hC, q _ _ (np_val fun _ => hd _ _ _ _)⟩
theorem or_int0 {op : Value → Value → Sem Value} {f : Int → Int → V} {G : Int → Int → D} {g : G2} (ho : OpR X op (rI0 f)) (hg : ∀ a b r, g a b = some r → ∃ i j, a = .int i ∧ b = .int j ∧ r = (G i j, false)) (hd : ∀ K H i j, Den K H (G i j) (f i j)) : OpR X op (rD2 X.K (g2 g)) := by
  intro pins s σ H x y v u Q I rx ry h
  obtain ⟨O, a, b, d, fr, m, p1, p2, e, q⟩ := rD2_elim h
  obtain ⟨i, j, rfl, rfl, er⟩ := hg _ _ _ e
  cases er
  obtain rfl := pk_int p1
  obtain rfl := pk_int p2
  exact ho pins s σ H _ _ v u Q I rx ry ⟨i, j, rfl, rfl, q _ _ (np_val fun _ => hd _ _ _ _)⟩
theorem int2_elim {G : Int → Int → D} {a b : D} {r : D × Bool} (h : (match a, b with | .int i, .int j => some (G i j, false) | _, _ => none : Option (D × Bool)) = some r) : ∃ i j, a = .int i ∧ b = .int j ∧ r = (G i j, false) := by
  split at h
  · cases h; exact ⟨_, _, rfl, rfl, rfl⟩
  · cases h
theorem or_lt : OpR X (compareOp .Lt) (rD2 X.K (g2 ltD)) := or_int0 op_lt (G := fun i j => .bool (decide (i < j))) (fun a b r h => int2_elim h) fun _ _ _ _ => rfl
theorem or_le : OpR X (compareOp .LtE) (rD2 X.K (g2 leD)) := or_int0 op_le (G := fun i j => .bool (decide (i ≤ j))) (fun a b r h => int2_elim h) fun _ _ _ _ => rfl
theorem or_gt : OpR X (compareOp .Gt) (rD2 X.K (g2 gtD)) := or_int0 op_gt (G := fun i j => .bool (decide (j < i))) (fun a b r h => int2_elim h) fun _ _ _ _ => rfl
theorem or_ge : OpR X (compareOp .GtE) (rD2 X.K (g2 geD)) := or_int0 op_ge (G := fun i j => .bool (decide (j ≤ i))) (fun a b r h => int2_elim h) fun _ _ _ _ => rfl
/-! #### arithmetic -/
def subD : G2
  | .int a, .int b => some (.int (a - b), false)
  | _, _ => none
def mulD : G2
  | .int a, .int b => if (-18446744073709551616 < a ∧ a < 18446744073709551616) ∨ (-18446744073709551616 < b ∧ b < 18446744073709551616) then some (.int (a * b), false) else none
  | _, _ => none
def modD : G2
  | .int a, .int b => if 0 < b then some (.int (a % b), false) else none
  | _, _ => none
def fdivD : G2
  | .int a, .int b => if 0 < b ∧ b < 1073741824 then some (.int (a / b), false) else none
  | _, _ => none
def powD : G2
  | .int a, .int b => if 0 ≤ b ∧ b ≤ 1000000 ∧ a.natAbs < 18446744073709551616 then some (.int (a ^ b.toNat), false) else none
  | _, _ => none
theorem int2_elimC {C : Int → Int → Prop} [∀ i j, Decidable (C i j)] {G : Int → Int → D} {a b : D} {r : D × Bool} (h : (match a, b with | .int i, .int j => if C i j then some (G i j, false) else none | _, _ => none : Option (D × Bool)) = some r) : ∃ i j, a = .int i ∧ b = .int j ∧ C i j ∧ r = (G i j, false) := by
  split at h
  · split at h
    · rename_i c
      cases h; exact ⟨_, _, rfl, rfl, c, rfl⟩
    · cases h
  · cases h
theorem or_sub : OpR X (binaryOp .Sub) (rD2 X.K (g2 subD)) := or_int0 op_sub (G := fun i j => .int (i - j)) (fun a b r h => int2_elim h) fun _ _ _ _ => rfl
theorem or_mul : OpR X (binaryOp .Mult) (rD2 X.K (g2 mulD)) := or_int op_mul (G := fun i j => .int (i * j)) (fun a b r h => by
  obtain ⟨i, j, e1, e2, c, e3⟩ := int2_elimC (C := fun a b => (-18446744073709551616 < a ∧ a < 18446744073709551616) ∨ (-18446744073709551616 < b ∧ b < 18446744073709551616)) h
  exact ⟨i, j, e1, e2, by unfold CMul; exact c, e3⟩) fun _ _ _ _ => rfl
theorem or_mod : OpR X (binaryOp .Mod) (rD2 X.K (g2 modD)) := or_int op_mod (G := fun i j => .int (i % j)) (fun a b r h => int2_elimC (C := fun _ b => 0 < b) h) fun _ _ _ _ => rfl
theorem or_fdiv : OpR X (binaryOp .FloorDiv) (rD2 X.K (g2 fdivD)) := or_int op_fdiv (G := fun i j => .int (i / j)) (fun a b r h => int2_elimC (C := fun _ b => 0 < b ∧ b < 1073741824) h) fun _ _ _ _ => rfl
theorem or_pow : OpR X (binaryOp .Pow) (rD2 X.K (g2 powD)) := or_int op_pow (G := fun i j => .int (i ^ j.toNat)) (fun a b r h => by
  obtain ⟨i, j, e1, e2, c, e3⟩ := int2_elimC (C := fun a b => 0 ≤ b ∧ b ≤ 1000000 ∧ a.natAbs < 18446744073709551616) h
  exact ⟨i, j, e1, e2, c, e3⟩) fun _ _ _ _ => rfl
def negD : G1
  | .int a => some (.int (-a), false)
  | _ => none
theorem ur_neg : UnR X (unaryOp .USub) (rD1 X.K (g1 negD)) := by
  intro pins s σ H x v Q I rx h
  obtain ⟨O, a, d, fr, m, p1, e, q⟩ := rD1_elim h
  unfold negD at e
  split at e
  · cases e
    obtain rfl := pk_int p1
    exact un_neg pins s σ H _ v Q I rx ⟨_, rfl, q _ _ (np_val fun _ => rfl)⟩
  · cases e
/-! #### + -/
def addD : G2
  | .int a, .int b => some (.int (a + b), false)
  | .str a, .str b => if a.length + b.length ≤ sizeLine then some (.str (a ++ b), false) else none
  | .list a, .list b => if a.length + b.length ≤ sizeLine then some (.list (a ++ b), true) else none
  | .tuple a, .tuple b => if a.length + b.length ≤ sizeLine then some (.tuple (a ++ b), false) else none
  | _, _ => none
theorem op_catL : OpR X (binaryOp .Add) (fun x y H Q => ∃ l b xs zs, x = .ref l ∧ y = .ref b ∧ SqL X.K H l xs ∧ SqL X.K H b zs ∧ xs.length + zs.length ≤ sizeLine ∧ ∀ p, H p = none → Q (.ref p) (upd H p (.lst (xs ++ zs)))) := by
  intro pins s σ H x y v u Q I rx ry h
  obtain ⟨l, b, xs, zs, rfl, rfl, hH, hB, hz, q⟩ := h
  cases rx
  cases ry
  obtain ⟨its, r, ⟨o, n, ho, hc, hdd, hd⟩, _⟩ := I.list hH
  obtain ⟨its2, r2, ⟨o2, n2, ho2, hc2, hdd2, hd2⟩, _⟩ := I.list hB
  obtain ⟨cls, dd, data, sl⟩ := o
  obtain ⟨cls2, dd2, data2, sl2⟩ := o2
  simp only at hc hd hc2 hd2
  subst hc hd hc2 hd2
  have e : its.toArray ++ its2.toArray = (its ++ its2).toArray := by simp
  have hz' : its.toArray.size + its2.toArray.size ≤ sizeLine := by rw [List.size_toArray, List.size_toArray, ← r.length, ← r2.length]; exact hz
  refine concat_meets ⟨_, ho, rfl⟩ ⟨_, ho2, rfl⟩ noFill_list_add seq_list_add PySem.F.slot_list_add PySem.F.entry_list_add (PySem.F.args_list_add_2 _ _) (list_addW l b its.toArray its2.toArray n n2 dd dd2 sl sl2 hz') ⟨ho, ho2, ?_⟩
  rw [e]
  refine ⟨.ref s.heap.objs.size, _, I.laid (t' := s.toks) (o := .lst (xs ++ zs)) (fun b ob q => Heap.get?_push_of_some _ q) (Nat.le_refl _) ?_, rfl, q _ (I.hok.fresh (Nat.le_refl _))⟩
  exact ⟨by rw [List.length_append]; exact hz, its ++ its2, 0, r.append r2, Heap.get?_push_size _ rfl⟩
theorem or_add : OpR X (binaryOp .Add) (rD2 X.K (g2 addD)) := by
  intro pins s σ H x y v u Q I rx ry h
  obtain ⟨O, a, b, d, fr, m, p1, p2, e, q⟩ := rD2_elim h
  unfold addD at e
  split at e
  · cases e
    obtain rfl := pk_int p1
    obtain rfl := pk_int p2
    exact op_add pins s σ H _ _ v u Q I rx ry ⟨_, _, rfl, rfl, q _ _ (np_val fun _ => rfl)⟩
  · split at e
    · rename_i hz
      cases e
      obtain rfl := pk_str p1
      obtain rfl := pk_str p2
      exact op_add_str pins s σ H _ _ v u Q I rx ry ⟨_, _, rfl, rfl, hz, q _ _ (np_val fun _ => rfl)⟩
    · cases e
  · split at e
    · rename_i hz
      cases e
      obtain ⟨a, vs, rfl, h1, h2⟩ := pk_list p1
      obtain ⟨b, ws, rfl, h3, h4⟩ := pk_list p2
      exact op_catL pins s σ H _ _ v u Q I rx ry ⟨a, b, vs, ws, rfl, rfl, h1, h3, by rw [denL_length h2, denL_length h4]; exact hz, fun p hp => q _ _ (np_list hp (denL_append h2 h4))⟩
    · cases e
  · rename_i as bs
    split at e
    · rename_i hz
      cases e
      obtain ⟨a, vs, rfl, h1, h2⟩ := pk_tuple p1
      obtain ⟨b, ws, rfl, h3, h4⟩ := pk_tuple p2
      have d1 : ∀ {d : D} {w : V}, d = d → Den X.K (cut H O) d w → NPost X.K O H d false w H := fun _ h => np_den h
      have k1 : Den X.K (cut H O) (.tuple _) (.ref a) := p1.elim id fun ⟨_, _, z⟩ => z.elim
      have k2 : Den X.K (cut H O) (.tuple _) (.ref b) := p2.elim id fun ⟨_, _, z⟩ => z.elim
      refine op_catA pins s σ H _ _ v u Q I rx ry ⟨a, b, vs, ws, rfl, rfl, h1, h3, by rw [denL_length h2, denL_length h4]; exact hz, fun z => ?_, fun _ z => ?_, fun _ _ p hp => q _ _ (np_tup m hp (denL_append h2 h4))⟩
      · subst z
        have := denL_length h2
        obtain rfl : as = [] := List.length_eq_zero_iff.mp this.symm
        exact q _ _ (np_den k2)
      · subst z
        have := denL_length h4
        obtain rfl : bs = [] := List.length_eq_zero_iff.mp this.symm
        rw [List.append_nil] at q
        exact q _ _ (np_den k1)
    · cases e
  · cases e
/-! #### is, is not: None, truth values -/
def isD : G2
  | .bool a, .bool b => some (.bool (decide (a = b)), false)
  | .none, .none => some (.bool true, false)
  | .none, .bool _ => none
  | .bool _, .none => some (.bool false, false)
  | .int _, .none => some (.bool false, false)
  | .str _, .none => some (.bool false, false)
  | .list _, .none => some (.bool false, false)
  | .tuple _, .none => some (.bool false, false)
  | .dict _, .none => some (.bool false, false)
  | _, _ => none
def isntD : G2 := fun a b => match isD a b with
  | some (.bool k, _) => some (.bool (!k), false)
  | _ => none
theorem pk_ref {K : PySem.W.Frag} {O : Addr → Prop} {H : Hp} {d : D} {v : V} (h : Pk K O H d v) (hd : (∃ l, d = .list l) ∨ (∃ l, d = .tuple l) ∨ ∃ l, d = .dict l) : ∃ a, v = .ref a := by
  rcases hd with ⟨l, rfl⟩ | ⟨l, rfl⟩ | ⟨l, rfl⟩
  · obtain ⟨a, _, e, _⟩ := pk_list h; exact ⟨a, e⟩
  · obtain ⟨a, _, e, _⟩ := pk_tuple h; exact ⟨a, e⟩
  · obtain ⟨a, _, e, _⟩ := pk_dict h; exact ⟨a, e⟩
theorem is_cases {K : PySem.W.Frag} {O : Addr → Prop} {H : Hp} {a b : D} {x y : V} {r : D × Bool} (p1 : Pk K O H a x) (p2 : Pk K O H b y) (h : isD a b = some r) :
    (∃ i j : Bool, x = .bl i ∧ y = .bl j ∧ r = (.bool (decide (i = j)), false)) ∨ (y = .non ∧ r = (.bool (decide (x = .non)), false)) := by
  cases a with
  | bool i =>
    obtain rfl := pk_bool p1
    cases b with
    | bool j =>
      obtain rfl := pk_bool p2
      cases h
      exact .inl ⟨i, j, rfl, rfl, rfl⟩
    | none =>
      obtain rfl := pk_none p2
      cases h
      exact .inr ⟨rfl, rfl⟩
    | _ => cases h
  | none =>
    obtain rfl := pk_none p1
    cases b with
    | none =>
      obtain rfl := pk_none p2
      cases h
      exact .inr ⟨rfl, rfl⟩
    | _ => cases h
  | int i =>
    obtain rfl := pk_int p1
    cases b with
    | none =>
      obtain rfl := pk_none p2
      cases h
      exact .inr ⟨rfl, rfl⟩
    | _ => cases h
  | str i =>
    obtain rfl := pk_str p1
    cases b with
    | none =>
      obtain rfl := pk_none p2
      cases h
      exact .inr ⟨rfl, rfl⟩
    | _ => cases h
  | list i =>
    obtain ⟨a, rfl⟩ := pk_ref p1 (.inl ⟨_, rfl⟩)
    cases b with
    | none =>
      obtain rfl := pk_none p2
      cases h
      exact .inr ⟨rfl, rfl⟩
    | _ => cases h
  | tuple i =>
    obtain ⟨a, rfl⟩ := pk_ref p1 (.inr (.inl ⟨_, rfl⟩))
    cases b with
    | none =>
      obtain rfl := pk_none p2
      cases h
      exact .inr ⟨rfl, rfl⟩
    | _ => cases h
  | dict i =>
    obtain ⟨a, rfl⟩ := pk_ref p1 (.inr (.inr ⟨_, rfl⟩))
    cases b with
    | none =>
      obtain rfl := pk_none p2
      cases h
      exact .inr ⟨rfl, rfl⟩
    | _ => cases h
theorem or_is : OpR X (compareOp .Is) (rD2 X.K (g2 isD)) := by
  intro pins s σ H x y v u Q I rx ry h
  obtain ⟨O, a, b, d, fr, m, p1, p2, e, q⟩ := rD2_elim h
  rcases is_cases p1 p2 e with ⟨i, j, rfl, rfl, er⟩ | ⟨rfl, er⟩
  · cases er
    exact op_isBl pins s σ H _ _ v u Q I rx ry ⟨i, j, rfl, rfl, q _ _ (np_val fun _ => rfl)⟩
  · cases er
    exact op_isN pins s σ H _ _ v u Q I rx ry ⟨rfl, q _ _ (np_val fun _ => rfl)⟩
theorem or_isnt : OpR X (compareOp .IsNot) (rD2 X.K (g2 isntD)) := by
  intro pins s σ H x y v u Q I rx ry h
  obtain ⟨O, a, b, d, fr, m, p1, p2, e, q⟩ := rD2_elim h
  unfold isntD at e
  split at e
  · rename_i k fr' e1
    cases e
    rcases is_cases p1 p2 e1 with ⟨i, j, rfl, rfl, er⟩ | ⟨rfl, er⟩
    · cases er
      exact op_notBl pins s σ H _ _ v u Q I rx ry ⟨i, j, rfl, rfl, q _ _ (np_val fun _ => rfl)⟩
    · cases er
      exact op_notN pins s σ H _ _ v u Q I rx ry ⟨rfl, q _ _ (np_val fun _ => rfl)⟩
  · cases e
end
end PD

/-! PdH: subscripts, slices, displays, in, built-in calls that read. -/
namespace PD
open PySem PySem.Spec PyProof.Rows L2

theorem pe_pick {X : Cx} {e : Expr} {t' : TE} (h : ∀ σ H Q, t' σ H Q → ∃ t, PE X e t ∧ t σ H Q) : PE X e t' := ⟨fun pins s σ H Q I w => by
  obtain ⟨t, p, q⟩ := h σ H Q w
  exact p.run pins s σ H Q I q⟩

/-! ### dicts as pairs -/
def keyEq : D → D → Bool
  | .int i, .int j => decide (i = j)
  | .str x, .str y => decide (x = y)
  | _, _ => false
def lookD : List (D × D) → D → Option D
  | [], _ => none
  | (a, v) :: r, k => if keyEq a k then some v else lookD r k
def keyD : D → Option Key
  | .int i => some (.inl i)
  | .str x => some (.inr x)
  | _ => none
theorem keyD_kD {d : D} {q : Key} (h : keyD d = some q) : d = kD q := by
  cases d <;> cases h <;> rfl
theorem keyEq_kD (a b : Key) : keyEq (kD a) (kD b) = decide (a = b) := by
  cases a with
  | inl i =>
    cases b with
    | inl j =>
      show decide (i = j) = _
      exact decide_eq_decide.mpr ⟨fun h => by rw [h], fun h => Sum.inl.inj h⟩
    | inr y => exact (decide_eq_false fun h => nomatch h).symm
  | inr x =>
    cases b with
    | inl j => exact (decide_eq_false fun h => nomatch h).symm
    | inr y =>
      show decide (x = y) = _
      exact decide_eq_decide.mpr ⟨fun h => by rw [h], fun h => Sum.inr.inj h⟩
theorem denP_look {K : PySem.W.Frag} {H : Hp} (q : Key) : ∀ {kvs : List (D × D)} {kv : List (Key × V)}, DenP K H kvs kv → match lookD kvs (kD q) with
    | some d => ∃ v, valV kv q = some v ∧ Den K H d v
    | none => valV kv q = none
  | [], _, h => by cases h; rfl
  | (a, d) :: r, _, h => by
    obtain ⟨k, v, t, rfl, rfl, h1, h2⟩ := h
    have ih := denP_look q h2
    simp only [lookD, keyEq_kD]
    by_cases e : k = q
    · rw [decide_eq_true e, if_pos rfl]
      exact ⟨v, valV_pos (p := (k, v)) e, h1⟩
    · rw [decide_eq_false e, if_neg Bool.false_ne_true]
      rw [valV_neg (p := (k, v)) e]
      exact ih
theorem kD_den {K : PySem.W.Frag} {H : Hp} {q : Key} {v : V} {O : Addr → Prop} (h : Pk K O H (kD q) v) : v = kV q := by
  cases q with
  | inl i => exact pk_int h
  | inr x => exact pk_str h

/-! ### a[b] -/
def ixD : G2
  | .list xs, .int i => match atI xs i with
    | some d => some (d, false)
    | none => none
  | .tuple xs, .int i => match atI xs i with
    | some d => some (d, false)
    | none => none
  | .str x, .int i => if x.length ≤ sizeLine then match atI x.cps.toList i with
      | some c => some (.str ⟨#[c]⟩, false)
      | none => none
    else none
  | .dict kvs, k => match keyD k with
    | some _ => match lookD kvs k with
      | some d => some (d, false)
      | none => none
    | none => none
  | _, _ => none
theorem atI_den {K : PySem.W.Frag} {H : Hp} {ds : List D} {vs : List V} {i : Int} {d : D} (h : DenL K H ds vs) (e : atI ds i = some d) : ∃ v, atI vs i = some v ∧ Den K H d v := by
  unfold atI at e ⊢
  rw [denL_length h]
  cases q : ixN ds.length i with
  | none => rw [q] at e; cases e
  | some j =>
    rw [q] at e
    exact denL_at h e
theorem has_look {K : PySem.W.Frag} {H : Hp} (q : Key) {kvs : List (D × D)} {kv : List (Key × V)} (h : DenP K H kvs kv) : (valV kv q).isSome = (lookD kvs (kD q)).isSome := by
  have z := denP_look q h
  split at z
  · rename_i d' e1
    obtain ⟨w, e2, _⟩ := z
    rw [e2, e1]; rfl
  · rename_i e1
    rw [z, e1]; rfl
section
variable {X : Cx} {a b : Expr} {fa fb : OF} {pos : Pos}
theorem or_ix (hu : X.A.units + 1 < cLine) : IxR X (rD2 X.K (g2 ixD)) := by
  intro value slice pins s σ H x y v u Q I rx ry h hs
  obtain ⟨O, a, b, d, fr, m, p1, p2, e, q⟩ := rD2_elim h
  unfold ixD at e
  split at e
  · split at e
    · rename_i e1
      cases e
      obtain ⟨p, vs, rfl, h1, h2⟩ := pk_list p1
      obtain rfl := pk_int p2
      obtain ⟨w, e2, h3⟩ := atI_den h2 e1
      exact ix_list value slice pins s σ H _ _ v u Q I rx ry ⟨p, vs, _, w, rfl, rfl, h1, e2, q _ _ (np_den h3)⟩ hs
    · cases e
  · split at e
    · rename_i e1
      cases e
      obtain ⟨p, vs, rfl, h1, h2⟩ := pk_tuple p1
      obtain rfl := pk_int p2
      obtain ⟨w, e2, h3⟩ := atI_den h2 e1
      exact ix_tup value slice pins s σ H _ _ v u Q I rx ry ⟨p, vs, _, w, rfl, rfl, h1, e2, q _ _ (np_den h3)⟩ hs
    · cases e
  · split at e
    · rename_i hz
      split at e
      · rename_i e1
        cases e
        obtain rfl := pk_str p1
        obtain rfl := pk_int p2
        exact ix_str value slice pins s σ H _ _ v u Q I rx ry ⟨_, _, _, rfl, rfl, hz, e1, q _ _ (np_val fun _ => rfl)⟩ hs
      · cases e
    · cases e
  · split at e
    · rename_i k e0
      split at e
      · rename_i e1
        cases e
        obtain rfl := keyD_kD e0
        obtain ⟨p, kv, rfl, h1, h2⟩ := pk_dict p1
        obtain rfl := kD_den p2
        have z := denP_look k h2
        rw [e1] at z
        obtain ⟨w, e2, h3⟩ := z
        cases rx
        have g : DGet H p (kV k) (some w) := .inl ⟨kv, k, h1, rfl, e2.symm⟩
        exact tail_any (dict_typeIs I g) PySem.F.slot_dict_getitem.lookup (d_getItem hu I g ry fun w' s3 I3 rw' => ⟨w, H, I3, rw', q _ _ (np_den h3)⟩) hs
      · cases e
    · cases e
  · cases e
theorem se_ix (hu : X.A.units + 64 < cLine) (ha : SO X fa a) (hb : SO X fb b) (hs : PlainIx b) : SE X (opF (consO fa (consO fb nilO)) (g2 ixD)) (.Subscript a b pos) := (pe_ix (or_ix (by omega)) ha hb hs).imp fun _ _ _ h => two_imp h

/-! ### a[lo:hi] -/
theorem tOL_mono {K : PySem.W.Frag} {f : OLF} {σ : Sl} {H : Hp} {Q Q' : List V → Hp → Prop} (h : tOL K f σ H Q) (k : ∀ v H, Q v H → Q' v H) : tOL K f σ H Q' := by
  obtain ⟨O, fx, env, o, env', r, e, q⟩ := h
  exact ⟨O, fx, env, o, env', r, e, fun v H' b i => k _ _ (q v H' b i)⟩
def partF : Option EF → Ev → Option (Option Int × Ev)
  | none, env => some (none, env)
  | some f, env => match f env with
    | some (.int i, _, e1) => some (some i, e1)
    | _ => none
def slF (f : OF) (lo hi : Option EF) (g : D → Option Int → Option Int → Option (D × Bool)) : EF := fun env => match f env with
  | some (o, e1) => match partF lo e1 with
    | some (l, e2) => match partF hi e2 with
      | some (u, e3) => match deref e3 o with
        | some d => match g d l u with
          | some (r, fr) => some (r, fr, e3)
          | none => none
        | none => none
      | none => none
    | none => none
  | none => none
def cutD {α : Type} (xs : List α) (lo hi : Option Int) : List α := (xs.drop (HT.sIx xs.length 0 lo)).take (HT.sIx xs.length xs.length hi - HT.sIx xs.length 0 lo)
def sliceD : D → Option Int → Option Int → Option (D × Bool)
  | .list xs, lo, hi => some (.list (cutD xs lo hi), true)
  | .tuple xs, lo, hi => some (.tuple (cutD xs lo hi), false)
  | _, _, _ => none
theorem denL_drop {K : PySem.W.Frag} {H : Hp} : ∀ (n : Nat) {ds : List D} {vs : List V}, DenL K H ds vs → DenL K H (ds.drop n) (vs.drop n)
  | 0, _, _, h => h
  | _ + 1, [], _, h => by cases h; rfl
  | n + 1, _ :: _, _, h => by
    obtain ⟨v, r, rfl, _, h2⟩ := h
    exact denL_drop n h2
theorem denL_take {K : PySem.W.Frag} {H : Hp} : ∀ (n : Nat) {ds : List D} {vs : List V}, DenL K H ds vs → DenL K H (ds.take n) (vs.take n)
  | 0, _, _, _ => rfl
  | _ + 1, [], _, h => by cases h; rfl
  | n + 1, _ :: _, _, h => by
    obtain ⟨v, r, rfl, h1, h2⟩ := h
    exact ⟨v, _, rfl, h1, denL_take n h2⟩
theorem denL_cut {K : PySem.W.Frag} {H : Hp} {ds : List D} {vs : List V} (h : DenL K H ds vs) (lo hi : Option Int) : DenL K H (cutD ds lo hi) (cutV vs lo hi) := by
  unfold cutD cutV
  rw [denL_length h]
  exact denL_take _ (denL_drop _ h)
theorem cut_whole {ds : List D} {n : Nat} {lo hi : Option Int} (hl : n = ds.length) (hw : HT.sIx n 0 lo = 0 ∧ HT.sIx n n hi = n) : cutD ds lo hi = ds := by
  subst hl
  unfold cutD
  rw [hw.1, hw.2]
  simp
abbrev rSlD (K : PySem.W.Frag) (g : D → Option Int → Option Int → Option (D × Bool)) : V → Option Int → Option Int → Hp → VK → Prop := fun x lo hi H Q => ∃ O a d fr, (∀ a, O a → Mut (H a)) ∧ Pk K O H a x ∧ g a lo hi = some (d, fr) ∧ ∀ v H', NPost K O H d fr v H' → Q v H'
theorem sl_ok : SlR X (rSlD X.K sliceD) := by
  intro pins s σ H x v vl vu lo hi sl Q I rx hs pl pu h
  obtain ⟨O, a, d, fr, m, p1, e, q⟩ := h
  unfold sliceD at e
  split at e
  · cases e
    obtain ⟨p, vs, rfl, h1, h2⟩ := pk_list p1
    exact sl_list pins s σ H _ v vl vu lo hi sl Q I rx hs pl pu ⟨p, vs, rfl, h1, fun r hr => q _ _ (np_list hr (denL_cut h2 lo hi))⟩
  · cases e
    have k1 : Den X.K (cut H O) _ x := p1.elim id fun ⟨_, _, z⟩ => z.elim
    obtain ⟨p, vs, rfl, h1, h2⟩ := pk_tuple p1
    refine sl_tupA pins s σ H _ v vl vu _ _ sl Q I rx hs pl pu ⟨p, vs, rfl, h1, fun hw => ?_, fun hw r hr => q _ _ (np_tup m hr (denL_cut h2 _ _))⟩
    rw [cut_whole (denL_length h2) hw] at q
    exact q _ _ (np_den k1)
  · cases e
def tPO (K : PySem.W.Frag) (f : Option EF) : TO := fun σ H Q => ∃ O fx env l env', R K O fx env σ H ∧ partF f env = some (l, env') ∧ ∀ H', Bh K O fx env σ H env' H' → Q l H'
abbrev SPO (X : Cx) (f : Option EF) (e : Option Expr) : Prop := PO X e (tPO X.K f)
theorem _root_.L2.PO.imp {X : Cx} {e : Option Expr} {t t' : TO} (h : PO X e t) (k : ∀ σ H Q, t' σ H Q → t σ H Q) : PO X e t' := ⟨fun pins s σ H Q I w => h.run pins s σ H Q I (k _ _ _ w)⟩
theorem spo_none : SPO X none none := po_none.imp fun σ H Q h => by
  obtain ⟨O, fx, env, o, env', r, e, q⟩ := h
  cases e
  exact q _ (Bh.refl r)
theorem spo_some {e : Expr} {f : EF} (h : SE X f e) : SPO X (some f) (some e) := (po_some h).imp fun σ H Q h => by
  obtain ⟨O, fx, env, o, env', r, e, q⟩ := h
  simp only [partF] at e
  split at e
  · rename_i i fr e1 h1
    cases e
    exact ⟨O, fx, env, _, fr, _, r, h1, fun v H' p => ⟨i, p.weak.2, q H' p.weak.1⟩⟩
  · cases e
theorem sl_imp {K : PySem.W.Frag} {f : OF} {lo hi : Option EF} {g : D → Option Int → Option Int → Option (D × Bool)} {σ : Sl} {H : Hp} {Q : VK} (h : tE K (slF f lo hi g) σ H Q) : tSl (rSlD K g) (tO K f) (tPO K lo) (tPO K hi) σ H Q := by
  obtain ⟨O, fx, env, d, fr, env', r, e, q⟩ := h
  unfold slF at e
  split at e
  · rename_i o e1 h1
    split at e
    · rename_i l e2 h2
      split at e
      · rename_i u e3 h3
        split at e
        · rename_i c h4
          split at e
          · rename_i d' fr' h7
            cases e
            exact ⟨O, fx, env, o, e1, r, h1, fun x H1 b1 o1 => ⟨O, fx, e1, l, e2, b1.rel, h2, fun H2 b2 => ⟨O, fx, e2, u, env', b2.rel, h3, fun H3 b3 => by
              have b := b1.trans (b2.trans b3)
              exact ⟨Oo O env' σ, c, d, fr, fun a z => b.rel.root_mut z, pk_of b.rel (OIs.le (b2.trans b3).same o1) h4, h7, fun v H' n => q v H' (bh_epost b (n.epost b.rel))⟩⟩⟩⟩
          · cases e
        · cases e
      · cases e
    · cases e
  · cases e
theorem se_sl {e : Expr} {f : OF} {lo hi : Option EF} {le he : Option Expr} {p2 pos : Pos} (h : SO X f e) (hl : SPO X lo le) (hh : SPO X hi he) : SE X (slF f lo hi sliceD) (.Subscript e (.Slice le he none p2) pos) := (pe_slice sl_ok h hl hh).imp fun _ _ _ h => sl_imp h
end

/-! ### values that are taken into a new one -/
def opFA (fl : OLF) (g : List D → Option (D × Bool)) : EF := fun env => match fl env with
  | some (os, e1) => if (pkS e1 os).isEmpty then match derefs e1 os with
      | some ds => match g ds with
        | some (d, fr) => some (d, fr, e1)
        | none => none
      | none => none
    else none
  | none => none
def rA (K : PySem.W.Frag) (g : List D → Option (D × Bool)) : List V → Hp → VK → Prop := fun vs H Q => ∃ O ds d fr, (∀ a, O a → Mut (H a)) ∧ DenL K (cut H O) ds vs ∧ g ds = some (d, fr) ∧ ∀ v H', NPost K O H d fr v H' → Q v H'
theorem opA_imp {K : PySem.W.Frag} {fl : OLF} {g : List D → Option (D × Bool)} {σ : Sl} {H : Hp} {Q : VK} (h : tE K (opFA fl g) σ H Q) : tOL K fl σ H fun vs H1 => rA K g vs H1 Q := by
  obtain ⟨O, fx, env, d, fr, env', r, e, q⟩ := h
  unfold opFA at e
  split at e
  · rename_i os e1 h1
    split at e
    · rename_i hp
      split at e
      · rename_i ds h2
        split at e
        · rename_i d' fr' h3
          cases e
          exact ⟨O, fx, env, os, env', r, h1, fun vs H1 b a => ⟨Oo O env' σ, ds, d, fr, fun a z => b.rel.root_mut z, oAre_den b.rel a h2 hp, h3, fun v H' n => q v H' (bh_epost b (n.epost b.rel))⟩⟩
        · cases e
      · cases e
    · cases e
  · cases e
def tupD (ds : List D) : Option (D × Bool) := if ds.length ≤ sizeLine then some (.tuple ds, false) else none
def lstD (ds : List D) : Option (D × Bool) := if ds.length ≤ sizeLine then some (.list ds, true) else none
section
variable {X : Cx} {es : List Expr} {fl : OLF} {pos : Pos}
theorem se_tup {k : Nat} (h : SOL X fl es) : SE X (opFA fl tupD) (.Tuple es k pos) := (pe_tup h).imp fun σ H Q h => by
  refine tOL_mono (opA_imp h) fun vs H1 w => ?_
  obtain ⟨O, ds, d, fr, m, hd, e, q⟩ := w
  unfold tupD at e
  split at e
  · rename_i hl
    cases e
    exact ⟨by rw [denL_length hd]; exact hl, fun p hp => q _ _ (np_tup m hp hd)⟩
  · cases e
theorem se_lst (h : SOL X fl es) : SE X (opFA fl lstD) (.List es pos) := (pe_lst h).imp fun σ H Q h => by
  refine tOL_mono (opA_imp h) fun vs H1 w => ?_
  obtain ⟨O, ds, d, fr, m, hd, e, q⟩ := w
  unfold lstD at e
  split at e
  · rename_i hl
    cases e
    exact ⟨by rw [denL_length hd]; exact hl, fun p hp => q _ _ (np_list hp hd)⟩
  · cases e
end

/-! ### in -/
def inD : G2
  | x, .list ys => if x.plain && PyData.plainAll ys && decide (x.depth ≤ 60) then some (.bool (ys.any fun y => PyData.eqv y x), false) else none
  | x, .tuple ys => if x.plain && PyData.plainAll ys && decide (x.depth ≤ 60) then some (.bool (ys.any fun y => PyData.eqv y x), false) else none
  | k, .dict kvs => match keyD k with
    | some _ => some (.bool (lookD kvs k).isSome, false)
    | none => none
  | _, _ => none
def ninD : G2 := fun x y => match inD x y with
  | some (.bool b, _) => some (.bool (!b), false)
  | _ => none
section
variable {X : Cx}
theorem sqL_reads {pins : List (Addr × Obj)} {σ : Sl} {H : Hp} {s : Shared} {a : Addr} {vs : List V} {ds : List D} {O : Addr → Prop} (I : Inv X pins σ H s) (h : SqL X.K H a vs) (hd : DenL X.K (cut H O) ds vs) (p : PyData.plainAll ds = true) : ∃ as, Reads s.heap (.ref a) (.list ds) as :=
  den_reads I (d := .list ds) (v := .ref a) (by simpa [PyData.plain] using p) ⟨a, vs, rfl, h, denL_le cut_le hd⟩ rfl
theorem sqT_reads {pins : List (Addr × Obj)} {σ : Sl} {H : Hp} {s : Shared} {a : Addr} {vs : List V} {ds : List D} {O : Addr → Prop} (I : Inv X pins σ H s) (h : SqT X.K H a vs) (hd : DenL X.K (cut H O) ds vs) (p : PyData.plainAll ds = true) : ∃ as, Reads s.heap (.ref a) (.tuple ds) as :=
  den_reads I (d := .tuple ds) (v := .ref a) (by simpa [PyData.plain] using p) ⟨a, vs, rfl, h, denL_le cut_le hd⟩ rfl
theorem in_core {pins : List (Addr × Obj)} {σ : Sl} {H : Hp} {s : Shared} {O : Addr → Prop} {a b dd : D} {fr : Bool} {x y : V} {v u : Value} (hu : X.A.units + 64 < cLine) (I : Inv X pins σ H s) (rx : RelV x v) (ry : RelV y u) (p1 : Pk X.K O H a x) (p2 : Pk X.K O H b y) (e : inD a b = some (dd, fr)) :
    ∃ k, dd = .bool k ∧ fr = false ∧ (∀ Q : VK, Q (.bl k) H → wpAny (model X.prog X.w) X.A (compareOp .In v u) (EP X pins σ Q) X.xe s) ∧ ∀ Q : VK, Q (.bl (!k)) H → wpAny (model X.prog X.w) X.A (compareOp .NotIn v u) (EP X pins σ Q) X.xe s := by
  unfold inD at e
  split at e
  · rename_i ys
    split at e
    · rename_i c
      cases e
      simp only [Bool.and_eq_true, decide_eq_true_eq] at c
      obtain ⟨as, ra⟩ := pk_reads I c.1.1 p1 rx
      obtain ⟨p, vs, rfl, h1, h2⟩ := pk_list p2
      cases ry
      obtain ⟨bs, rb⟩ := sqL_reads I h1 h2 c.1.2
      have := Nat.min_le_right (PyData.depthAll ys) a.depth
      exact ⟨_, rfl, rfl, fun Q q => SeqAt.in_list_data rb ra c.1.2 c.1.1 (by omega) ⟨.bl _, H, I, rfl, q⟩, fun Q q => SeqAt.notIn_list_data rb ra c.1.2 c.1.1 (by omega) ⟨.bl _, H, I, rfl, q⟩⟩
    · cases e
  · rename_i ys
    split at e
    · rename_i c
      cases e
      simp only [Bool.and_eq_true, decide_eq_true_eq] at c
      obtain ⟨as, ra⟩ := pk_reads I c.1.1 p1 rx
      obtain ⟨p, vs, rfl, h1, h2⟩ := pk_tuple p2
      cases ry
      obtain ⟨bs, rb⟩ := sqT_reads I h1 h2 c.1.2
      have := Nat.min_le_right (PyData.depthAll ys) a.depth
      exact ⟨_, rfl, rfl, fun Q q => SeqAt.in_tuple_data rb ra c.1.2 c.1.1 (by omega) ⟨.bl _, H, I, rfl, q⟩, fun Q q => SeqAt.notIn_tuple_data rb ra c.1.2 c.1.1 (by omega) ⟨.bl _, H, I, rfl, q⟩⟩
    · cases e
  · split at e
    · rename_i k e0
      cases e
      obtain rfl := keyD_kD e0
      obtain ⟨p, kv, rfl, h1, h2⟩ := pk_dict p2
      obtain rfl := kD_den p1
      cases ry
      have g : DGet H p (kV k) (valV kv k) := .inl ⟨kv, k, h1, rfl, rfl⟩
      refine ⟨_, rfl, rfl, fun Q q => d_in (by omega) I g rx fun s' I' => ⟨.bl _, H, I', rfl, ?_⟩, fun Q q => d_notIn (by omega) I g rx fun s' I' => ⟨.bl _, H, I', rfl, ?_⟩⟩
      · rw [has_look k h2]; exact q
      · rw [has_look k h2]; exact q
    · cases e
  · cases e
theorem or_in (hu : X.A.units + 64 < cLine) : OpR X (compareOp .In) (rD2 X.K (g2 inD)) := by
  intro pins s σ H x y v u Q I rx ry h
  obtain ⟨O, a, b, d, fr, m, p1, p2, e, q⟩ := rD2_elim h
  obtain ⟨k, rfl, rfl, h1, _⟩ := in_core hu I rx ry p1 p2 e
  exact h1 Q (q _ _ (np_val fun _ => rfl))
theorem or_nin (hu : X.A.units + 64 < cLine) : OpR X (compareOp .NotIn) (rD2 X.K (g2 ninD)) := by
  intro pins s σ H x y v u Q I rx ry h
  obtain ⟨O, a, b, d, fr, m, p1, p2, e, q⟩ := rD2_elim h
  unfold ninD at e
  cases hh : inD a b with
  | none => rw [hh] at e; cases e
  | some r =>
    obtain ⟨dd, fr'⟩ := r
    obtain ⟨k, rfl, rfl, _, h2⟩ := in_core hu I rx ry p1 p2 hh
    rw [hh] at e
    cases e
    exact h2 Q (q _ _ (np_val fun _ => rfl))
/-! ### built-in calls -/
theorem se_callB {x : Str} {p pos : Pos} {e : Expr} {es : List Expr} {fl : OLF} {id : String} {g : List D → Option (D × Bool)} (hc : CallR X (.builtin id) (rD X.K g)) (hg : Gl X x) (hm : X.mg x = none) (hv : bootBuiltins x = some (.builtin id)) (ha : SOL X fl (e :: es)) (hn : x ≠ "__name__" := by decide) (hdb : (x == ("__debug__" : Str)) = false := by decide)
    (he : starEach (e :: es) X.env = (false, eval e X.env) :: starEach es X.env := by rfl) (hpl : (backTo pos (starEach es X.env)).any (·.1) = false := by rfl) : SE X (opF fl g) (.Call (.Name x p) (e :: es) [] pos) := (pe_callB hc hg hm hv ha hn hdb he hpl).imp fun _ _ _ h => op_imp h
theorem se_callTy {x : Str} {p pos : Pos} {e : Expr} {es : List Expr} {fl : OLF} {T : String} {g : List D → Option (D × Bool)} (hc : CallR X (.type T) (rD X.K g)) (hg : Gl X x) (hm : X.mg x = none) (hv : bootBuiltins x = some (.type T)) (ha : SOL X fl (e :: es)) (hn : x ≠ "__name__" := by decide) (hdb : (x == ("__debug__" : Str)) = false := by decide)
    (he : starEach (e :: es) X.env = (false, eval e X.env) :: starEach es X.env := by rfl) (hpl : (backTo pos (starEach es X.env)).any (·.1) = false := by rfl) : SE X (opF fl g) (.Call (.Name x p) (e :: es) [] pos) := (pe_callTy hc hg hm hv ha hn hdb he hpl).imp fun _ _ _ h => op_imp h
theorem rD_one {K : PySem.W.Frag} {f : G1} {vs : List V} {H : Hp} {Q : VK} (h : rD K (g1 f) vs H Q) : ∃ x, vs = [x] ∧ rD K (g1 f) [x] H Q := by
  obtain ⟨O, ds, d, fr, m, pk, e, q⟩ := h
  match ds, e, pk with
  | [a], e, pk =>
    obtain ⟨v, r, e1, p1, p2⟩ := pk
    cases p2
    exact ⟨v, e1, O, [a], d, fr, m, ⟨v, [], rfl, p1, rfl⟩, e, q⟩
def lenD : G1
  | .list xs => some (.int xs.length, false)
  | .tuple xs => some (.int xs.length, false)
  | .dict xs => some (.int xs.length, false)
  | .str x => if x.length ≤ sizeLine then some (.int x.length, false) else none
  | _ => none
theorem denP_length {K : PySem.W.Frag} {H : Hp} : ∀ {ds : List (D × D)} {vs : List (Key × V)}, DenP K H ds vs → vs.length = ds.length
  | [], _, h => by cases h; rfl
  | (_, _) :: ds, _, h => by
    obtain ⟨q, v, r, rfl, _, _, h2⟩ := h
    simp [denP_length h2]
theorem cr_len : CallR X (.builtin "len") (rD X.K (g1 lenD)) := by
  intro pins s σ H xs us Q I r h
  obtain ⟨x, rfl, h⟩ := rD_one h
  obtain ⟨O, a, d, fr, m, p1, e, q⟩ := rD1_elim h
  unfold lenD at e
  split at e
  · cases e
    obtain ⟨p, vs, rfl, h1, h2⟩ := pk_list p1
    exact call_len_seq pins s σ H _ us Q I r ⟨p, vs, rfl, .inl h1, by rw [denL_length h2]; exact q _ _ (np_val fun _ => rfl)⟩
  · cases e
    obtain ⟨p, vs, rfl, h1, h2⟩ := pk_tuple p1
    exact call_len_seq pins s σ H _ us Q I r ⟨p, vs, rfl, .inr h1, by rw [denL_length h2]; exact q _ _ (np_val fun _ => rfl)⟩
  · cases e
    obtain ⟨p, vs, rfl, h1, h2⟩ := pk_dict p1
    obtain ⟨u, rfl, rx⟩ := vals1 r
    cases rx
    exact d_len I h1 fun t s' I' => ⟨.int vs.length, H, I', ⟨t, rfl⟩, by rw [denP_length h2]; exact q _ _ (np_val fun _ => rfl)⟩
  · split at e
    · rename_i hz
      cases e
      obtain rfl := pk_str p1
      exact call_len_str pins s σ H _ us Q I r ⟨_, rfl, hz, q _ _ (np_val fun _ => rfl)⟩
    · cases e
  · cases e
/-- list(x) -/
def listD : G1
  | .list xs => some (.list xs, true)
  | .tuple xs => some (.list xs, true)
  | _ => none
theorem cr_list : CallR X (.type "list") (rD X.K (g1 listD)) := by
  intro pins s σ H xs us Q I r h
  obtain ⟨x, rfl, h⟩ := rD_one h
  obtain ⟨O, a, d, fr, m, p1, e, q⟩ := rD1_elim h
  unfold listD at e
  split at e
  · cases e
    obtain ⟨p, vs, rfl, h1, h2⟩ := pk_list p1
    exact call_list_of pins s σ H _ us Q I r ⟨p, vs, rfl, .inl h1, fun l hl => q _ _ (np_list hl h2)⟩
  · cases e
    obtain ⟨p, vs, rfl, h1, h2⟩ := pk_tuple p1
    exact call_list_of pins s σ H _ us Q I r ⟨p, vs, rfl, .inr h1, fun l hl => q _ _ (np_list hl h2)⟩
  · cases e
/-- tuple(x) -/
def tupleD : G1
  | .list xs => some (.tuple xs, false)
  | .tuple xs => some (.tuple xs, false)
  | _ => none
theorem cr_tuple : CallR X (.type "tuple") (rD X.K (g1 tupleD)) := by
  intro pins s σ H xs us Q I r h
  obtain ⟨x, rfl, h⟩ := rD_one h
  obtain ⟨O, a, d, fr, m, p1, e, q⟩ := rD1_elim h
  unfold tupleD at e
  split at e
  · cases e
    obtain ⟨p, vs, rfl, h1, h2⟩ := pk_list p1
    exact call_tuple_of pins s σ H _ us Q I r ⟨p, vs, rfl, .inl ⟨h1, fun l hl => q _ _ (np_tup m hl h2)⟩⟩
  · cases e
    have k1 : Den X.K (cut H O) _ x := p1.elim id fun ⟨_, _, z⟩ => z.elim
    obtain ⟨p, vs, rfl, h1, h2⟩ := pk_tuple p1
    exact call_tuple_of pins s σ H _ us Q I r ⟨p, vs, rfl, .inr ⟨h1, q _ _ (np_den k1)⟩⟩
  · cases e
/-- int(x), of a number -/
def intD : G1
  | .int i => some (.int i, false)
  | .bool b => some (.int (if b then 1 else 0), false)
  | _ => none
theorem cr_int : CallR X (.type "int") (rD X.K (g1 intD)) := by
  intro pins s σ H xs us Q I r h
  obtain ⟨x, rfl, h⟩ := rD_one h
  obtain ⟨O, a, d, fr, m, p1, e, q⟩ := rD1_elim h
  unfold intD at e
  split at e
  · cases e
    obtain rfl := pk_int p1
    exact call_int1 pins s σ H _ us Q I r (.inl ⟨_, rfl, q _ _ (np_val fun _ => rfl)⟩)
  · cases e
    obtain rfl := pk_bool p1
    exact call_int1 pins s σ H _ us Q I r (.inr ⟨_, rfl, q _ _ (np_val fun _ => rfl)⟩)
  · cases e
/-- str(i), of a small number -/
def strD : G1
  | .int i => if i.natAbs.log2 < 1920 then some (.str (toString i), false) else none
  | _ => none
theorem cr_str : CallR X (.type "str") (rD X.K (g1 strD)) := by
  intro pins s σ H xs us Q I r h
  obtain ⟨x, rfl, h⟩ := rD_one h
  obtain ⟨O, a, d, fr, m, p1, e, q⟩ := rD1_elim h
  unfold strD at e
  split at e
  · split at e
    · rename_i hz
      cases e
      obtain rfl := pk_int p1
      exact call_str_int pins s σ H _ us Q I r ⟨_, rfl, hz, q _ _ (np_val fun _ => rfl)⟩
    · cases e
  · cases e
end
end PD

/-! PdI: changes in place: append, pop, extend, update, d[k] = v, x op= e. -/
namespace PD
open PySem PySem.Spec PyProof.Rows L2

/-- what a change is: the object, the arguments; the answer, the object behind it -/
abbrev MF := D → List D → Option (D × D)
def tyD : D → String
  | .list _ => "list"
  | .dict _ => "dict"
  | _ => ""
def noSlot (i : Nat) : List Opd → Bool
  | [] => true
  | .val _ :: r => noSlot i r
  | .slot j :: r => decide (j ≠ i) && noSlot i r
/-- x.m(..) of a name that owns its object; A: the arguments are taken into it -/
def mutF (T : String) (i : Nat) (fl : OLF) (m : MF) (A : Bool) : EF := fun env => match env[i]? with
  | some (some (c0, o0)) => if o0 = .sh ∨ tyD c0 ≠ T then none else match fl env with
    | some (os, e1) => if (A = true ∧ (pkS e1 os).isEmpty = false) ∨ (A = false ∧ noSlot i os = false) then none else match e1[i]?, derefs e1 os with
      | some (some (c, o)), some ds => if o = .sh then none else match m c ds with
        | some (r, c') => some (r, false, e1.set i (some (c', o)))
        | none => none
      | _, _ => none
    | none => none
  | _ => none
/-- an operand that is not the object at a -/
def PkLN (K : PySem.W.Frag) (O : Addr → Prop) (H : Hp) (a : Addr) : List D → List V → Prop
  | [], vs => vs = []
  | d :: ds, vs => ∃ v r, vs = v :: r ∧ (Den K (cut H O) d v ∨ ∃ b, v = .ref b ∧ b ≠ a ∧ OwnAt K (cut H O) H b d) ∧ PkLN K O H a ds r
theorem pkLN_of {K : PySem.W.Frag} {O : Addr → Prop} {fx : Nat → Option Addr} {env : Ev} {σ : Sl} {H : Hp} {i : Nat} {c : D} {o : Ow} {a : Addr} (r : R K O fx env σ H) (hi : env[i]? = some (some (c, o))) (hne : o ≠ .sh) (hs : σ[i]? = some (some (.ref a))) : ∀ {os : List Opd} {vs : List V} {ds : List D}, noSlot i os = true → OAre K O env σ H os vs → derefs env os = some ds → PkLN K (Oo O env σ) H a ds vs
  | [], _, _, _, h, e => by
    cases e
    exact h
  | o' :: os, _, _, hn, h, e => by
    obtain ⟨v, r', rfl, h1, h2⟩ := h
    unfold derefs at e
    split at e
    · rename_i d' e1
      split at e
      · rename_i ds' e2
        cases e
        cases o' with
        | val d2 =>
          cases e1
          exact ⟨v, r', rfl, .inl h1, pkLN_of (os := os) r hi hne hs hn h2 e2⟩
        | slot j =>
          simp only [noSlot, Bool.and_eq_true, decide_eq_true_eq] at hn
          have h1 : σ[j]? = some (some v) := h1
          obtain ⟨w', e'⟩ := deref_slot e1
          refine ⟨v, r', rfl, ?_, pkLN_of (os := os) r hi hne hs hn.2 h2 e2⟩
          by_cases hw : w' = Ow.sh
          · subst hw
            obtain ⟨v', e1, q⟩ := r.val j d' e'
            rw [h1] at e1; cases e1
            exact .inl q
          · obtain ⟨b, e1, _, q⟩ := r.own j d' w' e' hw
            rw [h1] at e1; cases e1
            refine .inr ⟨b, rfl, fun z => hn.1 ?_, q⟩
            subst z
            exact r.apart j i _ d' c w' o e' hw hi hne h1 hs
      · cases e
    · cases e
/-- .. by values -/
def rM (K : PySem.W.Frag) (m : MF) (A : Bool) : V → List V → Hp → VK → Prop := fun x vs H Q => ∃ O a c ds r c', x = .ref a ∧ (∀ b, O b → Mut (H b)) ∧ O a ∧ OwnAt K (cut H O) H a c ∧ (if A = true then DenL K (cut H O) ds vs else PkLN K O H a ds vs) ∧ m c ds = some (r, c') ∧
  ∀ v u, OwnAt K (cut H O) (upd H a u) a c' → Den K (cut H O) r v → Q v (upd H a u)
theorem mut_imp {K : PySem.W.Frag} {T : String} {i : Nat} {fl : OLF} {m : MF} {A : Bool} {σ : Sl} {H : Hp} {Q : VK} (hT : T = "list" ∨ T = "dict") (h : tE K (mutF T i fl m A) σ H Q) : tO K (varO i) σ H fun x H1 => tyV K T x H1 ∧ tOL K fl σ H1 fun xs H2 => rM K m A x xs H2 Q := by
  obtain ⟨O, fx, env, d, fr, env', r, e, q⟩ := h
  unfold mutF at e
  split at e
  · rename_i c0 o0 h0
    split at e
    · cases e
    · rename_i hc
      simp only [not_or, Decidable.not_not] at hc
      obtain ⟨hn0, hty⟩ := hc
      refine ⟨O, fx, env, .slot i, env, r, by simp [varO, h0], fun x H1 b1 hx => ?_⟩
      have hx : σ[i]? = some (some x) := hx
      obtain ⟨a, hs, hO, hw⟩ := b1.rel.own i c0 o0 h0 hn0
      rw [hx] at hs
      cases hs
      refine ⟨?_, ?_⟩
      · show (T = "list" ∧ _) ∨ _
        cases c0 with
        | list l =>
          obtain ⟨vs, hv, _⟩ := hw
          exact .inl ⟨hty.symm, vs, .inl (.inl hv)⟩
        | dict l =>
          obtain ⟨vs, hv, _⟩ := hw
          exact .inr (.inr (.inl ⟨hty.symm, .inl ⟨vs, hv⟩⟩))
        | _ => exact hw.elim
      · split at e
        · rename_i os e1 h1
          split at e
          · cases e
          · rename_i hA
            split at e
            · rename_i c o ds h2 h3
              split at e
              · cases e
              · rename_i hno
                split at e
                · rename_i r' c' h4
                  cases e
                  refine ⟨O, fx, env, os, e1, b1.rel, h1, fun vs H2 b2 a2 => ?_⟩
                  obtain ⟨a', hs2, hO2, hw2⟩ := b2.rel.own i c o h2 hno
                  rw [hx] at hs2
                  cases hs2
                  refine ⟨Oo O e1 σ, a, c, ds, d, c', rfl, fun b z => b2.rel.root_mut z, .inr ⟨i, c, o, h2, hno, hx⟩, hw2, ?_, h4, fun v u hu hv => ?_⟩
                  · split
                    · rename_i hA'
                      refine oAre_den b2.rel a2 h3 ?_
                      cases hp : (pkS e1 os).isEmpty with
                      | true => rfl
                      | false => exact absurd (.inl ⟨hA', hp⟩) hA
                    · rename_i hA'
                      refine pkLN_of b2.rel h2 hno hx ?_ a2 h3
                      cases hp : noSlot i os with
                      | true => rfl
                      | false => exact absurd (.inr ⟨by simpa using hA', hp⟩) hA
                  · have bm := b2.rel.mutate h2 hno hx hu
                    exact q v _ ⟨b1.trans (b2.trans bm), den_le (Le.of_same bm.same) hv⟩
                · cases e
            · cases e
        · cases e
  · cases e
section
variable {X : Cx}
theorem se_mut {T id : String} {name x : Str} {i : Nat} {fl : OLF} {m : MF} {A : Bool} {e : Expr} {es : List Expr} {xpos apos cpos : Pos} (hT : T = "list" ∨ T = "dict") (pa : PlainAttrs T) (slot : Slot T name id) (hty : typeOf (.builtin id) = pure (.type "method_descriptor")) (hm : MtR X id (rM X.K m A)) (ho : SO X (varO i) (.Name x xpos)) (ha : SOL X fl (e :: es))
    (hbase : attributeBase (.Name x xpos) name X.env (eval (.Name x xpos) X.env) = eval (.Name x xpos) X.env := by rfl)
    (hfew : ((backTo cpos (starEach (e :: es) X.env)).all (fun x => !x.1) && (backToKw cpos (keywordEach [] X.env)).all (fun x => x.1.isSome)
      && decide ((e :: es).length + ([] : List Keyword).length + (if ([] : List Keyword).isEmpty then 0 else 1) < 30)) = true := by rfl)
    (hline : (apos.endLine == cpos.line) = true := by rfl) (hs : starEach (e :: es) X.env = (false, eval e X.env) :: starEach es X.env := by rfl) (hplain : (backTo cpos (starEach es X.env)).any (·.1) = false := by rfl) :
    SE X (mutF T i fl m A) (.Call (.Attribute (.Name x xpos) name apos) (e :: es) [] cpos) := (pe_bm pa slot hty hm ho ha hbase hfew hline hs hplain).imp fun _ _ _ h => mut_imp hT h
theorem se_mut0 {T id : String} {name x : Str} {i : Nat} {m : MF} {A : Bool} {xpos apos cpos : Pos} (hT : T = "list" ∨ T = "dict") (pa : PlainAttrs T) (slot : Slot T name id) (hty : typeOf (.builtin id) = pure (.type "method_descriptor")) (hm : MtR X id (rM X.K m A)) (ho : SO X (varO i) (.Name x xpos))
    (hbase : attributeBase (.Name x xpos) name X.env (eval (.Name x xpos) X.env) = eval (.Name x xpos) X.env := by rfl) (hline : (apos.endLine == cpos.line) = true := by rfl) :
    SE X (mutF T i nilO m A) (.Call (.Attribute (.Name x xpos) name apos) [] [] cpos) := (pe_bm0 pa slot hty hm ho hbase hline).imp fun σ H Q h => tO_mono (mut_imp hT h) fun x H1 w => ⟨w.1, nilO_imp w.2⟩

/-! ### lists -/
def appendM : MF
  | .list xs, [y] => if xs.length < sizeLine then some (.none, .list (xs ++ [y])) else none
  | _, _ => none
theorem own_list {K : PySem.W.Frag} {B H : Hp} {a : Addr} {xs : List D} (h : OwnAt K B H a (.list xs)) : ∃ vs, H a = some (.lst vs) ∧ DenL K B xs vs := h
theorem mr_append : MtR X "list.append" (rM X.K appendM true) := by
  intro pins s σ H x xs v us Q I rx rs h
  obtain ⟨O, a, c, ds, r, c', rfl, m, hOa, hw, hd, e, q⟩ := h
  unfold appendM at e
  split at e
  · rename_i zs y
    split at e
    · rename_i hl
      cases e
      obtain ⟨vs, hv, hdv⟩ := own_list hw
      have hd : DenL X.K (cut H O) [y] xs := hd
      obtain ⟨w, r, rfl, h1, h2⟩ := hd
      cases h2
      exact mt_append pins s σ H _ _ v us Q I rx rs ⟨a, vs, w, rfl, rfl, hv, by rw [denL_length hdv]; exact hl, q _ _ ⟨_, upd_same, denL_append hdv ⟨w, [], rfl, h1, rfl⟩⟩ rfl⟩
    · cases e
  · cases e
def popM : MF
  | .list xs, [] => match xs[xs.length - 1]? with
    | some y => some (y, .list xs.dropLast)
    | none => none
  | .list xs, [.int i] => match ixN xs.length i with
    | some k => match xs[k]? with
      | some y => some (y, .list (xs.eraseIdx k))
      | none => none
    | none => none
  | _, _ => none
theorem denL_dropLast {K : PySem.W.Frag} {H : Hp} {ds : List D} {vs : List V} (h : DenL K H ds vs) : DenL K H ds.dropLast vs.dropLast := by
  rw [List.dropLast_eq_take, List.dropLast_eq_take, denL_length h]
  exact denL_take _ h
theorem denL_erase {K : PySem.W.Frag} {H : Hp} : ∀ (n : Nat) {ds : List D} {vs : List V}, DenL K H ds vs → DenL K H (ds.eraseIdx n) (vs.eraseIdx n)
  | _, [], _, h => by cases h; rfl
  | 0, _ :: _, _, h => by
    obtain ⟨v, r, rfl, _, h2⟩ := h
    exact h2
  | n + 1, _ :: _, _, h => by
    obtain ⟨v, r, rfl, h1, h2⟩ := h
    exact ⟨v, _, rfl, h1, denL_erase n h2⟩
theorem mr_pop : MtR X "list.pop" (rM X.K popM true) := by
  intro pins s σ H x xs v us Q I rx rs h
  obtain ⟨O, a, c, ds, r, c', rfl, m, hOa, hw, hd, e, q⟩ := h
  have hd : DenL X.K (cut H O) ds xs := hd
  unfold popM at e
  split at e
  · split at e
    · rename_i y h1
      cases e
      obtain ⟨vs, hv, hdv⟩ := own_list hw
      cases hd
      obtain ⟨w, h2, h3⟩ := denL_at hdv h1
      refine mt_pop pins s σ H _ _ v us Q I rx rs ⟨a, vs, w, rfl, rfl, hv, by rw [denL_length hdv]; exact h2, q _ _ ⟨_, upd_same, denL_dropLast hdv⟩ h3⟩
    · cases e
  · split at e
    · rename_i k h0
      split at e
      · rename_i y h1
        cases e
        obtain ⟨vs, hv, hdv⟩ := own_list hw
        obtain ⟨w, r, rfl, h2, h3⟩ := hd
        cases h3
        cases h2
        obtain ⟨w, h4, h5⟩ := denL_at hdv h1
        obtain ⟨g1, g2, g3, g4⟩ := ixN_seq h0
        have hz : vs.length ≤ sizeLine := (I.hok a _ hv).1
        rw [denL_length hdv] at hz
        have hl := line63
        exact mt_popAt pins s σ H _ _ v us Q I rx rs ⟨a, vs, _, k, w, rfl, rfl, hv, by omega, by omega, by rw [denL_length hdv]; exact g1, h4, q _ _ ⟨_, upd_same, denL_erase k hdv⟩ h5⟩
      · cases e
    · cases e
  · cases e
end
end PD

/-! PdJ: items put, x op= e, dicts: get, update, displays, dict(pairs). -/
namespace PD
open PySem PySem.Spec PyProof.Rows L2

/-! ### a dict with a pair more -/
def putP (kvs : List (D × D)) (k v : D) : List (D × D) := if (lookD kvs k).isSome then kvs.map (fun p => if keyEq p.1 k then (p.1, v) else p) else kvs ++ [(k, v)]
theorem denP_map {K : PySem.W.Frag} {H : Hp} {q : Key} {d : D} {v : V} (hd : Den K H d v) : ∀ {kvs : List (D × D)} {kv : List (Key × V)}, DenP K H kvs kv → DenP K H (kvs.map fun p => if keyEq p.1 (kD q) then (p.1, d) else p) (kv.map fun p => if p.1 = q then (p.1, v) else p)
  | [], _, h => by cases h; rfl
  | (a, e) :: r, _, h => by
    obtain ⟨k, w, t, rfl, rfl, h1, h2⟩ := h
    have ih := denP_map (q := q) hd h2
    simp only [List.map_cons, keyEq_kD]
    by_cases c : k = q
    · rw [decide_eq_true c, if_pos rfl, if_pos c]
      exact ⟨k, v, _, rfl, rfl, hd, ih⟩
    · rw [decide_eq_false c, if_neg Bool.false_ne_true, if_neg c]
      exact ⟨k, w, _, rfl, rfl, h1, ih⟩
theorem denP_app {K : PySem.W.Frag} {H : Hp} {q : Key} {d : D} {v : V} (hd : Den K H d v) : ∀ {kvs : List (D × D)} {kv : List (Key × V)}, DenP K H kvs kv → DenP K H (kvs ++ [(kD q, d)]) (kv ++ [(q, v)])
  | [], _, h => by cases h; exact ⟨q, v, [], rfl, rfl, hd, rfl⟩
  | (a, e) :: r, _, h => by
    obtain ⟨k, w, t, rfl, rfl, h1, h2⟩ := h
    exact ⟨k, w, _, rfl, rfl, h1, denP_app hd h2⟩
theorem denP_put {K : PySem.W.Frag} {H : Hp} {q : Key} {d : D} {v : V} {kvs : List (D × D)} {kv : List (Key × V)} (h : DenP K H kvs kv) (hd : Den K H d v) : DenP K H (putP kvs (kD q) d) (putK kv q v) := by
  unfold putP putK
  rw [← has_look q h, valV_any]
  split
  · exact denP_map hd h
  · exact denP_app hd h
def mergeP (kvs more : List (D × D)) : List (D × D) := more.foldl (fun acc p => putP acc p.1 p.2) kvs
theorem denP_merge {K : PySem.W.Frag} {H : Hp} : ∀ {more kvs : List (D × D)} {mv kv : List (Key × V)}, DenP K H kvs kv → DenP K H more mv → DenP K H (mergeP kvs more) (mergeK kv mv)
  | [], _, _, _, h, k => by cases k; exact h
  | (a, e) :: r, kvs, _, kv, h, k => by
    obtain ⟨q, w, t, rfl, rfl, h1, h2⟩ := k
    have z : DenP K H (putP kvs (kD q) e) (putK kv q w) := denP_put h h1
    exact denP_merge (more := r) (kvs := putP kvs (kD q) e) (kv := putK kv q w) z h2

/-! ### o[k] = v -/
def putD : D → D → D → Option D
  | .list xs, .int i, d => match ixN xs.length i with
    | some j => some (.list (xs.set j d))
    | none => none
  | .dict kvs, k, d => match keyD k with
    | some _ => if kvs.length < sizeLine then some (.dict (putP kvs k d)) else none
    | none => none
  | _, _, _ => none
theorem denL_set {K : PySem.W.Frag} {H : Hp} {d : D} {v : V} (hd : Den K H d v) : ∀ (n : Nat) {ds : List D} {vs : List V}, DenL K H ds vs → DenL K H (ds.set n d) (vs.set n v)
  | _, [], _, h => by cases h; rfl
  | 0, _ :: _, _, h => by
    obtain ⟨w, r, rfl, _, h2⟩ := h
    exact ⟨v, r, rfl, hd, h2⟩
  | n + 1, _ :: _, _, h => by
    obtain ⟨w, r, rfl, h1, h2⟩ := h
    exact ⟨w, _, rfl, h1, denL_set hd n h2⟩
def rSt (K : PySem.W.Frag) : TSet := fun x y v H Q => ∃ O a c k d c', x = .ref a ∧ OwnAt K (cut H O) H a c ∧ Pk K O H k y ∧ Den K (cut H O) d v ∧ putD c k d = some c' ∧ ∀ u, OwnAt K (cut H O) (upd H a u) a c' → Q (upd H a u)
theorem own_dict {K : PySem.W.Frag} {B H : Hp} {a : Addr} {xs : List (D × D)} (h : OwnAt K B H a (.dict xs)) : ∃ vs, H a = some (.dK vs) ∧ DenP K B xs vs := h
section
variable {X : Cx} {e : Expr} {pos : Pos}
theorem st_ok (hu : X.A.units + 64 < cLine) : PSet X (rSt X.K) := by
  intro pins s σ H o i v ov iv u Q I ro ri rv h
  obtain ⟨O, a, c, k, d, c', rfl, hw, hk, hd, e, q⟩ := h
  unfold putD at e
  split at e
  · split at e
    · rename_i h1
      cases e
      obtain ⟨vs, hv, hdv⟩ := own_list hw
      obtain rfl := pk_int hk
      exact set_list pins s σ H _ _ v ov iv u Q I ro ri rv ⟨a, vs, _, _, rfl, rfl, hv, by rw [denL_length hdv]; exact h1, q _ ⟨_, upd_same, denL_set hd _ hdv⟩⟩
    · cases e
  · split at e
    · rename_i h1
      split at e
      · rename_i hl
        cases e
        obtain ⟨vs, hv, hdv⟩ := own_dict hw
        obtain rfl := keyD_kD h1
        obtain rfl := kD_den hk
        cases ro
        exact d_setItem (by omega) I (.k hv (by rw [denP_length hdv]; exact hl)) ri rv fun s' I' => ⟨_, I', q _ ⟨_, upd_same, denP_put hdv hd⟩⟩
      · cases e
    · cases e
  · cases e
def subG (i : Nat) (fk : OF) : GF := fun d env => match env[i]? with
  | some (some (_, o0)) => if o0 = .sh then none else match fk env with
    | some (o, e1) => match e1[i]?, deref e1 o with
      | some (some (c, o')), some k => if o' = .sh then none else match putD c k d with
        | some c' => some (e1.set i (some (c', o')))
        | none => none
      | _, _ => none
    | none => none
  | _ => none
theorem sg_sub {i : Nat} {x : Str} {xpos : Pos} {k : Expr} {fk : OF} (hu : X.A.units + 64 < cLine) (ho : SO X (varO i) (.Name x xpos)) (hk : SO X fk k)
    (ha : ∀ v, assign (.Subscript (.Name x xpos) k pos) X.env v = (do
      let ov ← holding [v] (eval (.Name x xpos) X.env)
      let iv ← holding [v, ov] (eval k X.env)
      standAt pos
      holding [v, ov, iv] (setItem ov iv v)
      release [v, ov, iv] []) := by intro _; rfl) : SG X (subG i fk) [] (.Subscript (.Name x xpos) k pos) := (pg_sub ho hk (st_ok hu) ha).imp fun v σ H Q h => by
  obtain ⟨O, fx, env, d, env', r, hd, e, q⟩ := h
  unfold subG at e
  split at e
  · rename_i c0 o0 h0
    split at e
    · cases e
    · split at e
      · rename_i o e1 h1
        split at e
        · rename_i c o' k h2 h3
          split at e
          · cases e
          · rename_i hne
            split at e
            · rename_i c' h4
              cases e
              refine ⟨O, fx, env, .slot i, env, r, by simp [varO, h0], fun y H1 b1 hy => ⟨O, fx, env, o, e1, b1.rel, h1, fun z H2 b2 hz => ?_⟩⟩
              have hy : σ[i]? = some (some y) := hy
              obtain ⟨a, hs, hO, hw⟩ := b2.rel.own i c o' h2 hne
              rw [hy] at hs
              cases hs
              exact ⟨Oo O e1 σ, a, c, k, d, c', rfl, hw, pk_of b2.rel hz h3, den_le (Le.of_same (b1.same.trans b2.same)) hd, h4, fun u hu => q σ _ (b1.trans (b2.trans (b2.rel.mutate h2 hne hy hu))) ⟨rfl, fun _ _ => rfl⟩⟩
            · cases e
        · cases e
      · cases e
  · cases e

/-! ### o[k] op= e, x op= e -/
def gixD : G2
  | .list xs, .int i => match atI xs i with
    | some d => some (d, false)
    | none => none
  | .dict kvs, k => match keyD k with
    | some _ => match lookD kvs k with
      | some d => some (d, false)
      | none => none
    | none => none
  | _, _ => none
theorem get_list {pins : List (Addr × Obj)} {σ : Sl} {H : Hp} {s : Shared} {p : Addr} {vs : List V} {i : Int} {w : V} {ov iv : Value} {Q : VK} (I : Inv X pins σ H s) (ro : RelV (.ref p) ov) (ri : RelV (.int i) iv) (h1 : SqL X.K H p vs) (e2 : atI vs i = some w) (q : Q w H) : wpAny (model X.prog X.w) X.A (getItem ov iv) (EP X pins σ Q) X.xe s := by
  cases ro
  obtain ⟨t, rfl⟩ := ri
  obtain ⟨its, r, pl, hz⟩ := I.list h1
  obtain ⟨j, g1, g2, g3, g4, g5⟩ := atI_get e2
  obtain ⟨w', ew, rw'⟩ := r.get g2
  have hl := r.length
  have hn := line63
  have fin : EP X pins σ Q w' s := ⟨w, H, I, rw', q⟩
  by_cases h0 : 0 ≤ i
  · refine wpAny_getItem_list pl.isList h0 (by omega) ?_ fin
    rw [seqIndex_of h0 g5] at g1
    rw [Option.some.inj g1]
    simpa using ew
  · refine wpAny_getItem_list_neg pl.isList (by omega) (by simpa [← hl] using g4) (by omega) ?_ fin
    rw [seqIndex_neg (by omega) g4] at g1
    rw [List.size_toArray, ← hl, Option.some.inj g1]
    simpa using ew
theorem pget_ok (hu : X.A.units + 64 < cLine) : PGet X (rD2 X.K (g2 gixD)) := by
  intro pins s σ H o i ov iv Q I ro ri h
  obtain ⟨O, a, b, d, fr, m, p1, p2, e, q⟩ := rD2_elim h
  unfold gixD at e
  split at e
  · split at e
    · rename_i e1
      cases e
      obtain ⟨p, vs, rfl, h1, h2⟩ := pk_list p1
      obtain rfl := pk_int p2
      obtain ⟨w, e2, h3⟩ := atI_den h2 e1
      exact get_list I ro ri h1 e2 (q _ _ (np_den h3))
    · cases e
  · split at e
    · rename_i k e0
      split at e
      · rename_i e1
        cases e
        obtain rfl := keyD_kD e0
        obtain ⟨p, kv, rfl, h1, h2⟩ := pk_dict p1
        obtain rfl := kD_den p2
        have z := denP_look k h2
        rw [e1] at z
        obtain ⟨w, e2, h3⟩ := z
        cases ro
        have g : DGet H p (kV k) (some w) := .inl ⟨kv, k, h1, rfl, e2.symm⟩
        exact d_getItem (by omega) I g ri fun w' s3 I3 rw' => ⟨w, H, I3, rw', q _ _ (np_den h3)⟩
      · cases e
    · cases e
  · cases e
/-- ints -/
def iaddD : G2
  | .int a, .int b => some (.int (a + b), false)
  | _, _ => none
theorem pip_add : PIp X .Add (rD2 X.K (g2 iaddD)) := by
  intro pins s σ H x y v u Q I r1 r2 h
  obtain ⟨O, a, b, d, fr, m, p1, p2, e, q⟩ := rD2_elim h
  unfold iaddD at e
  split at e
  · cases e
    obtain rfl := pk_int p1
    obtain rfl := pk_int p2
    exact ip_add pins s σ H _ _ v u Q I r1 r2 ⟨_, _, rfl, rfl, q _ _ (np_val fun _ => rfl)⟩
  · cases e
theorem pip_sub : PIp X .Sub (rD2 X.K (g2 subD)) := by
  intro pins s σ H x y v u Q I r1 r2 h
  obtain ⟨O, a, b, d, fr, m, p1, p2, e, q⟩ := rD2_elim h
  unfold subD at e
  split at e
  · cases e
    obtain rfl := pk_int p1
    obtain rfl := pk_int p2
    exact ip_sub pins s σ H _ _ v u Q I r1 r2 ⟨_, _, rfl, rfl, q _ _ (np_val fun _ => rfl)⟩
  · cases e
/-- x op= e of a number -/
def intOnly (g : G2) : Prop := ∀ a b d fr, g a b = some (d, fr) → ∃ i, d = .int i ∧ fr = false
theorem io_add : intOnly iaddD := fun a b d fr h => by
  unfold iaddD at h
  split at h <;> cases h
  exact ⟨_, rfl, rfl⟩
theorem io_sub : intOnly subD := fun a b d fr h => by
  unfold subD at h
  split at h <;> cases h
  exact ⟨_, rfl, rfl⟩
def augF (i : Nat) (f : OF) (g : G2) : SF := fun env => match env[i]? with
  | some (some (c, .sh)) => match f env with
    | some (o, e1) => match deref e1 o with
      | some y => match g c y with
        | some (z, _) => match setv i z false e1 with
          | some e2 => some (.nx, e2)
          | none => none
        | none => none
      | none => none
    | none => none
  | _ => none
theorem aug_imp {K : PySem.W.Frag} {i : Nat} {f : OF} {g : G2} {E : Ends} {σ : Sl} {H : Hp} (hg : intOnly g) (h : tS K (augF i f g) E σ H) : tAug i (tO K f) (rD2 K (g2 g)) E σ H := by
  obtain ⟨O, fx, env, out, env', r, e, q⟩ := h
  unfold augF at e
  split at e
  · rename_i c h0
    split at e
    · rename_i o e1 h1
      split at e
      · rename_i y h2
        split at e
        · rename_i z fr h3
          split at e
          · rename_i e2 h4
            cases e
            obtain ⟨x, hx, hd⟩ := r.val i c h0
            refine ⟨x, hx, O, fx, env, o, e1, r, h1, fun v H1 b1 hv => ?_⟩
            obtain ⟨j, rfl, rfl⟩ := hg _ _ _ _ h3
            exact ⟨Oo O e1 σ, [c, y], .int j, false, fun a z => b1.rel.root_mut z, ⟨x, [v], rfl, .inl (den_le (Le.of_same b1.same) hd), v, [], rfl, pk_of b1.rel hv h2, rfl⟩, h3, fun w H2 n => q _ _ (setv_ok (fr := false) (bh_epost b1 (n.epost b1.rel)) h4)⟩
          · cases e
        · cases e
      · cases e
    · cases e
  · cases e
theorem ss_aug {op : Operator} {i : Nat} {x : Str} {f : OF} {g : G2} {pos' : Pos} (hN : X.N.Nodup) (hi : X.N[i]? = some x) (hx : Loc X.env.scope x) (he : SO X f e) (hp : PIp X op (rD2 X.K (g2 g))) (hg : intOnly g) (hf : X.fn x = true ∨ X.env.scope.names.lookup x = some .local := by first | exact .inl rfl | exact .inr rfl | assumption) :
    SS X (augF i f g) (.AugAssign (.Name x pos') op e pos) := (ps_aug hN hi hx he hp hf).imp fun _ _ _ h => aug_imp hg h
def augS (i : Nat) (fk : OF) (f : OF) (g : G2) : SF := fun env => match env[i]? with
  | some (some (_, o0)) => if o0 = .sh then none else match fk env with
    | some (ok, e1) => match e1[i]?, deref e1 ok with
      | some (some (c1, _)), some k1 => match gixD c1 k1 with
        | some (x, _) => match f e1 with
          | some (o, e2) => match deref e2 o, e2[i]?, deref e2 ok with
            | some y, some (some (c2, o2)), some k2 => if o2 = .sh then none else match g x y with
              | some (z, _) => match putD c2 k2 z with
                | some c3 => some (.nx, e2.set i (some (c3, o2)))
                | none => none
              | none => none
            | _, _, _ => none
          | none => none
        | none => none
      | _, _ => none
    | none => none
  | _ => none
theorem augS_imp {K : PySem.W.Frag} {i : Nat} {fk f : OF} {g : G2} {E : Ends} {σ : Sl} {H : Hp} (hg : intOnly g) (h : tS K (augS i fk f g) E σ H) : tAugS (tO K (varO i)) (tO K fk) (tO K f) (rD2 K (g2 gixD)) (rD2 K (g2 g)) (rSt K) E σ H := by
  obtain ⟨O, fx, env, out, env', r, e, q⟩ := h
  unfold augS at e
  split at e
  · rename_i c0 o0 h0
    split at e
    · cases e
    · split at e
      · rename_i ok e1 h1
        split at e
        · rename_i c1 o1 k1 h2 h3
          split at e
          · rename_i x fr0 h4
            split at e
            · rename_i o e2 h5
              split at e
              · rename_i y c2 o2 k2 h6 h7 h8
                split at e
                · cases e
                · rename_i hne
                  split at e
                  · rename_i z fr1 h9
                    split at e
                    · rename_i c3 h10
                      cases e
                      refine ⟨O, fx, env, .slot i, env, r, by simp [varO, h0], fun vo H1 b1 ho => ⟨O, fx, env, ok, e1, b1.rel, h1, fun vk H2 b2 hk => ?_⟩⟩
                      have ho : σ[i]? = some (some vo) := ho
                      refine ⟨Oo O e1 σ, [c1, k1], x, fr0, fun a z => b2.rel.root_mut z, ⟨vo, [vk], rfl, pk_of (o := .slot i) b2.rel ho (by simp [deref, h2]), vk, [], rfl, pk_of b2.rel hk h3, rfl⟩, h4, fun vx H3 n3 => ?_⟩
                      have hfr : fr0 = false := by
                        unfold gixD at h4
                        split at h4
                        · split at h4 <;> cases h4; rfl
                        · split at h4
                          · split at h4 <;> cases h4; rfl
                          · cases h4
                        · cases h4
                      subst hfr
                      have p3 := n3.epost b2.rel
                      obtain ⟨b3, dx⟩ := p3
                      refine ⟨O, fx, e1, o, e2, b3.rel, h5, fun vy H4 b4 hy => ?_⟩
                      obtain ⟨j, rfl, rfl⟩ := hg _ _ _ _ h9
                      refine ⟨Oo O e2 σ, [x, y], .int j, false, fun a z => b4.rel.root_mut z, ⟨vx, [vy], rfl, .inl (den_le (Le.of_same b4.same) dx), vy, [], rfl, pk_of b4.rel hy h6, rfl⟩, h9, fun vz H5 n5 => ?_⟩
                      obtain ⟨b5, dz⟩ := n5.epost b4.rel
                      obtain ⟨a, hs, hO, hw⟩ := b5.rel.own i c2 o2 h7 hne
                      rw [ho] at hs
                      cases hs
                      have b25 := b3.trans (b4.trans b5)
                      exact ⟨Oo O e2 σ, a, c2, k2, .int j, c3, rfl, hw, pk_of b5.rel (OIs.le b25.same hk) h8, dz, h10, fun u hu => q σ _ (b1.trans (b2.trans (b25.trans (b5.rel.mutate h7 hne ho hu))))⟩
                    · cases e
                  · cases e
              · cases e
            · cases e
          · cases e
        · cases e
      · cases e
  · cases e
theorem ss_augS {op : Operator} {i : Nat} {x : Str} {xpos tpos : Pos} {k : Expr} {fk f : OF} {g : G2} (hu : X.A.units + 64 < cLine) (ho : SO X (varO i) (.Name x xpos)) (hk : SO X fk k) (he : SO X f e) (hp : PIp X op (rD2 X.K (g2 g))) (hg : intOnly g)
    (ha : ∀ ov iv new, augStore k ov iv new = (do holding [new, ov, iv] (setItem ov iv new); release [new, ov, iv] []; pure .next) := by intros; rfl) : SS X (augS i fk f g) (.AugAssign (.Subscript (.Name x xpos) k tpos) op e pos) := (ps_augS ho hk (pget_ok hu) he hp (st_ok hu) ha).imp fun _ _ _ h => augS_imp hg h
end
end PD

/-! PdK: dicts: get, update, displays, dict(pairs), empty or not; range; isinstance. -/
namespace PD
open PySem PySem.Spec PyProof.Rows L2

/-! ### d.get(k, z) -/
def getE (fo fk : OF) (fz : EF) : EF := fun env => match fo env with
  | some (o, e1) => match deref e1 o with
    | some (.dict _) => match fk e1 with
      | some (ok, e2) => match fz e2 with
        | some (z, _, e3) => match deref e3 o, deref e3 ok with
          | some (.dict kvs), some k => match keyD k with
            | some _ => some ((lookD kvs k).getD z, false, e3)
            | none => none
          | _, _ => none
        | none => none
      | none => none
    | _ => none
  | none => none
theorem get_den {K : PySem.W.Frag} {B : Hp} (q : Key) {kvs : List (D × D)} {kv : List (Key × V)} {z : D} {w : V} (h : DenP K B kvs kv) (hz : Den K B z w) : Den K B ((lookD kvs (kD q)).getD z) ((valV kv q).getD w) := by
  have y := denP_look q h
  split at y
  · rename_i d e1
    obtain ⟨v, e2, h2⟩ := y
    rw [e1, e2]
    exact h2
  · rename_i e1
    rw [e1, y]
    exact hz
theorem getE_imp {K : PySem.W.Frag} {fo fk : OF} {fz : EF} {σ : Sl} {H : Hp} {Q : VK} (h : tE K (getE fo fk fz) σ H Q) : tDGet2 (tO K fo) (tO K fk) (tE K fz) σ H Q := by
  obtain ⟨O, fx, env, d, fr, env', r, e, q⟩ := h
  unfold getE at e
  split at e
  · rename_i o e1 h1
    split at e
    · rename_i kv0 h2
      split at e
      · rename_i ok e2 h3
        split at e
        · rename_i z frz e3 h4
          split at e
          · rename_i kvs k h5 h6
            split at e
            · rename_i key h7
              cases e
              refine ⟨O, fx, env, o, e1, r, h1, fun x H1 b1 o1 => ?_⟩
              obtain ⟨a, m0, rfl, rd0, _⟩ := pk_dict (pk_of b1.rel o1 h2)
              refine ⟨a, rfl, .inl ⟨_, rd0⟩, O, fx, e1, ok, e2, b1.rel, h3, fun y H2 b2 o2 => ⟨O, fx, e2, z, frz, env', b2.rel, h4, fun w H3 p3 => ?_⟩⟩
              obtain ⟨b3, dz⟩ := p3.weak
              obtain ⟨a', m, ea, rd, hd⟩ := pk_dict (pk_of b3.rel (OIs.le (b2.same.trans b3.same) o1) h5)
              cases ea
              obtain rfl := keyD_kD h7
              obtain rfl := kD_den (pk_of b3.rel (OIs.le b3.same o2) h6)
              exact ⟨valV m key, .inl ⟨m, key, rd, rfl, rfl⟩, q _ _ ⟨b1.trans (b2.trans b3), get_den key hd dz⟩⟩
            · cases e
          · cases e
        · cases e
      · cases e
    · cases e
  · cases e
section
variable {X : Cx} {pos apos cpos : Pos}
theorem se_get {o e f : Expr} {fo fk : OF} {fz : EF} (hu : X.A.units + 64 < cLine) (ho : SO X fo o) (he : SO X fk e) (hf : SE X fz f) (m : M2 X o "get" apos e f cpos := by exact ⟨by rfl, by rfl, by rfl, by rfl⟩) : SE X (getE fo fk fz) (.Call (.Attribute o "get" apos) [e, f] [] cpos) :=
  (pe_dget2 (by omega) ho he hf m).imp fun _ _ _ h => getE_imp h

/-! ### d.update(e) -/
def updateM : MF
  | .dict kvs, [.dict more] => if kvs.length + more.length ≤ sizeLine then some (.none, .dict (mergeP kvs more)) else none
  | _, _ => none
theorem mr_update : MtR X "dict.update" (rM X.K updateM false) := by
  intro pins s σ H x xs v us Q I rx rs h
  obtain ⟨O, a, c, ds, r, c', rfl, m, hOa, hw, hd, e, q⟩ := h
  unfold updateM at e
  split at e
  · rename_i kvs more
    split at e
    · rename_i hl
      cases e
      obtain ⟨vs, hv, hdv⟩ := own_dict hw
      have hd : PkLN X.K O H a [.dict more] xs := hd
      obtain ⟨w, r, rfl, h1, h2⟩ := hd
      cases h2
      obtain ⟨b, ws, rfl, hab, h3, h4⟩ : ∃ b ws, w = .ref b ∧ a ≠ b ∧ Rd H b (.dK ws) ∧ DenP X.K (cut H O) more ws := by
        rcases h1 with ⟨b, ws, e1, g1, g2⟩ | ⟨b, e1, nb, ws, g1, g2⟩
        · exact ⟨b, ws, e1, fun z => (cut_rd.mp g1).1 (z ▸ hOa), (cut_rd.mp g1).2, g2⟩
        · exact ⟨b, ws, e1, fun z => nb z.symm, .inl g1, g2⟩
      obtain ⟨u, rfl, ru⟩ := vals1 rs
      cases rx
      cases ru
      obtain ⟨z1, s1, as, ra, da⟩ := dk_of I.hok hv
      obtain ⟨z2, s2, bs, rb, db⟩ := dk_rd I.hok h3
      have hz : (mergeK vs ws).length ≤ sizeLine := by
        have := length_mergeK ws vs
        rw [denP_length hdv, denP_length h4] at this
        omega
      refine call_meetsIn PySem.F.slot_dict_update da.typeIs PySem.F.entry_dict_update (PySem.F.args_dict_update_2 _ _) (meets_dict_update (mixKind X.prog X.w) a b hab s2) ⟨as, bs, da, db, by rw [← KV.length ra, ← KV.length rb, denP_length hdv, denP_length h4]; exact hl, fun h' d1 d2 sb => ?_⟩
      have he : ∃ y, h'.get? a = some y := by
        obtain ⟨y, _, _, hy, _⟩ := d1
        exact ⟨y, hy⟩
      exact ⟨.non, _, d_write (t' := s.toks) I (by rw [hv]; trivial) sb he (dk_new hz s1 (KV.merge rb ra) d1), rfl, q _ _ ⟨_, upd_same, denP_merge hdv h4⟩ rfl⟩
    · cases e
  · cases e

/-! ### {..} -/
def newDF : EF := fun env => some (.dict [], true, env)
theorem np_dict {K : PySem.W.Frag} {O : Addr → Prop} {H : Hp} {p : Addr} {ds : List (D × D)} {vs : List (Key × V)} (h : H p = none) (hd : DenP K (cut H O) ds vs) : NPost K O H (.dict ds) true (.ref p) (upd H p (.dK vs)) :=
  ⟨same_new' h, p, rfl, h, vs, upd_same, denP_le (Le.of_same (cut_same (same_new' h) fun a na z => z.elim id fun e => absurd (e ▸ h) na)) hd⟩
theorem se_new : SE X newDF (.Dict [] [] pos) := pe_dnewK.imp fun σ H Q h => by
  obtain ⟨O, fx, env, d, fr, env', r, e, q⟩ := h
  cases e
  exact fun p hp => q _ _ ((np_dict (ds := []) (vs := []) hp rfl).epost r)
def dispL : List (EF × EF) → Ev → Option (List (D × D) × Ev)
  | [], env => some ([], env)
  | (fk, fv) :: r, env => match fk env with
    | some (k, _, e1) => match keyD k with
      | some _ => match fv e1 with
        | some (v, _, e2) => match dispL r e2 with
          | some (ps, e3) => some ((k, v) :: ps, e3)
          | none => none
        | none => none
      | none => none
    | none => none
def dispF (l : List (EF × EF)) : EF := fun env => if l.length ≤ 15 then match dispL l env with
    | some (ps, e1) => some (.dict (mergeP [] ps), true, e1)
    | none => none
  else none
structure SPs (X : Cx) (pos : Pos) (keys : List (Option Expr)) (values : List Expr) (l : List (EF × EF)) : Prop where
  ps : PPs X pos keys values (l.map fun p => (tE X.K p.1, tE X.K p.2))
theorem sps_nil : SPs X pos [] [] [] := ⟨pps_nil⟩
theorem sps_cons {k v : Expr} {ks : List (Option Expr)} {vs : List Expr} {fk fv : EF} {l : List (EF × EF)} (hk : SE X fk k) (hv : SE X fv v) (hr : SPs X pos ks vs l) : SPs X pos (some k :: ks) (v :: vs) ((fk, fv) :: l) := ⟨pps_cons hk hv hr.ps⟩
theorem disp_walk {K : PySem.W.Frag} {O : Addr → Prop} {fx : Nat → Option Addr} {σ : Sl} : ∀ {l : List (EF × EF)} {env e1 : Ev} {H : Hp} {ps : List (D × D)} {Q : List (V × V) → Hp → Prop}, R K O fx env σ H → dispL l env = some (ps, e1) →
    (∀ (kvs : List (Key × V)) H', Bh K O fx env σ H e1 H' → DenP K (Pb O e1 σ H') ps kvs → kvs.length = l.length → Q (kvs.map fun kv => (kV kv.1, kv.2)) H') → tPairs (l.map fun p => (tE K p.1, tE K p.2)) σ H Q
  | [], env, e1, H, ps, Q, r, e, q => by
    cases e
    exact q [] H (Bh.refl r) rfl rfl
  | (fk, fv) :: l, env, e1, H, ps, Q, r, e, q => by
    simp only [dispL] at e
    split at e
    · rename_i k fr1 e2 h1
      split at e
      · rename_i key h2
        split at e
        · rename_i v fr2 e3 h3
          split at e
          · rename_i ps' e4 h4
            cases e
            refine ⟨O, fx, env, k, fr1, e2, r, h1, fun x H1 p1 => ?_⟩
            obtain ⟨b1, d1⟩ := p1.weak
            obtain rfl := keyD_kD h2
            refine ⟨O, fx, e2, v, fr2, e3, b1.rel, h3, fun y H2 p2 => ?_⟩
            obtain ⟨b2, d2⟩ := p2.weak
            refine disp_walk b2.rel h4 fun kvs H3 b3 d3 hl => ?_
            have hx : x = kV key := by
              cases key with
              | inl i => exact d1
              | inr i => exact d1
            subst hx
            exact q ((key, y) :: kvs) H3 (b1.trans (b2.trans b3)) ⟨key, y, kvs, rfl, rfl, den_le (Le.of_same b3.same) d2, d3⟩ (by simp [hl])
          · cases e
        · cases e
      · cases e
    · cases e
theorem disp_imp {K : PySem.W.Frag} {l : List (EF × EF)} {σ : Sl} {H : Hp} {Q : VK} (h : tE K (dispF l) σ H Q) : tDisp (l.map fun p => (tE K p.1, tE K p.2)) σ H Q := by
  obtain ⟨O, fx, env, d, fr, env', r, e, q⟩ := h
  unfold dispF at e
  split at e
  · rename_i hl
    split at e
    · rename_i ps e1 h1
      cases e
      intro p hp
      obtain ⟨a, ea, f⟩ := (np_dict (K := K) (O := Oo O env σ) (ds := []) (vs := []) hp rfl).epost r
      cases ea
      refine disp_walk f.rel h1 fun kvs H2 b hd hk => ?_
      have hp2 : H2 p = some (.dK []) := (b.outer p (.inr rfl)).trans upd_same
      refine ⟨hp2, kvs, rfl, by omega, q _ _ ⟨p, rfl, f.new, push_ok b.rel, ?_, fun c z => ?_, ?_⟩⟩
      · rw [push_pb]
        exact f.same.trans b.same
      · have nc : c ≠ p := fun z' => f.new (z' ▸ z)
        rw [upd_ne nc]
        exact (b.outer c (.inl z)).trans (f.outer c z)
      · refine ⟨_, upd_same, ?_⟩
        rw [push_pb]
        exact denP_merge (kvs := []) (kv := []) rfl hd
    · cases e
  · cases e
theorem se_disp {keys : List (Option Expr)} {values : List Expr} {l : List (EF × EF)} (h : SPs X pos keys values l) (hall : keys.all (·.isSome) = true := by rfl) (hl : keys.length = values.length := by rfl) (h0 : keys ≠ [] := by exact fun h => nomatch h)
    (h15 : keys.length ≤ 15 := by decide) : SE X (dispF l) (.Dict keys values pos) := (pe_disp h.ps hall hl h0 h15).imp fun _ _ _ h => disp_imp h

/-! ### dict(pairs) -/
def pairsD : List D → Option (List (D × D))
  | [] => some []
  | .tuple [k, v] :: r => match keyD k with
    | some _ => match pairsD r with
      | some ps => some ((k, v) :: ps)
      | none => none
    | none => none
  | _ => none
def dictD : G1
  | .list xs => match pairsD xs with
    | some ps => some (.dict (mergeP [] ps), true)
    | none => none
  | _ => none
theorem pairs_den {K : PySem.W.Frag} {H : Hp} {O : Addr → Prop} : ∀ {xs : List D} {vs : List V} {ps : List (D × D)}, pairsD xs = some ps → DenL K (cut H O) xs vs → ∃ (as : List Addr) (kvs : List (Key × V)), vs = as.map V.ref ∧ Paired (fun p kv => SqT K H p [kV kv.1, kv.2]) as kvs ∧ DenP K (cut H O) ps kvs
  | [], _, _, e, h => by
    cases e; cases h
    exact ⟨[], [], rfl, .nil, rfl⟩
  | x :: r, _, _, e, h => by
    unfold pairsD at e
    split at e
    · rename_i heq; cases heq
    · rename_i k v r' heq
      cases heq
      split at e
      · rename_i key h1
        split at e
        · rename_i ps' h2
          cases e
          obtain ⟨w, t, rfl, h3, h4⟩ := h
          obtain ⟨as, kvs, rfl, h5, h6⟩ := pairs_den h2 h4
          obtain ⟨a, us, rfl, h7, h8⟩ := h3
          obtain ⟨u1, t1, rfl, g1, g2⟩ := h8
          obtain ⟨u2, t2, rfl, g3, g4⟩ := g2
          cases g4
          obtain rfl := keyD_kD h1
          have hu1 : u1 = kV key := by
            cases key with
            | inl i => exact g1
            | inr i => exact g1
          subst hu1
          exact ⟨a :: as, (key, u2) :: kvs, rfl, .cons (sqT_le cut_le h7) h5, key, u2, kvs, rfl, rfl, g3, h6⟩
        · cases e
      · cases e
    · cases e
theorem cr_dict (hc : X.calm = true) : CallR X (.type "dict") (rD X.K (g1 dictD)) := by
  intro pins s σ H xs us Q I r h
  obtain ⟨x, rfl, h⟩ := rD_one h
  obtain ⟨O, a, d, fr, m, p1, e, q⟩ := rD1_elim h
  unfold dictD at e
  split at e
  · split at e
    · rename_i ps h1
      cases e
      obtain ⟨p, vs, rfl, h2, h3⟩ := pk_list p1
      obtain ⟨as, kvs, rfl, h4, h5⟩ := pairs_den h1 h3
      exact call_dictP hc pins s σ H _ us Q I r ⟨p, as, kvs, rfl, h2, h4, fun l hl => q _ _ (np_dict hl (denP_merge (kvs := []) (kv := []) rfl h5))⟩
    · cases e
  · cases e

/-! ### d == {}, d != {} -/
def neDict : G2
  | .dict ks, .dict ls => if ks.isEmpty || ls.isEmpty then some (.bool (!(ks.length == ls.length)), false) else none
  | _, _ => none
def eqDict : G2
  | .dict ks, .dict ls => if ks.isEmpty || ls.isEmpty then some (.bool (ks.length == ls.length), false) else none
  | _, _ => none
theorem dict_core {pins : List (Addr × Obj)} {σ : Sl} {H : Hp} {s : Shared} {O : Addr → Prop} {ks ls : List (D × D)} {x y : V} {v u : Value} (hu : X.A.units + 64 < cLine) (I : Inv X pins σ H s) (rx : RelV x v) (ry : RelV y u) (p1 : Pk X.K O H (.dict ks) x) (p2 : Pk X.K O H (.dict ls) y) (c : (ks.isEmpty || ls.isEmpty) = true) :
    (∀ Q : VK, Q (.bl (ks.length == ls.length)) H → wpAny (model X.prog X.w) X.A (compareOp .Eq v u) (EP X pins σ Q) X.xe s) ∧ ∀ Q : VK, Q (.bl (!(ks.length == ls.length))) H → wpAny (model X.prog X.w) X.A (compareOp .NotEq v u) (EP X pins σ Q) X.xe s := by
  obtain ⟨a, va, rfl, h1, h2⟩ := pk_dict p1
  obtain ⟨b, vb, rfl, h3, h4⟩ := pk_dict p2
  cases rx
  cases ry
  obtain ⟨z1, s1, as, ra, da⟩ := dk_rd I.hok h1
  obtain ⟨z2, s2, bs, rb, db⟩ := dk_rd I.hok h3
  have l1 : as.length = ks.length := by rw [← KV.length ra, denP_length h2]
  have l2 : bs.length = ls.length := by rw [← KV.length rb, denP_length h4]
  have emp : as.length = bs.length → as = [] := fun e => by
    rw [l1, l2] at e
    simp only [Bool.or_eq_true, List.isEmpty_iff] at c
    refine List.length_eq_zero_iff.mp ?_
    rw [l1]
    rcases c with c | c
    · rw [c]; rfl
    · rw [e, c]; rfl
  refine ⟨fun Q q => PySem.W.keq_eq (knd := mixKind X.prog X.w) (r := true) s1 s2 da db (by omega) (fun e => by rw [emp e]; exact .nil) ⟨.bl _, H, I, rfl, ?_⟩, fun Q q => PySem.W.keq_ne (knd := mixKind X.prog X.w) (r := true) s1 s2 da db (by omega) (fun e => by rw [emp e]; exact .nil) ⟨.bl _, H, I, rfl, ?_⟩⟩
  · rw [Bool.and_true, l1, l2]; exact q
  · rw [Bool.and_true, l1, l2]; exact q
theorem or_neDict (hu : X.A.units + 64 < cLine) : OpR X (compareOp .NotEq) (rD2 X.K (g2 neDict)) := by
  intro pins s σ H x y v u Q I rx ry h
  obtain ⟨O, a, b, d, fr, m, p1, p2, e, q⟩ := rD2_elim h
  unfold neDict at e
  split at e
  · split at e
    · rename_i c
      cases e
      exact (dict_core hu I rx ry p1 p2 c).2 Q (q _ _ (np_val fun _ => rfl))
    · cases e
  · cases e
theorem or_eqDict (hu : X.A.units + 64 < cLine) : OpR X (compareOp .Eq) (rD2 X.K (g2 eqDict)) := by
  intro pins s σ H x y v u Q I rx ry h
  obtain ⟨O, a, b, d, fr, m, p1, p2, e, q⟩ := rD2_elim h
  unfold eqDict at e
  split at e
  · split at e
    · rename_i c
      cases e
      exact (dict_core hu I rx ry p1 p2 c).1 Q (q _ _ (np_val fun _ => rfl))
    · cases e
  · cases e

/-! ### range -/
def rngL (lo : Int) (n : Nat) : List D := (List.range n).map fun (i : Nat) => .int (lo + (i : Int))
theorem jok_rng {K : PySem.W.Frag} {B : Hp} {lo : Int} {n : Nat} : JOk K B (Itr lo n) (rngL lo n) := by
  have hl : (rngL lo n).length = n := by simp [rngL]
  refine ⟨fun i H hi _ => by rw [hl] at hi; exact hi, fun i H hi _ => by rw [hl] at hi; exact hi, fun i H d x H' _ e y => ?_⟩
  obtain ⟨rfl, rfl⟩ := y
  refine ⟨Same.refl _, fun O _ _ => ?_⟩
  simp only [rngL, List.getElem?_map, Option.map_eq_some_iff] at e
  obtain ⟨j, h1, rfl⟩ := e
  obtain ⟨_, h2⟩ := List.getElem?_eq_some_iff.mp h1
  rw [List.getElem_range] at h2
  rw [← h2]
  rfl
def rngI (fl : OLF) : IF := fun env => match fl env with
  | some (os, e1) => match derefs e1 os with
    | some [.int j] => if -(2 ^ 62) ≤ j ∧ j < 2 ^ 62 then some (rngL 0 j.toNat, e1) else none
    | some [.int i, .int j] => if -(2 ^ 62) ≤ i ∧ i < 2 ^ 62 ∧ -(2 ^ 62) ≤ j ∧ j < 2 ^ 62 then some (rngL i (j - i).toNat, e1) else none
    | _ => none
  | none => none
theorem rng_one {K : PySem.W.Frag} {f : OF} {σ : Sl} {H : Hp} {Q : It → Hp → Prop} (h : tI K (rngI (consO f nilO)) σ H Q) : iRng1 (tOL K (consO f nilO)) σ H Q := by
  obtain ⟨O, fx, env, ds, env', r, e, q⟩ := h
  unfold rngI at e
  split at e
  · rename_i os e1 h1
    split at e
    · rename_i j h2
      split at e
      · rename_i c
        cases e
        refine ⟨O, fx, env, os, _, r, h1, fun vs H1 b a => ?_⟩
        obtain ⟨v, t, rfl, p1, p2⟩ := pkL_of b.rel a h2
        cases p2
        obtain rfl := pk_int p1
        exact ⟨j, rfl, c.1, c.2, q _ _ b jok_rng⟩
      · cases e
    · rename_i i j h2
      exfalso
      unfold consO nilO at h1
      split at h1
      · cases h1
        have := derefs_length h2
        simp at this
      · cases h1
    · cases e
  · cases e
theorem rng_two {K : PySem.W.Frag} {f f2 : OF} {σ : Sl} {H : Hp} {Q : It → Hp → Prop} (h : tI K (rngI (consO f (consO f2 nilO))) σ H Q) : iRng2 (tOL K (consO f (consO f2 nilO))) σ H Q := by
  obtain ⟨O, fx, env, ds, env', r, e, q⟩ := h
  unfold rngI at e
  split at e
  · rename_i os e1 h1
    split at e
    · rename_i j h2
      exfalso
      have hl := derefs_length h2
      have := len_cons (f := f) (len_cons (f := f2) len_nil) os ⟨_, _, h1⟩
      rw [this] at hl
      simp at hl
    · rename_i i j h2
      split at e
      · rename_i c
        cases e
        refine ⟨O, fx, env, os, _, r, h1, fun vs H1 b a => ?_⟩
        obtain ⟨v, t, rfl, p1, p2⟩ := pkL_of b.rel a h2
        obtain ⟨v', t', rfl, p3, p4⟩ := p2
        cases p4
        obtain rfl := pk_int p1
        obtain rfl := pk_int p3
        exact ⟨i, j, rfl, c, q _ _ b jok_rng⟩
      · cases e
    · cases e
  · cases e
theorem si_rng1 {tg a : Expr} {f : OF} {p pos : Pos} (hg : Gl X "range") (hm : X.mg "range" = none) (ha : SOL X (consO f nilO) [a]) (hs : starEach [a] X.env = [(false, eval a X.env)] := by rfl) : SI X (rngI (consO f nilO)) tg (.Call (.Name "range" p) [a] [] pos) := (pi_range1 hg hm ha hs).imp fun _ _ _ h => rng_one h
theorem si_rng2 {tg a b : Expr} {f f2 : OF} {p pos : Pos} (hg : Gl X "range") (hm : X.mg "range" = none) (ha : SOL X (consO f (consO f2 nilO)) [a, b]) (hs : starEach [a, b] X.env = [(false, eval a X.env), (false, eval b X.env)] := by rfl) (hs2 : starEach [b] X.env = [(false, eval b X.env)] := by rfl) : SI X (rngI (consO f (consO f2 nilO))) tg (.Call (.Name "range" p) [a, b] [] pos) := (pi_range2 hg hm ha hs hs2).imp fun _ _ _ h => rng_two h
end
end PD

/-! PdL: sorted texts, x[::-1], isinstance, written constants, a, b = x, y. -/
namespace PD
open PySem PySem.Spec PyProof.Rows L2

/-! ### texts in order -/
def insS (x : Str) : List Str → List Str
  | [] => [x]
  | y :: r => if ltCps y.cps.toList x.cps.toList then y :: insS x r else x :: y :: r
def sortS : List Str → List Str
  | [] => []
  | x :: r => insS x (sortS r)
abbrev leS (a b : Str) : Prop := ltCps b.cps.toList a.cps.toList = false
theorem leS_iff {a b : Str} : leS a b ↔ a.cps.toList ≤ b.cps.toList := by
  unfold leS
  rw [ltCps_eq]
  simp
theorem leS_trans {a b c : Str} (h : leS a b) (k : leS b c) : leS a c := leS_iff.mpr (List.le_trans (leS_iff.mp h) (leS_iff.mp k))
theorem leS_anti {a b : Str} (h : leS a b) (k : leS b a) : a = b := by
  have e : a.cps.toList = b.cps.toList := List.le_antisymm (leS_iff.mp h) (leS_iff.mp k)
  obtain ⟨⟨l⟩⟩ := a
  obtain ⟨⟨m⟩⟩ := b
  have e : l = m := e
  rw [e]
theorem leS_total (a b : Str) : leS a b ∨ leS b a := by
  rw [leS_iff, leS_iff]
  exact List.le_total _ _
theorem insS_perm (x : Str) : ∀ l : List Str, (insS x l).Perm (x :: l)
  | [] => .refl _
  | y :: r => by
    unfold insS
    split
    · exact ((insS_perm x r).cons y).trans (.swap x y r)
    · exact .refl _
theorem sortS_perm : ∀ l : List Str, (sortS l).Perm l
  | [] => .refl _
  | x :: r => (insS_perm x _).trans ((sortS_perm r).cons x)
theorem insS_sorted (x : Str) : ∀ l : List Str, l.Pairwise leS → (insS x l).Pairwise leS
  | [], _ => List.pairwise_singleton ..
  | y :: r, h => by
    obtain ⟨h1, h2⟩ := List.pairwise_cons.mp h
    unfold insS
    split
    · rename_i c
      refine List.pairwise_cons.mpr ⟨fun z hz => ?_, insS_sorted x r h2⟩
      rcases List.mem_cons.mp ((insS_perm x r).mem_iff.mp hz) with rfl | hz
      · rcases leS_total y z with k | k
        · exact k
        · unfold leS at k
          rw [c] at k
          cases k
      · exact h1 z hz
    · rename_i c
      have k : leS x y := by simpa using c
      refine List.pairwise_cons.mpr ⟨fun z hz => ?_, h⟩
      rcases List.mem_cons.mp hz with rfl | hz
      · exact k
      · exact leS_trans k (h1 z hz)
theorem sortS_sorted : ∀ l : List Str, (sortS l).Pairwise leS
  | [] => List.Pairwise.nil
  | x :: r => insS_sorted x _ (sortS_sorted r)
theorem sorted_uniq : ∀ {l m : List Str}, l.Pairwise leS → m.Pairwise leS → l.Perm m → l = m
  | [], m, _, _, p => (List.nil_perm.mp p).symm
  | x :: r, m, h, k, p => by
    cases m with
    | nil => exact absurd p.length_eq (by simp)
    | cons y t =>
      obtain ⟨h1, h2⟩ := List.pairwise_cons.mp h
      obtain ⟨k1, k2⟩ := List.pairwise_cons.mp k
      have refl : ∀ z : Str, leS z z := fun z => (leS_total z z).elim id id
      have hx : leS y x := by
        rcases List.mem_cons.mp (p.mem_iff.mp List.mem_cons_self) with e | e
        · rw [e]; exact refl y
        · exact k1 x e
      have hy : leS x y := by
        rcases List.mem_cons.mp (p.mem_iff.mpr List.mem_cons_self) with e | e
        · rw [e]; exact refl x
        · exact h1 y e
      have e := leS_anti hy hx
      subst e
      rw [sorted_uniq h2 k2 (List.Perm.cons_inv p)]
theorem rising_pair : ∀ (l : List Str) (p : Str), risingS p l = true → (p :: l).Pairwise leS
  | [], p, _ => List.pairwise_singleton ..
  | x :: r, p, h => by
    simp only [risingS, Bool.and_eq_true, Bool.not_eq_true'] at h
    have ih := rising_pair r x h.2
    refine List.pairwise_cons.mpr ⟨fun z hz => ?_, ih⟩
    rcases List.mem_cons.mp hz with rfl | hz
    · exact h.1
    · exact leS_trans h.1 ((List.pairwise_cons.mp ih).1 z hz)
theorem sortedS_pair : ∀ {l : List Str}, sortedS l = true → l.Pairwise leS
  | [], _ => List.Pairwise.nil
  | x :: r, h => rising_pair r x h
theorem sortS_eq {l m : List Str} (p : m.Perm l) (s : sortedS m = true) : m = sortS l := sorted_uniq (sortedS_pair s) (sortS_sorted l) (p.trans (sortS_perm l).symm)
/-- all of them texts -/
def strsD : List D → Option (List Str)
  | [] => some []
  | .str x :: r => match strsD r with
    | some xs => some (x :: xs)
    | none => none
  | _ :: _ => none
theorem strsD_eq : ∀ {ds : List D} {xs : List Str}, strsD ds = some xs → ds = xs.map PyData.str
  | [], xs, h => by cases h; rfl
  | d :: r, xs, h => by
    unfold strsD at h
    split at h
    · rename_i heq; cases heq
    · rename_i x r' heq
      cases heq
      split at h
      · rename_i ys h1
        cases h
        rw [strsD_eq h1]; rfl
      · cases h
    · cases h
theorem denL_strs {K : PySem.W.Frag} {H : Hp} : ∀ {xs : List Str} {vs : List V}, DenL K H (xs.map PyData.str) vs → vs = xs.map V.str
  | [], _, h => by cases h; rfl
  | x :: r, _, h => by
    obtain ⟨v, t, rfl, h1, h2⟩ := h
    cases h1
    rw [denL_strs h2]; rfl
theorem strs_denL {K : PySem.W.Frag} {H : Hp} : ∀ {xs : List Str}, DenL K H (xs.map PyData.str) (xs.map V.str)
  | [] => rfl
  | x :: r => ⟨_, _, rfl, rfl, strs_denL⟩
def sortD : G1
  | .list ds => match strsD ds with
    | some xs => if xs.length < 64 then some (.list ((sortS xs).map .str), true) else none
    | none => none
  | _ => none
section
variable {X : Cx}
theorem cr_sort : CallR X (.builtin "sorted") (rD X.K (g1 sortD)) := by
  intro pins s σ H xs us Q I r h
  obtain ⟨x, rfl, h⟩ := rD_one h
  obtain ⟨O, a, d, fr, m, p1, e, q⟩ := rD1_elim h
  unfold sortD at e
  split at e
  · split at e
    · rename_i ys h1
      split at e
      · rename_i hl
        cases e
        obtain ⟨p, vs, rfl, h2, h3⟩ := pk_list p1
        rw [strsD_eq h1] at h3
        obtain rfl := denL_strs h3
        exact cr_sortedS pins s σ H _ us Q I r ⟨p, ys, rfl, h2, hl, fun zs l hp hs hn => by
          rw [sortS_eq hp hs]
          exact q _ _ (np_list hn strs_denL)⟩
      · cases e
    · cases e
  · cases e

/-! ### written constants -/
/-- the name stands for this datum -/
structure Kg (X : Cx) (x : Str) (d : D) : Prop where
  ex : ∃ v u, X.mg x = some u ∧ RelV v u ∧ ∀ H, Den X.K H d v
theorem se_glob {x : Str} {d : D} {pos : Pos} (hk : Kg X x d) (hg : Gl X x) (hd : (x == ("__debug__" : Str)) = false := by decide) : SE X (cF d) (.Name x pos) := by
  obtain ⟨v, u, hm, r, h⟩ := hk.ex
  exact (pe_glob hg hm r hd).imp fun _ _ _ z => c_imp h z

/-! ### x[::-1] -/
def revD : G1
  | .list xs => some (.list xs.reverse, true)
  | .tuple xs => some (.tuple xs.reverse, false)
  | _ => none
theorem denL_reverse {K : PySem.W.Frag} {H : Hp} : ∀ {ds : List D} {vs : List V}, DenL K H ds vs → DenL K H ds.reverse vs.reverse
  | [], _, h => by cases h; rfl
  | d :: r, _, h => by
    obtain ⟨v, t, rfl, h1, h2⟩ := h
    rw [List.reverse_cons, List.reverse_cons]
    exact denL_append (denL_reverse h2) ⟨v, [], rfl, h1, rfl⟩
theorem filterMap_cong {α β : Type} {f g : α → Option β} : ∀ {l : List α}, (∀ a ∈ l, f a = g a) → l.filterMap f = l.filterMap g
  | [], _ => rfl
  | a :: r, h => by
    rw [List.filterMap_cons, List.filterMap_cons, h a List.mem_cons_self, filterMap_cong fun b hb => h b (List.mem_cons_of_mem _ hb)]
theorem back_pick (xs : Array Value) (n : Nat) (hn : n = xs.size) : ((List.range n).filterMap fun (k : Nat) => xs[(((n : Int) - 1) + (k : Int) * -1).toNat]?) = xs.toList.reverse := by
  have e : (List.range n).filterMap (fun (k : Nat) => xs[(((n : Int) - 1) + (k : Int) * -1).toNat]?) = ((List.range n).map fun k => n - 1 - k).filterMap fun j => xs[j]? := by
    rw [List.filterMap_map]
    refine filterMap_cong fun k hk => ?_
    have := List.mem_range.mp hk
    show _ = xs[n - 1 - k]?
    congr 1
    omega
  rw [e, PySem.W.krv_range, List.filterMap_reverse, hn, PySem.W.krv_all]
theorem getItem_tuple_back {P : Program} {w : World} {A : Around} {E : Value → Shared → Prop} {s : Shared} {t sl : Addr} {items : Array Value} {u : Tok} {Q : Value → Shared → Prop} (ht : IsTup s.heap t items) (hs : s.heap.IsSliceOf sl .none .none (.int (-1) u)) (hz : items.size ≤ sizeLine)
    (h : Q (.ref s.heap.objs.size) { s with heap := s.heap.push { cls := .type "tuple", data := .seq items.toList.reverse.toArray } }) : wpAny (model P w) A (getItem (.ref t) (.ref sl)) Q E s := by
  obtain ⟨os, hos, hcs, hds⟩ := id hs
  have hTs : s.TypeIs (.ref sl) "slice" := ⟨os, hos, hcs⟩
  have hok : sizeOk (.seq items.toList.reverse.toArray) := by
    show items.toList.reverse.toArray.size ≤ sizeLine
    simpa using hz
  unfold getItem
  try with_reducible refine wpAny_holding ?_
  first | refine wpAny_bind (wpAny_pure ?_) | skip
  refine wpAny_bind (wpAny_sequenceKey ht.typeIs (by decide) ?_)
  refine wpAny_bind (wpAny_callSpecial?_slot (name := Str.ofString "__getitem__") ht.typeIs PyProof.Rows.slot_tuple_getitem (wpAny_call_entry PyProof.Rows.slot_tuple_getitem ht.typeIs entry_tuple_getitem ?_ (args_tuple_getitem _ _)))
  show wpAny _ _ (Builtin.Tuple.tupleItemsOf (.ref t) >>= _) _ _ s
  refine wpAny_bind (tupleItemsOf_ ht (wpAny_bind (wpAny_typeOf hTs ?_)))
  rw [if_pos (by decide)]
  have app : ∀ {Q' : Int × Int × Nat → Shared → Prop}, Q' ((items.size : Int) - 1, -1, items.size) s → wpAny (model P w) A.in1 (Builtin.Slice.sliceApplied (.ref sl) (pure (items.size : Int))) Q' E s := fun {Q'} q => by
    unfold Builtin.Slice.sliceApplied Builtin.Slice.sliceFields
    refine wpAny_bind (wpAny_bind (wpAny_field hos hds (x := .none) rfl (wpAny_bind (wpAny_field hos hds (x := .none) rfl (wpAny_bind (wpAny_field hos hds (x := .int (-1) u) rfl (wpAny_pure ?_)))))))
    refine wpAny_bind (HT.slicePart_ (.int (-1) u) ?_)
    show wpAny _ _ (if ((-1 : Int) == 0) = true then _ else _) _ _ s
    rw [if_neg (by decide)]
    refine wpAny_bind (HT.slicePart_ .none (wpAny_bind (HT.slicePart_ .none (wpAny_bind (wpAny_pure ?_)))))
    refine wpAny_pure ?_
    have e : Builtin.Slice.slicePlaces ((items.size : Int) - 1) (-1) (-1) = items.size := by
      unfold Builtin.Slice.slicePlaces
      have h1 : ¬ ((-1 : Int) > 0) := by decide
      have h2 : (- -1 : Int) = 1 := by decide
      simp only [h1, if_false, h2, Int.ediv_one]
      split <;> omega
    show Q' ((items.size : Int) - 1, -1, Builtin.Slice.slicePlaces ((items.size : Int) - 1) (-1) (-1)) s
    rw [e]
    exact q
  refine wpAny_bind (app ?_)
  have hno : ¬ ((((items.size : Int) - 1) == 0 && (-1 : Int) == 1 && items.size == items.size) = true) := by simp
  show wpAny _ _ (if (((items.size : Int) - 1) == 0 && (-1 : Int) == 1 && items.size == items.size) = true then _ else _) _ _ s
  rw [if_neg hno, back_pick items items.size rfl]
  first
    | exact wpAny_bind (m := Builtin.Tuple.tupleExact _) (wpAny_newObj_type (wpAny_pure ⟨_, rfl, wpAny_pure h⟩) hok)
    | exact wpAny_bind (m := Builtin.Tuple.tupleExact _) (wpAny_newObj_type (wpAny_bind (wpAny_pure (wpAny_pure ⟨_, rfl, wpAny_pure h⟩))) hok)
    | exact wpAny_bind (wpAny_bind (m := Builtin.Tuple.tupleExact _) (wpAny_newObj_type (wpAny_pure (wpAny_pure ⟨_, rfl, wpAny_pure h⟩)) hok))
    | exact wpAny_bind (wpAny_bind (m := Builtin.Tuple.tupleExact _) (wpAny_newObj_type (wpAny_pure ⟨_, rfl, wpAny_pure h⟩) hok))
def tRevD (K : PySem.W.Frag) (te : TE) : TE := fun σ H Q => te σ H fun x H1 => rD1 K (g1 revD) x H1 Q
theorem pe_rev {e : Expr} {te : TE} {k : Nat} {p1 p2 p3 pos : Pos} (he : PE X e te) : PE X (.Subscript e (.Slice none none (some (.UnaryOp .USub (.Constant (.int 1) k p1) p2)) p3) pos) (tRevD X.K te) := by
  refine ⟨fun pins s σ H Q I h => Subscript_ (thn (he.run pins s σ H _ I h) fun v s1 ⟨x, H1, I1, r1, q1⟩ => ?_)⟩
  have hst : PO X (some (.UnaryOp .USub (.Constant (.int 1) k p1) p2)) (tPart (tUn (rU fun i => .int (-i)) (tC (.int 1)))) := po_some (pe_un un_neg pe_int)
  refine wpAny_Slice (thn (po_none.run pins s1 σ H1 (fun o H2 => o = none ∧ H2 = H1) I1 ⟨rfl, rfl⟩) fun vl s2 ⟨l, H2, I2, pl, el, e2⟩ => ?_)
  subst el e2
  refine thn (po_none.run pins s2 σ H2 (fun o H3 => o = none ∧ H3 = H2) I2 ⟨rfl, rfl⟩) fun vu s3 ⟨u, H3, I3, pu, eu, e3⟩ => ?_
  subst eu e3
  refine thn (hst.run pins s3 σ H3 (fun o H4 => o = some (-1) ∧ H4 = H3) I3 ⟨1, rfl, -1, rfl, rfl, rfl⟩) fun vs s4 ⟨o, H4, I4, ps, eo, e4⟩ => ?_
  subst eo e4
  have I5 : Inv X pins σ H4 { s4 with heap := s4.heap.push { cls := .type "slice", data := .fields #[vl, vu, vs] } } := I4.kept (t' := s4.toks) fun b ob q => Heap.get?_push_of_some _ q
  show wpAny (model X.prog X.w) X.A (subscriptTail e (.Slice none none (some (.UnaryOp .USub (.Constant (.int 1) k p1) p2)) p3) v (.ref s4.heap.objs.size)) (EP X pins σ Q) X.xe { s4 with heap := s4.heap.push { cls := .type "slice", data := .fields #[vl, vu, vs] } }
  obtain ⟨O, a, d, fr, m, p1, e, q⟩ := rD1_elim q1
  unfold revD at e
  split at e
  · cases e
    obtain ⟨p, xs, rfl, h1, h2⟩ := pk_list p1
    cases r1
    obtain ⟨its, r, ht, hz⟩ := I5.list h1
    have hlen := r.length
    refine tail_any (ops := [.ref p, .ref s4.heap.objs.size]) ht.isList.typeIs (PySem.slot_list_getitem.lookup) ?_ (by with_unfolding_all rfl)
    refine wpAny_getItem_list_slice ht.isList (Heap.IsSliceOf.new _ vl vu vs) pl pu ps (by decide) ?_ (by rw [List.size_toArray]; omega)
    rw [PySem.W.krv_pick]
    exact ⟨.ref _, _, I5.laid (t' := s4.toks) (o := .lst xs.reverse) (fun b ob q => Heap.get?_push_of_some _ q) (Nat.le_refl _) ⟨by rw [List.length_reverse]; exact hz, _, 0, r.reverse, Heap.get?_push_size _ rfl⟩, rfl, q _ _ (np_list (I5.hok.fresh (Nat.le_refl _)) (denL_reverse h2))⟩
  · cases e
    obtain ⟨p, xs, rfl, h1, h2⟩ := pk_tuple p1
    cases r1
    obtain ⟨its, r, ht, hz⟩ := I5.tuple h1
    have hlen := r.length
    refine tail_any (ops := [.ref p, .ref s4.heap.objs.size]) ht.typeIs (PyProof.Rows.slot_tuple_getitem.lookup) ?_ (by with_unfolding_all rfl)
    cases pl
    cases pu
    cases ps with
    | int _ t =>
      refine getItem_tuple_back ht (Heap.IsSliceOf.new _ .none .none (.int (-1) t)) (by rw [List.size_toArray]; omega) ?_
      exact ⟨.ref _, _, I5.laid (t' := s4.toks) (o := .tup xs.reverse) (fun b ob q => Heap.get?_push_of_some _ q) (Nat.le_refl _) ⟨by rw [List.length_reverse]; exact hz, _, r.reverse, IsTup.new _ _⟩, rfl, q _ _ (np_tup m (I5.hok.fresh (Nat.le_refl _)) (denL_reverse h2))⟩
  · cases e
theorem se_rev {e : Expr} {f : OF} {k : Nat} {p1 p2 p3 pos : Pos} (he : SO X f e) : SE X (opF (consO f nilO) (g1 revD)) (.Subscript e (.Slice none none (some (.UnaryOp .USub (.Constant (.int 1) k p1) p2)) p3) pos) := (pe_rev he).imp fun _ _ _ h => one_imp h
end
end PD

/-! PdM: isinstance, a, b = x, y, walks over a dict that is locked. -/
namespace PD
open PySem PySem.Spec PyProof.Rows L2

/-! ### isinstance(x, T) -/
inductive Tn where
  | non | bool | int | str | list | tuple | dict
  deriving DecidableEq
def Tn.nm : Tn → String
  | .non => "NoneType" | .bool => "bool" | .int => "int" | .str => "str" | .list => "list" | .tuple => "tuple" | .dict => "dict"
def tnD : D → Tn
  | .none => .non | .bool _ => .bool | .int _ => .int | .str _ => .str | .list _ => .list | .tuple _ => .tuple | .dict _ => .dict
def isTn : Tn → Tn → Bool
  | .non, .non => true | .bool, .bool => true | .bool, .int => true | .int, .int => true | .str, .str => true | .list, .list => true | .tuple, .tuple => true | .dict, .dict => true
  | _, _ => false
theorem kit_tn (a b : Tn) : kitB a.nm b.nm = some (isTn a b) := by
  cases a <;> cases b <;> decide +kernel
theorem ty_pk {K : PySem.W.Frag} {O : Addr → Prop} {H : Hp} {d : D} {v : V} (h : Pk K O H d v) : TyX K H v (.type (tnD d).nm) := by
  cases d with
  | none => obtain rfl := pk_none h; exact .base .non
  | bool b => obtain rfl := pk_bool h; exact .base (.bl b)
  | int b => obtain rfl := pk_int h; exact .base (.int b)
  | str b => obtain rfl := pk_str h; exact .base (.str b)
  | list l =>
    obtain ⟨a, vs, rfl, h1, _⟩ := pk_list h
    rcases h1 with (h1 | ⟨o, h1⟩) | ⟨o, its, n, h1, h2, _⟩
    · exact .base (.lst h1)
    · exact .base (.frz h1)
    · exact .kList h1 h2
  | tuple l =>
    obtain ⟨a, vs, rfl, h1, _⟩ := pk_tuple h
    rcases h1 with (h1 | ⟨o, h1⟩) | ⟨o, its, n, h1, h2, _⟩
    · exact .base (.tup h1)
    · exact .fTuple h1
    · exact .kTuple h1 h2
  | dict l =>
    obtain ⟨a, vs, rfl, h1, _⟩ := pk_dict h
    rcases h1 with h1 | ⟨o, h1⟩
    · exact .base (.dK h1)
    · exact .fDict h1
def isiD (T : Tn) : G1 := fun d => some (.bool (isTn (tnD d) T), false)
section
variable {X : Cx}
theorem se_isi (T : Tn) {e : Expr} {f : OF} {x : Str} {p p2 pos : Pos} (ha : SO X f e) (hg : Gl X "isinstance") (hm : X.mg "isinstance" = none) (hg2 : Gl X x) (hm2 : X.mg x = none) (hb : bootBuiltins x = some (.type T.nm)) (hv : bootBuiltins "isinstance" = some (.builtin "isinstance") := by kernel_rfl) (hn : x ≠ "__name__" := by decide) (hd : (x == ("__debug__" : Str)) = false := by decide)
    (he : starEach [e, .Name x p2] X.env = (false, eval e X.env) :: starEach [.Name x p2] X.env := by rfl) (he2 : starEach [.Name x p2] X.env = (false, eval (.Name x p2) X.env) :: starEach [] X.env := by rfl) (hpl : (backTo pos (starEach [.Name x p2] X.env)).any (·.1) = false := by rfl) : SE X (opF (consO f nilO) (g1 (isiD T))) (.Call (.Name "isinstance" p) [e, .Name x p2] [] pos) :=
  (pe_callB call_isi hg hm hv (pa_cons ha (pa_cons (pe_bltn (v := .ty T.nm) hg2 hm2 hb rfl hn hd) pa_nil he2) he) (by decide) (by decide) he hpl).imp fun σ H Q h => by
    refine tO_mono (one_imp h) fun x H1 w => ?_
    obtain ⟨O, a, d, fr, m, p1, e, q⟩ := rD1_elim w
    cases e
    exact ⟨x, .ty T.nm, _, _, isTn (tnD a) T, rfl, .ty _, ty_pk p1, kit_ty (kit_tn _ _), q _ _ (np_val fun _ => rfl)⟩

/-! ### a, b = x, y -/
def parF (i j : Nat) (fl : OLF) : SF := fun env => match fl env with
  | some (os, e1) => if (pkS e1 os).isEmpty then match derefs e1 os with
      | some [d1, d2] => match setv i d1 false e1 with
        | some e2 => match setv j d2 false e2 with
          | some e3 => some (.nx, e3)
          | none => none
        | none => none
      | _ => none
    else none
  | none => none
theorem par_imp {K : PySem.W.Frag} {i j : Nat} {fl : OLF} {E : Ends} {σ : Sl} {H : Hp} (h : tS K (parF i j fl) E σ H) : tPar i j (tOL K fl) E σ H := by
  obtain ⟨O, fx, env, out, env', r, e, q⟩ := h
  unfold parF at e
  split at e
  · rename_i os e1 h1
    split at e
    · rename_i hp
      split at e
      · rename_i d1 d2 h2
        split at e
        · rename_i e2 h3
          split at e
          · rename_i e3 h4
            cases e
            refine ⟨O, fx, env, os, e1, r, h1, fun vs H1 b a => ?_⟩
            obtain ⟨v, t, rfl, p1, p2⟩ := oAre_den b.rel a h2 hp
            obtain ⟨w, t', rfl, p3, p4⟩ := p2
            cases p4
            have b2 := setv_ok (fr := false) (⟨Bh.refl b.rel, p1⟩ : EPost K O fx e1 σ H1 d1 false e1 v H1) h3
            have b3 := setv_ok (fr := false) (⟨Bh.refl b2.rel, den_le (Le.of_same b2.same) p3⟩ : EPost K O fx e2 _ H1 d2 false e2 w H1) h4
            exact ⟨v, w, rfl, q _ _ (b.trans (b2.trans b3))⟩
          · cases e
        · cases e
      · cases e
    · cases e
  · cases e
theorem ss_par {i j : Nat} {x y : Str} {a b : Expr} {fl : OLF} {px py pt pos : Pos} {kt k2 pt2} (hc : X.calm = true) (hN : X.N.Nodup) (hi : X.N[i]? = some x) (hj : X.N[j]? = some y) (hij : i ≠ j)
    (hx : X.env.scope.names.lookup x = some .local) (hy : X.env.scope.names.lookup y = some .local) (ha : SOL X fl [a, b])
    (hw : swappedStores [.Tuple [.Name x px, .Name y py] kt pt] (.Tuple [a, b] k2 pt2) X.env = pure (some [x, y]))
    (hs : swapsWithSole [.Tuple [.Name x px, .Name y py] kt pt] (.Tuple [a, b] k2 pt2) pos.line X.env = pure false := by rfl) : SS X (parF i j fl) (.Assign [.Tuple [.Name x px, .Name y py] kt pt] (.Tuple [a, b] k2 pt2) pos) := (ps_par hc hN hi hj hij hx hy ha hw hs).imp fun _ _ _ h => par_imp h
end

/-! ### reading from behind a lock -/
/-- all but the locks themselves may still be read -/
def Le0 (H H' : Hp) : Prop := ∀ a u, (∀ o x, u ≠ .frz o x) → Rd H a u → Rd H' a u
section
variable {K : PySem.W.Frag} {H H' : Hp}
theorem sqT_le0 {a : Addr} {xs : List V} (e : Le0 H H') (h : SqT K H a xs) : SqT K H' a xs := h.imp (e _ _ fun _ _ z => nomatch z) id
theorem sqL_le0 {a : Addr} {xs : List V} (e : Le0 H H') (h : SqL K H a xs) : SqL K H' a xs := h.imp (e _ _ fun _ _ z => nomatch z) id
mutual
theorem den_le0 (e : Le0 H H') : ∀ {d : D} {v : V}, Den K H d v → Den K H' d v
  | .none, _, h => h
  | .bool _, _, h => h
  | .int _, _, h => h
  | .str _, _, h => h
  | .tuple _, _, ⟨a, vs, e1, h1, h2⟩ => ⟨a, vs, e1, sqT_le0 e h1, denL_le0 e h2⟩
  | .list _, _, ⟨a, vs, e1, h1, h2⟩ => ⟨a, vs, e1, sqL_le0 e h1, denL_le0 e h2⟩
  | .dict _, _, ⟨a, vs, e1, h1, h2⟩ => ⟨a, vs, e1, e _ _ (fun _ _ z => nomatch z) h1, denP_le0 e h2⟩
theorem denL_le0 (e : Le0 H H') : ∀ {ds : List D} {vs : List V}, DenL K H ds vs → DenL K H' ds vs
  | [], _, h => h
  | _ :: _, _, ⟨v, r, e1, h1, h2⟩ => ⟨v, r, e1, den_le0 e h1, denL_le0 e h2⟩
theorem denP_le0 (e : Le0 H H') : ∀ {ds : List (D × D)} {vs : List (Key × V)}, DenP K H ds vs → DenP K H' ds vs
  | [], _, h => h
  | (_, _) :: _, _, ⟨q, v, t, e1, e2, h1, h2⟩ => ⟨q, v, t, e1, e2, den_le0 e h1, denP_le0 e h2⟩
end
theorem OwnAt.mono0 {B B' : Hp} {a : Addr} (e : Le0 B B') (k : H' a = H a) : ∀ {d : D}, OwnAt K B H a d → OwnAt K B' H' a d
  | .list _, ⟨vs, h1, h2⟩ => ⟨vs, k.trans h1, denL_le0 e h2⟩
  | .dict _, ⟨vs, h1, h2⟩ => ⟨vs, k.trans h1, denP_le0 e h2⟩
variable {O O' : Addr → Prop} {fx : Nat → Option Addr} {env env' : Ev} {σ σ' : Sl} {d : Addr} {u : HO} {od : Obj}
/-- the same frame over another heap that shows the same -/
theorem R.over (r : R K O fx env σ H) (le : Le0 (Pb O env σ H) (Pb O env σ H')) (k : ∀ a, Oo O env σ a → H' a = H a) : R K O fx env σ H' := by
  refine ⟨r.len, fun i d h => ?_, fun i d o h n => ?_, r.apart, fun a h => by rw [k a (.inl h)]; exact r.out a h, r.fix, r.pin⟩
  · obtain ⟨v, e, h⟩ := r.val i d h
    exact ⟨v, e, den_le0 le h⟩
  · obtain ⟨a, e, n1, h'⟩ := r.own i d o h n
    exact ⟨a, e, n1, h'.mono0 le (k a (.inr ⟨i, d, o, h, n, e⟩))⟩
theorem le_lock (hd : H d = some u) (hm : Mut (some u)) : Le0 (Pb O env σ H) (Pb O env σ (upd H d (.frz od u))) := fun a w nw h => by
  obtain ⟨n, h⟩ := cut_rd.mp h
  refine cut_rd.mpr ⟨n, ?_⟩
  by_cases e : a = d
  · subst e
    rcases h with h | ⟨o, h⟩
    · rw [hd] at h
      cases h
      exact .inr ⟨od, upd_same⟩
    · rw [hd] at h
      cases h
      exact hm.elim
  · rcases h with h | ⟨o, h⟩
    · exact .inl (by rw [upd_ne e]; exact h)
    · exact .inr ⟨o, by rw [upd_ne e]; exact h⟩
theorem le_unlock (hd : H d = some (.frz od u)) : Le0 (Pb O env σ H) (Pb O env σ (upd H d u)) := fun a w nw h => by
  obtain ⟨n, h⟩ := cut_rd.mp h
  refine cut_rd.mpr ⟨n, ?_⟩
  by_cases e : a = d
  · subst e
    rcases h with h | ⟨o, h⟩
    · rw [hd] at h
      cases h
      exact absurd rfl (nw _ _)
    · rw [hd] at h
      cases h
      exact .inl upd_same
  · rcases h with h | ⟨o, h⟩
    · exact .inl (by rw [upd_ne e]; exact h)
    · exact .inr ⟨o, by rw [upd_ne e]; exact h⟩
theorem R.lock (r : R K O fx env σ H) (hd : H d = some u) (hm : Mut (some u)) (nd : ¬ Oo O env σ d) : R K O fx env σ (upd H d (.frz od u)) :=
  r.over (le_lock hd hm) fun a z => upd_ne fun e => nd (e ▸ z)
/-- the lock is taken off behind the code -/
theorem unlock_bh {O2 : Addr → Prop} (hd : H d = some u) (nd : ¬ Oo O env σ d) (r : R K O2 fx env' σ' H') (s : Same (Pb O env σ (upd H d (.frz od u))) (Pb O2 env' σ' H')) (ou : ∀ a, O a → H' a = upd H d (.frz od u) a) :
    H' d = some (.frz od u) ∧ R K O2 fx env' σ' (upd H' d u) ∧ Same (Pb O env σ H) (Pb O2 env' σ' (upd H' d u)) ∧ (∀ a, O a → upd H' d u a = H a) ∧ Le0 (Pb O2 env' σ' H') (Pb O2 env' σ' (upd H' d u)) ∧ ¬ Oo O2 env' σ' d := by
  have h1 : Pb O2 env' σ' H' d = some (.frz od u) := s _ _ (cut_some.mpr ⟨nd, upd_same⟩)
  obtain ⟨nd2, h2⟩ := cut_some.mp h1
  have le := le_unlock (O := O2) (env := env') (σ := σ') h2
  refine ⟨h2, r.over le fun a z => upd_ne fun e => nd2 (e ▸ z), fun a w h => ?_, fun a z => ?_, le, nd2⟩
  · obtain ⟨n, h⟩ := cut_some.mp h
    by_cases e : a = d
    · subst e
      rw [hd] at h
      cases h
      exact cut_some.mpr ⟨nd2, upd_same⟩
    · obtain ⟨n3, h3⟩ := cut_some.mp (s a w (cut_some.mpr ⟨n, by rw [upd_ne e]; exact h⟩))
      exact cut_some.mpr ⟨n3, by rw [upd_ne e]; exact h3⟩
  · have e : a ≠ d := fun e => nd (e ▸ .inl z)
    rw [upd_ne e, ou a z, upd_ne e]
theorem unlock_ep {x : D} {fr : Bool} {v : V} (hd : H d = some u) (nd : ¬ Oo O env σ d) (p : EPost2 K O fx env σ (upd H d (.frz od u)) x fr env' v σ' H') : H' d = some (.frz od u) ∧ EPost2 K O fx env σ H x fr env' v σ' (upd H' d u) := by
  cases fr with
  | false =>
    obtain ⟨b, dn⟩ := p
    obtain ⟨k1, k2, k3, k4, k5, _⟩ := unlock_bh hd nd b.rel b.same b.outer
    exact ⟨k1, ⟨k2, k3, k4⟩, den_le0 k5 dn⟩
  | true =>
    obtain ⟨a, rfl, f⟩ := p
    obtain ⟨k1, k2, k3, k4, k5, k6⟩ := unlock_bh hd nd f.rel f.same f.outer
    exact ⟨k1, a, rfl, f.new, k2, k3, k4, f.own.mono0 k5 (upd_ne fun e => k6 (.inl (.inr e.symm)))⟩
/-- what runs to these ends over the locked heap, runs to those over the other -/
def lockEnds (d : Addr) (od : Obj) (u : HO) (E : Ends) : Ends := ⟨fun σ' H' => H' d = some (.frz od u) ∧ E.nx σ' (upd H' d u), fun v H' => H' d = some (.frz od u) ∧ E.rt v (upd H' d u), fun σ' H' => H' d = some (.frz od u) ∧ E.bk σ' (upd H' d u), fun σ' H' => H' d = some (.frz od u) ∧ E.ct σ' (upd H' d u)⟩
theorem unlock_out {E : Ends} {out : Out} (hd : H d = some u) (nd : ¬ Oo O env σ d) (q : OutOk K O fx env σ H E env' out) : OutOk K O fx env σ (upd H d (.frz od u)) (lockEnds d od u E) env' out := by
  cases out with
  | nx =>
    intro σ' H' b
    obtain ⟨k1, k2, k3, k4, _, _⟩ := unlock_bh hd nd b.rel b.same b.outer
    exact ⟨k1, q σ' _ ⟨k2, k3, k4⟩⟩
  | bk =>
    intro σ' H' b
    obtain ⟨k1, k2, k3, k4, _, _⟩ := unlock_bh hd nd b.rel b.same b.outer
    exact ⟨k1, q σ' _ ⟨k2, k3, k4⟩⟩
  | ct =>
    intro σ' H' b
    obtain ⟨k1, k2, k3, k4, _, _⟩ := unlock_bh hd nd b.rel b.same b.outer
    exact ⟨k1, q σ' _ ⟨k2, k3, k4⟩⟩
  | rt x fr =>
    intro v σ' H' p
    obtain ⟨k1, k2⟩ := unlock_ep hd nd p
    exact ⟨k1, q v σ' _ k2⟩
end

/-! ### for k in d -/
/-- the keys; a name that owns its dict shares it from then on -/
def dictAt (i : Nat) (env : Ev) : Option (List (D × D) × Ev) := match env[i]? with
  | some (some (.dict kvs, .sh)) => some (kvs, env)
  | some (some (.dict kvs, .ow)) => some (kvs, env.set i (some (.dict kvs, .sh)))
  | _ => none
/-- a walk over what stands locked at slot i -/
def tIK (i : Nat) (J : Addr → Obj → List (Key × V) → It) : TI := fun σ H R => ∃ d o kv, σ[i]? = some (some (.ref d)) ∧ H d = some (.frz o (.dK kv)) ∧ R (J d o kv) H
/-- what such a walk gives -/
def JD (K : PySem.W.Frag) (J : Addr → Obj → List (Key × V) → It) (f : List (D × D) → List D) : Prop := ∀ (B : Hp) (d : Addr) (o : Obj) (kv : List (Key × V)) (kvs : List (D × D)), B d = some (.frz o (.dK kv)) → DenP K B kvs kv → JOk K B (J d o kv) (f kvs)
def forDF (i : Nat) (f : List (D × D) → List D) (g : GF) (B : SF) : SF := fun env => match dictAt i env with
  | some (kvs, e1) => forL g B (f kvs) e1
  | none => none
def lcDF (vs : List Nat) (i : Nat) (f : List (D × D) → List D) (g : GF) (t : TF) (e : EF) : EF := fun env => match dictAt i env with
  | some (kvs, e1) => if kvs.length ≤ sizeLine ∧ (f kvs).length ≤ sizeLine ∧ noOwn e1 vs = true then match lcL vs g t e (f kvs) (wipeE e1 vs) with
      | some (ys, e2) => some (.list ys, true, unw e1 e2 vs)
      | none => none
    else none
  | none => none
section
variable {K : PySem.W.Frag} {O : Addr → Prop} {fx : Nat → Option Addr} {env e1 : Ev} {σ : Sl} {H : Hp} {i : Nat} {kvs : List (D × D)}
theorem dictAt_ok (r : R K O fx env σ H) (h : dictAt i env = some (kvs, e1)) : ∃ d kv, Bh K O fx env σ H e1 H ∧ σ[i]? = some (some (.ref d)) ∧ ¬ Oo O e1 σ d ∧ Rd H d (.dK kv) ∧ DenP K (Pb O e1 σ H) kvs kv := by
  have fin : ∀ {v : V}, Den K (Pb O e1 σ H) (.dict kvs) v → ∃ d kv, v = .ref d ∧ ¬ Oo O e1 σ d ∧ Rd H d (.dK kv) ∧ DenP K (Pb O e1 σ H) kvs kv := fun {v} z => by
    obtain ⟨d, kv, rfl, h1, h2⟩ := z
    obtain ⟨n, h3⟩ := cut_rd.mp h1
    exact ⟨d, kv, rfl, n, h3, h2⟩
  unfold dictAt at h
  split at h
  · rename_i kvs' h1
    cases h
    obtain ⟨v, h2, h3⟩ := r.val i _ h1
    obtain ⟨d, kv, rfl, k1, k2, k3⟩ := fin h3
    exact ⟨d, kv, Bh.refl r, h2, k1, k2, k3⟩
  · rename_i kvs' h1
    cases h
    obtain ⟨a, h2, h3, h4⟩ := r.freeze h1
    obtain ⟨d, kv, ed, k1, k2, k3⟩ := fin h4
    cases ed
    exact ⟨a, kv, h3, h2, k1, k2, k3⟩
  · cases h
/-- the state while it is locked -/
theorem locked {f : List (D × D) → List D} {J : Addr → Obj → List (Key × V) → It} {d : Addr} {kv : List (Key × V)} {od : Obj} (hJ : JD K J f) (r : R K O fx e1 σ H) (nd : ¬ Oo O e1 σ d) (hd : H d = some (.dK kv)) (hp : DenP K (Pb O e1 σ H) kvs kv) :
    R K O fx e1 σ (upd H d (.frz od (.dK kv))) ∧ JOk K (Pb O e1 σ (upd H d (.frz od (.dK kv)))) (J d od kv) (f kvs) :=
  ⟨r.lock hd trivial nd, hJ _ _ _ _ _ (cut_some.mpr ⟨nd, upd_same⟩) (denP_le0 (le_lock hd trivial) hp)⟩
theorem forD_imp {f : List (D × D) → List D} {J : Addr → Obj → List (Key × V) → It} {g : GF} {wr : List Nat} {B : SF} {E : Ends} (hJ : JD K J f) (h : tS K (forDF i f g B) E σ H) :
    tFor (tIK i J) (tG K g wr) (tS K B) E σ H ∨ tLock (tFor (tIK i J) (tG K g wr) (tS K B)) E σ H := by
  obtain ⟨O, fx, env, out, env', r, e, q⟩ := h
  unfold forDF at e
  split at e
  · rename_i kvs e1 h1
    obtain ⟨d, kv, b, hs, nd, hr, hp⟩ := dictAt_ok r h1
    have q1 := q.trans b
    rcases hr with hr | ⟨o, hr⟩
    · right
      refine ⟨d, .dK kv, hr, trivial, fun od => ?_⟩
      obtain ⟨r2, jo⟩ := locked (od := od) hJ b.rel nd hr hp
      exact ⟨d, od, kv, hs, upd_same, for_go (E := lockEnds d od (.dK kv) E) e (Bh.refl r2) jo (unlock_out hr nd q1)⟩
    · left
      exact ⟨d, o, kv, hs, hr, for_go e (Bh.refl b.rel) (hJ _ _ _ _ _ (cut_some.mpr ⟨nd, hr⟩) hp) q1⟩
  · cases e
theorem lcD_imp {vs wr : List Nat} {f : List (D × D) → List D} {J : Addr → Obj → List (Key × V) → It} {g : GF} {t : TF} {ef : EF} {Q : VK} (hJ : JD K J f) (hw : ∀ j ∈ wr, j ∈ vs) (h : tE K (lcDF vs i f g t ef) σ H Q) :
    tLc (tIK i J) (tG K g wr) (tT K t) (tE K ef) vs σ H Q ∨ tLockE (tLc (tIK i J) (tG K g wr) (tT K t) (tE K ef) vs) σ H Q := by
  obtain ⟨O, fx, env, x, fr, env', r, e, q⟩ := h
  unfold lcDF at e
  split at e
  · rename_i kvs e1 h1
    split at e
    · rename_i hc
      split at e
      · rename_i ys e2 h2
        cases e
        obtain ⟨d, kv, b, hs, nd, hr, hp⟩ := dictAt_ok r h1
        rcases hr with hr | ⟨o, hr⟩
        · right
          refine ⟨d, .dK kv, hr, trivial, fun od => ?_⟩
          obtain ⟨r2, jo⟩ := locked (od := od) hJ b.rel nd hr hp
          have z := lc_go (Q := fun v H' => H' d = some (.frz od (.dK kv)) ∧ Q v (upd H' d (.dK kv))) hw hc.2.1 hc.2.2 h2 (Bh.refl r2) jo fun v H' p => by
            obtain ⟨k1, k2⟩ := unlock_ep hr nd p
            exact ⟨k1, q v _ (bh_epost b k2)⟩
          exact ⟨d, od, kv, hs, upd_same, z⟩
        · left
          have z := lc_go (Q := Q) hw hc.2.1 hc.2.2 h2 (Bh.refl b.rel) (hJ _ _ _ _ _ (cut_some.mpr ⟨nd, hr⟩) hp) fun v H' p => q v _ (bh_epost b p)
          exact ⟨d, o, kv, hs, hr, z⟩
      · cases e
    · cases e
  · cases e
end
section
variable {X : Cx} {pos : Pos}
theorem ps_or {st : Stmt} {t t' t'' : TS} (h : PS X st t) (k : PS X st t') (z : ∀ D σ H, t'' D σ H → t D σ H ∨ t' D σ H) : PS X st t'' := ⟨fun pins s σ H D I w => (z _ _ _ w).elim (h.run pins s σ H D I) (k.run pins s σ H D I)⟩
theorem pe_or' {e : Expr} {t t' t'' : TE} (h : PE X e t) (k : PE X e t') (z : ∀ σ H Q, t'' σ H Q → t σ H Q ∨ t' σ H Q) : PE X e t'' := ⟨fun pins s σ H D I w => (z _ _ _ w).elim (h.run pins s σ H D I) (k.run pins s σ H D I)⟩
/-- the walk over such a name's keys -/
structure SIK (X : Cx) (i : Nat) (J : Addr → Obj → List (Key × V) → It) (tg iter : Expr) : Prop where
  pi : PI X tg iter (tIK i J)
theorem ss_forD {f : List (D × D) → List D} {J : Addr → Obj → List (Key × V) → It} {iter tg : Expr} {body : List Stmt} {i : Nat} {g : GF} {B : SF} {wr : List Nat} (hJ : JD X.K J f) (hp : PassesOwn (model X.prog X.w) X.A X.env X.xe) (hc : X.calm = true) (hi : SIK X i J tg iter) (hg : SG X g wr tg) (hb : SSs X B body)
    (hs : ∀ x, foldedSetIterable iter X.env x = pure x := by intro _; rfl) : SS X (forDF i f g B) (.For tg iter body [] pos) :=
  ps_or (ps_for hp hc hi.pi hg hb hs) (ps_lock (ps_for hp hc hi.pi hg hb hs)) fun _ _ _ h => forD_imp hJ h
theorem se_lcD {f : List (D × D) → List D} {J : Addr → Obj → List (Key × V) → It} {elt tg iter : Expr} {ifs : List Expr} {scope : Scope} {own : List (Str × Nat)} {i : Nat} {g : GF} {wr : List Nat} {t : TF} {ef : EF} (hJ : JD X.K J f) (hc : X.calm = true) (hN : X.N.Nodup) (hi : SIK X i J tg iter) (ok : BlkOk X.N X.env.scope scope own)
    (hw : ∀ j ∈ wr, j ∈ own.map (·.2))
    (hg : ∀ (s : Shared) (H : Hp) (C : Addr) (cl : List (Str × Addr)) (fp : List Addr), SG (X.blk s H scope (compEnvC scope cl C X.env) fp) g wr tg) (ht : ∀ (s : Shared) (H : Hp) (C : Addr) (cl : List (Str × Addr)) (fp : List Addr), STs (X.blk s H scope (compEnvC scope cl C X.env) fp) t ifs)
    (he : ∀ (s : Shared) (H : Hp) (C : Addr) (cl : List (Str × Addr)) (fp : List Addr), SE (X.blk s H scope (compEnvC scope cl C X.env) fp) ef elt) (hs : ∀ x, foldedSetIterable iter X.env x = pure x := by intro _; rfl) :
    SE X (lcDF (own.map (·.2)) i f g t ef) (.ListComp elt [⟨tg, iter, ifs, 0⟩] scope pos) :=
  pe_or' (pe_lc hc hN hi.pi ok hg ht he hs) (pe_lock (pe_lc hc hN hi.pi ok hg ht he hs)) fun _ _ _ h => lcD_imp hJ hw h
def keysOf (kvs : List (D × D)) : List D := kvs.map (·.1)
theorem denP_get {K : PySem.W.Frag} {H : Hp} : ∀ {kvs : List (D × D)} {kv : List (Key × V)} {i : Nat} {p : Key × V}, DenP K H kvs kv → kv[i]? = some p → ∃ d, kvs[i]? = some (kD p.1, d) ∧ Den K H d p.2
  | [], _, i, p, h, e => by cases h; simp at e
  | (a, d) :: r, _, 0, p, h, e => by
    obtain ⟨q, v, t, rfl, rfl, h1, h2⟩ := h
    cases e
    exact ⟨d, rfl, h1⟩
  | (a, d) :: r, _, i + 1, p, h, e => by
    obtain ⟨q, v, t, rfl, rfl, h1, h2⟩ := h
    exact denP_get (kvs := r) (i := i) h2 e
theorem jd_keys {K : PySem.W.Frag} : JD K Itk keysOf := by
  intro B d o kv kvs hB hp
  have hl : (keysOf kvs).length = kv.length := by simp [keysOf, denP_length hp]
  refine ⟨fun i H hi s => ⟨s _ _ hB, by rw [← hl]; exact hi⟩, fun i H hi s => ⟨s _ _ hB, by rw [← hl]; exact hi⟩, fun i H x v H' s e y => ?_⟩
  obtain ⟨rfl, k, w, h1, rfl⟩ := y
  refine ⟨Same.refl _, fun O _ _ => ?_⟩
  obtain ⟨d', h2, _⟩ := denP_get hp h1
  simp only [keysOf, List.getElem?_map, h2, Option.map_some, Option.some.injEq] at e
  subst e
  cases k <;> rfl
theorem sik_keys (i : Nat) {tg : Expr} {x : Str} {pos : Pos} (hN : X.N[i]? = some x := by rfl) (hv : Vis X.env.scope x := by first | exact Or.inl rfl | exact Or.inr (Or.inl rfl) | exact Or.inr (Or.inr rfl)) (hd : (x == ("__debug__" : Str)) = false := by decide)
    (hcd : (x == ("__classdict__" : Str)) = false := by decide) : SIK X i Itk tg (.Name x pos) := ⟨(pi_keys (pe_var hN hv hd hcd)).imp fun σ H Q h => by
  obtain ⟨d, o, kv, h1, h2, h3⟩ := h
  exact ⟨.ref d, h1, d, o, rfl, .inl ⟨kv, h2, h3⟩⟩⟩
end
end PD

/-! PdN: sorted(set(xs)) of texts: the set is made, gathered and put in order. -/
namespace PD
open PySem PySem.Spec PyProof.Rows L2

theorem paired_perm {α β : Type} {r : α → β → Prop} {xs' xs : List α} (p : xs'.Perm xs) : ∀ {ys : List β}, Paired r xs ys → ∃ ys', ys'.Perm ys ∧ Paired r xs' ys' := by
  induction p with
  | nil => exact fun h => ⟨_, .refl _, h⟩
  | cons x _ ih =>
    intro ys h
    cases h with
    | cons h1 h2 =>
      obtain ⟨ys', k1, k2⟩ := ih h2
      exact ⟨_, k1.cons _, .cons h1 k2⟩
  | swap x y l =>
    intro ys h
    cases h with
    | cons h1 h2 =>
      cases h2 with
      | cons h3 h4 => exact ⟨_, .swap _ _ _, .cons h3 (.cons h1 h4)⟩
  | trans _ _ ih1 ih2 =>
    intro ys h
    obtain ⟨ys2, k1, k2⟩ := ih2 h
    obtain ⟨ys1, k3, k4⟩ := ih1 k2
    exact ⟨ys1, k3.trans k1, k4⟩
theorem paired_in {α β : Type} {r : α → β → Prop} : ∀ {xs : List α} {ys : List β}, Paired r xs ys → ∀ x ∈ xs, ∃ y ∈ ys, r x y
  | _, _, .nil, _, hx => nomatch hx
  | _, _, .cons h1 h2, x, hx => by
    rcases List.mem_cons.mp hx with rfl | hx
    · exact ⟨_, List.mem_cons_self, h1⟩
    · obtain ⟨y, k1, k2⟩ := paired_in h2 x hx
      exact ⟨y, List.mem_cons_of_mem _ k1, k2⟩
theorem paired_in2 {α β : Type} {r : α → β → Prop} : ∀ {xs : List α} {ys : List β}, Paired r xs ys → ∀ y ∈ ys, ∃ x ∈ xs, r x y
  | _, _, .nil, _, hx => nomatch hx
  | _, _, .cons h1 h2, x, hx => by
    rcases List.mem_cons.mp hx with rfl | hx
    · exact ⟨_, List.mem_cons_self, h1⟩
    · obtain ⟨y, k1, k2⟩ := paired_in2 h2 x hx
      exact ⟨y, List.mem_cons_of_mem _ k1, k2⟩

section
variable {P : Program} {w : World} {κ : Type} [DecidableEq κ] {knd : KeyKind P w κ}
/-- an entry of the set and the key it carries -/
def GoodG (knd : KeyKind P w κ) (e : Int × Value) (k : κ) : Prop := knd.is k e.2 = true ∧ e.1 = knd.hash k ∧ e.2.scannable = true
/-- the set at a has just these keys, each once, and can be walked -/
def SetG (knd : KeyKind P w κ) (h : Heap) (a : Addr) (ls : List κ) : Prop :=
  ∃ o es ep t, h.get? a = some o ∧ o.ExactSet ∧ o.data = .set es ep t ∧ Paired (GoodG knd) es.toList ls ∧ ls.Nodup ∧ es.size < scanBound ∧ t.fits es.size = true ∧ Ris t.place.toList ∧ (w.params.followText "set-order" = true ∨ t.led = true)
theorem SetG.at {h h' : Heap} {a : Addr} {ls : List κ} (R : SetG knd h a ls) (k : ∀ o, h.get? a = some o → h'.get? a = some o) : SetG knd h' a ls := by
  obtain ⟨o, es, ep, t, ho, r⟩ := R
  exact ⟨o, es, ep, t, k o ho, r⟩
theorem good_el {es : List (Int × Value)} {ls : List κ} (p : Paired (GoodG knd) es ls) : ElemsOf knd es := fun e he => by
  obtain ⟨k, _, h1, h2, h3⟩ := paired_in p e he
  exact ⟨⟨k, h1, h2⟩, h3⟩
theorem good_key {es : List (Int × Value)} {ls : List κ} (p : Paired (GoodG knd) es ls) (k : κ) : k ∈ ls ↔ ∃ e ∈ es, knd.is k e.2 = true := by
  constructor
  · intro h
    obtain ⟨e, he, h1, _⟩ := paired_in2 p k h
    exact ⟨e, he, h1⟩
  · rintro ⟨e, he, h1⟩
    obtain ⟨k', hk, h2, _⟩ := paired_in p e he
    rw [knd.inj _ _ _ h1 h2]
    exact hk
variable {A : Around} {E : Value → Shared → Prop} {s : Shared} {a : Addr} {ls : List κ}
/-- what add leaves -/
def Grown (knd : KeyKind P w κ) (h' : Heap) (a : Addr) (ls : List κ) (k : κ) : Prop := (k ∈ ls ∧ SetG knd h' a ls) ∨ (k ∉ ls ∧ ∃ ls', ls'.Perm (k :: ls) ∧ SetG knd h' a ls')
theorem grow_tail {g : Bool → Sem Unit} (hg : ∀ (b : Bool) (s₁ : Shared) (Q' : Unit → Shared → Prop), Q' () s₁ → wpAny (model P w) A (g b) Q' E s₁) {o : Obj} {es es1 : Array (Int × Value)} {ep : Nat} {t t2 : SetTable} {l1 : List κ} {dummy : Bool} {R : Option Bool → Shared → Prop}
    (ho : s.heap.get? a = some o) (hex : o.ExactSet) (hd : o.data = .set es ep t) (pr : Paired (GoodG knd) es1.toList l1) (nd : l1.Nodup) (hb : es1.size < scanBound) (hf : t2.fits es1.size = true) (hr : Ris t2.place.toList) (hl : w.params.followText "set-order" = true ∨ t2.led = true)
    (hR : ∀ h' l2, Heap.SameBut a s.heap h' → l2.Perm l1 → SetG knd h' a l2 → R (some true) { s with heap := h' }) :
    wpAny (model P w) A (storeSet a es1 t2 >>= fun _ => if (!dummy && t2.tooFull) = true then g (relayAll t2 es1 (SetTable.grown es1.size)).2.2 >>= fun _ => storeSet a (relayAll t2 es1 (SetTable.grown es1.size)).1 (relayAll t2 es1 (SetTable.grown es1.size)).2.1 >>= fun _ => pure (some true) else pure (some true)) R E s := by
  have first := store_at (es' := es1) (t' := t2) ho hd
  have other := Heap.SameBut.update s.heap a (Obj.putSet es1 t2)
  refine wpAny_bind (wpAny_storeSet_of ho hd ?_ (fits_of_scanBound hb))
  by_cases full : (!dummy && t2.tooFull) = true
  · rw [if_pos full]
    have q1 := relayAll_perm t2 es1 (SetTable.grown es1.size)
    have q2 := relayAll_fits t2 es1 (SetTable.grown es1.size)
    have q3 := relayAll_ris t2 es1 (SetTable.grown es1.size)
    have q4 := relayAll_led t2 es1 (SetTable.grown es1.size)
    obtain ⟨l2, p2, pr2⟩ := paired_perm q1 pr
    have n2 : (relayAll t2 es1 (SetTable.grown es1.size)).1.size < scanBound := by
      have := q1.length_eq
      simp only [Array.length_toList] at this
      rw [this]; exact hb
    exact wpAny_bind (hg _ _ _ (wpAny_bind (wpAny_storeSet_of first rfl (wpAny_pure (hR _ l2 (other.trans (Heap.SameBut.update _ a _)) p2
      ⟨_, _, _, _, store_at first rfl, hex, rfl, pr2, p2.nodup_iff.mpr nd, n2, q2, q3, hl.imp id fun z => q4.trans z⟩)) (fits_of_scanBound n2))))
  · rw [if_neg full]
    exact wpAny_pure (hR _ l1 other (.refl _) ⟨_, _, _, _, first, hex, rfl, pr, nd, hb, hf, hr, hl⟩)
theorem setG_add {k : κ} {v : Value} {Q : Bool → Shared → Prop} (R : SetG knd s.heap a ls) (hk : knd.is k v = true) (hsc : v.scannable = true) (room : ls.length + 1 < scanBound)
    (hQ : ∀ b h', Heap.SameBut a s.heap h' → Grown knd h' a ls k → Q b { s with heap := h' }) : wpAny (model P w) A (setAddHashed a v (knd.hash k)) Q E s := by
  obtain ⟨o, es, ep, t, ho, hex, hd, pr, nd, hb, hf, hr, hl⟩ := R
  have hlen : es.size = ls.length := by rw [← Array.length_toList]; exact Paired.length pr
  unfold setAddHashed setAddHashedIn
  refine wpAny_holding (wpAny_bind (wpAny_setState_of ho hd hf ?_))
  dsimp only
  rw [byScan_of hsc hb (good_el pr)]
  simp only [↓reduceIte]
  unfold setAddByScan
  refine wpAny_bind (wpAny_bind (wpAny_rule (wpAny_bind (wpAny_setScan_of hk ho hd hf (good_el pr) ?_))))
  cases hfi : List.findIdx? (fun e => knd.is k e.2) es.toList with
  | some j =>
    dsimp only
    obtain ⟨hj, pj, _⟩ := List.findIdx?_eq_some_iff_getElem.mp hfi
    exact wpAny_pure (wpAny_pure (hQ _ s.heap (Heap.SameBut.refl a s.heap) (.inl ⟨(good_key pr k).mpr ⟨_, List.getElem_mem hj, pj⟩, o, es, ep, t, ho, hex, hd, pr, nd, hb, hf, hr, hl⟩)))
  | none =>
    dsimp only
    have hno : k ∉ ls := fun z => by
      obtain ⟨e, he, q⟩ := (good_key pr k).mp z
      have c := List.findIdx?_eq_none_iff.mp hfi e he
      rw [q] at c
      cases c
    have p0 := layNew_perm t es (knd.hash k) v
    have f0 := layNew_fits t es (knd.hash k) v
    have r0 := layNew_ris t es (knd.hash k) v hr
    have l0 := layNew_led t es (knd.hash k) v
    generalize layNew t es (knd.hash k) v = Z at p0 f0 r0 l0 ⊢
    obtain ⟨es1, t1, dummy, gave⟩ := Z
    dsimp only at p0 f0 r0 l0 ⊢
    rw [Array.toList_push] at p0
    obtain ⟨l1, p1, pr1⟩ := paired_perm (p0.trans (List.perm_append_singleton _ _)) (.cons ⟨hk, rfl, hsc⟩ pr)
    have n1 : l1.Nodup := p1.nodup_iff.mpr (List.nodup_cons.mpr ⟨hno, nd⟩)
    have b1 : es1.size < scanBound := by
      have := Paired.length pr1
      rw [p1.length_eq, Array.length_toList, List.length_cons] at this
      rw [this]; exact room
    have led1 : w.params.followText "set-order" = true ∨ t1.led = true := hl.imp id fun z => l0.trans z
    have hgw : ∀ (b : Bool) (s₁ : Shared) (Q' : Unit → Shared → Prop), Q' () s₁ → wpAny (model P w) A (match b with | true => rule "set.scan.the-table-gave-way" | false => pure ()) Q' E s₁ :=
      fun b s₁ Q' q => by cases b <;> first | exact wpAny_pure q | exact wpAny_rule q
    have fin : ∀ h' l2, Heap.SameBut a s.heap h' → l2.Perm l1 → SetG knd h' a l2 → Q true { s with heap := h' } := fun h' l2 sb p2 g => hQ _ h' sb (.inr ⟨hno, l2, p2.trans p1, g⟩)
    refine wpAny_bind (hgw _ _ _ ?_)
    split
    · refine wpAny_bind ?_
      rw [hashByValue_scannable 8 hsc]
      refine wpAny_pure (grow_tail (fun b s₁ Q' q => by cases b <;> first | exact wpAny_pure q | exact wpAny_rule q) ho hex hd pr1 n1 b1 ?_ ?_ ?_ fun h' l2 sb p2 g => by dsimp only; exact wpAny_pure (fin h' l2 sb p2 g))
      · first | (split <;> first | exact f0 | exact SetTable.fits_plain_off f0) | exact f0
      · first | (split <;> exact r0) | exact r0
      · first | (split <;> exact led1) | exact led1
    · refine wpAny_bind (wpAny_pure ?_)
      simp only [↓reduceIte]
      exact grow_tail (fun b s₁ Q' q => by cases b <;> first | exact wpAny_pure q | exact wpAny_rule q) ho hex hd pr1 n1 b1 f0 r0 led1 fun h' l2 sb p2 g => by dsimp only; exact wpAny_pure (fin h' l2 sb p2 g)
end
end PD

/-! PdO: set(xs) of keys, sorted(set(xs)) of texts. -/
namespace PD
open PySem PySem.Spec PyProof.Rows L2

section
variable {P : Program} {w : World} {κ : Type} [DecidableEq κ] {knd : KeyKind P w κ} {A : Around} {E : Value → Shared → Prop} {s : Shared}
theorem paired_at {α β : Type} {r : α → β → Prop} : ∀ {xs : List α} {ys : List β} {i : Nat} {x : α}, Paired r xs ys → xs[i]? = some x → ∃ y, ys[i]? = some y ∧ r x y
  | _, _, _, _, .nil, h => by simp at h
  | _, _, 0, _, .cons h1 _, h => by cases h; exact ⟨_, rfl, h1⟩
  | _, _, i + 1, _, .cons _ h2, h => paired_at (i := i) h2 h
/-- the keys met among the first i -/
structure Met (knd : KeyKind P w κ) (h : Heap) (a : Addr) (ks : List κ) (i : Nat) : Prop where
  ex : ∃ ls, SetG knd h a ls ∧ (∀ k, k ∈ ls ↔ k ∈ ks.take i) ∧ ls.length ≤ i
theorem Met.more {h' : Heap} {a : Addr} {ks ls : List κ} {i : Nat} {k : κ} (hk : ks[i]? = some k) (hm : ∀ k, k ∈ ls ↔ k ∈ ks.take i) (hl : ls.length ≤ i) (g : Grown knd h' a ls k) : Met knd h' a ks (i + 1) := by
  have e : ks.take (i + 1) = ks.take i ++ [k] := by rw [List.take_add_one, hk]; rfl
  rcases g with ⟨c, g⟩ | ⟨c, l2, p, g⟩
  · refine ⟨ls, g, fun z => ?_, by omega⟩
    rw [e, List.mem_append, List.mem_singleton, hm z]
    exact ⟨.inl, fun y => y.elim id fun y => by rw [y]; exact (hm k).mp c⟩
  · refine ⟨l2, g, fun z => ?_, by rw [p.length_eq, List.length_cons]; omega⟩
    rw [e, List.mem_append, List.mem_singleton, p.mem_iff, List.mem_cons, hm z]
    exact Or.comm
theorem loop_keys {R : Result → Shared → Prop} {I : Addr} {fp wr : List Addr} {G : Array GenState → Array GenState → Prop} {n : Nat} {Pv : Nat → Value → Prop} {St : Nat → Shared → Prop} (W : WalksS P w A.in1 I fp wr G n Pv St) (S : Addr) (hSf : S ∉ fp) (ks : List κ) (hn : ks.length = n) (hb : n + 1 < scanBound)
    (hval : ∀ i v, Pv i v → ∃ k, ks[i]? = some k ∧ knd.is k v = true ∧ v.scannable = true) : ∀ (k i : Nat) (s : Shared), n - i = k → i ≤ n → St i s → Met knd s.heap S ks i →
      (∀ s', Moved (S :: wr) G s s' → Met knd s'.heap S ks n → R (.ok (.ret .none)) s') → codeAny (model P w) A (.builtin "set.update.loop" ⟨[.ref S, .ref I], []⟩) R s := by
  have hw : S ∉ wr := fun h => hSf (W.sub _ h)
  have sub : ∀ b ∈ wr, b ∈ S :: wr := fun b hb => List.mem_cons_of_mem _ hb
  intro k
  induction k with
  | zero =>
    intro i s hk hi hst hm hR
    have e : i = n := by omega
    subst e
    refine codeAny_builtin PyProof.Rows.F.entry_set_update_loop ?_
    rw [Around.under_plainId PyProof.Rows.F.plain_set_update_loop _]
    show wpAny _ A.in1 (pyNext (.ref I) >>= _) _ _ s
    refine wpAny_bind (W.done s _ _ hst fun s' mv => ?_)
    obtain ⟨ls, h1, h2⟩ := hm.ex
    show wpAny _ A.in1 (ret Value.none) _ _ s'
    exact wpAny_pure (hR s' (mv.mono sub) ⟨ls, h1.at fun o e => mv.heap S o hw e, h2⟩)
  | succ k ih =>
    intro i s hk hi hst hm hR
    have hlt : i < n := by omega
    refine codeAny_builtin PyProof.Rows.F.entry_set_update_loop ?_
    rw [Around.under_plainId PyProof.Rows.F.plain_set_update_loop _]
    show wpAny _ A.in1 (pyNext (.ref I) >>= _) _ _ s
    refine wpAny_bind (W.item i s _ _ hlt hst fun v s' hP hst' mv => ?_)
    obtain ⟨key, hk1, hk2, hk3⟩ := hval i v hP
    obtain ⟨ls, h1, h2, h3⟩ := hm.ex
    have g1 : SetG knd s'.heap S ls := h1.at fun o e => mv.heap S o hw e
    show wpAny _ A.in1 (holding [v] (setAdd S v) >>= _) _ _ s'
    refine wpAny_bind (wpAny_holding ?_)
    unfold setAdd
    refine wpAny_holding (wpAny_bind (knd.pyHash hk2 ?_))
    refine setG_add (s := { s' with toks := s'.toks + 1 }) g1 hk2 hk3 (by omega) fun b h' sb gr => ?_
    refine wpAny_pure ⟨plainId_quiet PyProof.Rows.F.plain_set_update_loop _, ih (i + 1) _ (by omega) hlt (W.frame _ s' _ _ hst' (Nat.le_succ _) fun b hb o e => ?_) (Met.more hk1 h2 h3 gr) fun s'' mv' met => ?_⟩
    · rw [sb.2 b fun z : b = S => hSf (by rw [← z]; exact hb)]; exact e
    · refine hR s'' (Moved.trans W.gtrans ((mv.mono sub).then_heap (Nat.le_succ _) fun b o hb e => ?_) mv') met
      rw [sb.2 b fun z : b = S => hb (by rw [z]; exact List.mem_cons_self)]; exact e

theorem fresh_met {h : Heap} {a : Addr} {ks : List κ} (ho : h.get? a = some { cls := .type "set", dict := none, data := .set #[] 0 (.fresh 0 0 (!w.params.followText "set-order")) }) : Met knd h a ks 0 :=
  ⟨[], ⟨_, #[], 0, _, ho, ⟨rfl, rfl, rfl⟩, rfl, .nil, List.nodup_nil, by decide, rfl, List.Pairwise.nil, by
    show _ ∨ (!w.params.followText "set-order") = true
    cases w.params.followText "set-order"
    · exact .inr rfl
    · exact .inl rfl⟩, fun k => by simp, Nat.le_refl _⟩
set_option maxHeartbeats 3200000 in
/-- set(xs), xs a list of keys -/
theorem set_of_keys {l : Addr} {items : Array Value} {ks : List κ} {Q : Value → Shared → Prop} (hh : A.handled = none) (hl : s.heap.IsList l items) (hi : Paired (fun v k => knd.is k v = true ∧ v.scannable = true) items.toList ks) (hb : ks.length + 1 < scanBound)
    (h : ∀ (h' : Heap) (tk : Nat) ls, SetG knd h' s.heap.objs.size ls → (∀ k, k ∈ ls ↔ k ∈ ks) → (∀ b o, b < s.heap.objs.size → s.heap.get? b = some o → h'.get? b = some o) → Q (.ref s.heap.objs.size) { s with heap := h', toks := tk }) :
    wpAny (model P w) A (call (.type "set") [.ref l]) Q E s := by
  obtain ⟨c, tl, hmro⟩ := PySem.F.called_set.mro
  have hmade := PySem.F.called_set.made
  have hsub := PySem.F.called_set.sub
  have hsz : ks.length = items.size := by rw [← Paired.length hi, Array.length_toList]
  refine wpAny_call (codeAny_of_tree ?_)
  show wpAny _ _ (callAny (.type "set") _) _ _ _
  refine wpAny_pure ⟨Code.quiet_builtin _ (by decide +kernel), codeAny_builtin PySem.F.entry_type_call ?_⟩
  rw [Around.under_plain (weight_type_call_type "set" [.ref l] []) rfl]
  have h1 := PySem.F.called_set.notType
  have h2 := PySem.F.called_set.canCreate
  have hct := PySem.F.typeCall_set_1 (.ref l)
  repeat (any_goals (first | assumption | wp_step))
  refine codeAny_mono (code_set_led1 (.ref l) (E := E) (Q₁ := fun obj s₁ => obj = .ref s.heap.objs.size ∧ s₁ = { s with heap := s.heap.push { cls := .type "set", dict := none, data := .set #[] 0 (.fresh 0 0 (!w.params.followText "set-order")) } }) ⟨rfl, rfl⟩) fun r s₁ hr => ?_
  cases r with
  | error e => exact hr
  | ok fl =>
    cases fl with
    | ret obj =>
      obtain ⟨rfl, rfl⟩ := hr
      have hS : (s.heap.push { cls := .type "set", dict := none, data := .set #[] 0 (.fresh 0 0 (!w.params.followText "set-order")) }).get? s.heap.objs.size = some { cls := .type "set", dict := none, data := .set #[] 0 (.fresh 0 0 (!w.params.followText "set-order")) } := Heap.get?_push_size _ rfl
      have hT : Shared.TypeIs { s with heap := s.heap.push { cls := .type "set", dict := none, data := .set #[] 0 (.fresh 0 0 (!w.params.followText "set-order")) } } (.ref s.heap.objs.size) "set" := ⟨_, hS, rfl⟩
      have hli := PySem.F.called_set.init.lookup
      have hbi := PySem.F.called_set.init.bind (.ref s.heap.objs.size)
      repeat (any_goals (first | assumption | wp_step))
      refine codeAny_mono (codeAny_call_builtin (R := wants (fun r s₂ => r = .none ∧ ∃ h' tk, s₂ = { s with heap := h', toks := tk } ∧ Met knd h' s.heap.objs.size ks items.size ∧ (∀ b o, b < s.heap.objs.size → s.heap.get? b = some o → h'.get? b = some o)) E) PySem.F.called_set.init.plain PySem.F.entry_set_init (check_set_init_1 hT ?_)) fun r₂ s₂ hr₂ => ?_
      · obtain ⟨ol, hol, hcl, nl, hdl⟩ := hl
        obtain ⟨ocls, odict, odata, oslots⟩ := ol
        simp only at hcl hdl
        subst hcl; subst hdl
        have hol' : (s.heap.push { cls := .type "set", dict := none, data := .set #[] 0 (.fresh 0 0 (!w.params.followText "set-order")) }).get? l = some { cls := .type "list", dict := odict, data := .seq items nl, slots := oslots } := Heap.get?_push_of_some _ hol
        have hsls := PySem.F.sub_list_set
        have hslf := PySem.F.sub_list_frozenset
        have hne : (Value.type "list" == Value.type "dict") = false := by decide
        have hl1 : (s.heap.push { cls := .type "set", dict := none, data := .set #[] 0 (.fresh 0 0 (!w.params.followText "set-order")) }).IsList l items := ⟨_, hol', rfl, nl, rfl⟩
        unfold Builtin.«set.__init__» noKeywords Builtin.Frozenset.updateFrom
        generalize hPI : pyIter = PI
        wp_walk
        subst hPI
        refine wpAny_pyIter_list hl1 ?_
        refine wpAny_bind (wpAny_runValue ?_)
        have hlS : l < s.heap.objs.size := Heap.lt_size hol
        have hps : (s.heap.push { cls := .type "set", dict := none, data := .set #[] 0 (.fresh 0 0 (!w.params.followText "set-order")) }).objs.size = s.heap.objs.size + 1 := Heap.size_push ..
        have neI : l ≠ (s.heap.push { cls := .type "set", dict := none, data := .set #[] 0 (.fresh 0 0 (!w.params.followText "set-order")) }).objs.size := by
          rw [hps]
          exact Nat.ne_of_lt (Nat.lt_succ_of_lt hlS)
        have notin : s.heap.objs.size ∉ [(s.heap.push { cls := .type "set", dict := none, data := .set #[] 0 (.fresh 0 0 (!w.params.followText "set-order")) }).objs.size, l] := by
          rw [hps, List.mem_cons, List.mem_singleton, not_or]
          exact ⟨Nat.ne_of_lt (Nat.lt_succ_self _), Nat.ne_of_gt hlS⟩
        have hh3 : A.in1.in1.in1.handled = none := by simp [hh]
        refine loop_keys (knd := knd) ((Walks.list hh3 _ l neI items).toS) s.heap.objs.size notin ks hsz (by omega) (fun i v hv => ?_) (items.size - 0) 0 _ (by omega) (Nat.zero_le _)
          ⟨⟨_, Heap.get?_push_size _ rfl, rfl, rfl⟩, hl1.push _⟩ (fresh_met (Heap.get?_push_of_some _ hS)) fun s' mv met => ?_
        · have hv' : items.toList[i]? = some v := by rw [Array.getElem?_toList]; exact hv
          obtain ⟨k, k1, k2⟩ := paired_at hi hv'
          exact ⟨k, k1, k2⟩
        · obtain ⟨h', g', d', tk', os'⟩ := s'
          have eg : g' = s.gens := mv.gens
          have ed : d' = s.drawn := mv.drawn
          have eo : os' = s.os := mv.os
          subst eg; subst ed; subst eo
          refine wpAny_pure ?_
          show wpAny _ _ (ret Value.none) _ _ _
          refine wpAny_pure ⟨rfl, h', tk', rfl, met, fun b o hb e => mv.heap b o ?_ (Heap.get?_push_of_some _ (Heap.get?_push_of_some _ e))⟩
          rw [List.mem_cons, List.mem_singleton, not_or, hps]
          exact ⟨Nat.ne_of_lt hb, Nat.ne_of_lt (Nat.lt_succ_of_lt hb)⟩
      · cases r₂ with
        | error e => exact hr₂
        | ok fl₂ =>
          cases fl₂ with
          | ret r =>
            obtain ⟨rfl, h', tk, rfl, met, hk'⟩ := hr₂
            obtain ⟨ls, g1, g2, g3⟩ := met.ex
            repeat (any_goals (first | assumption | wp_step))
            exact h _ _ ls g1 (fun k => by rw [g2 k, ← hsz, List.take_length]) hk'
          | _ => exact hr₂.elim
    | _ => exact hr.elim
end
end PD

/-! PdP: sorted(set(xs)) of texts. -/
namespace PD
open PySem PySem.Spec PyProof.Rows L2

theorem strsAre_pair {P : Program} {w : World} : ∀ {vs : List Value} {ls : List Str}, Paired (fun v k => (strKind P w).is k v = true) vs ls → StrsAre vs ls
  | _, _, .nil => .nil
  | _, _, .cons h1 h2 => by
    obtain ⟨t, rfl⟩ := Value.isStrOf_shape h1
    exact .cons _ t (strsAre_pair h2)
theorem paired_map {α β γ : Type} {f : α → γ} {r : α → β → Prop} {q : γ → β → Prop} (h : ∀ a b, r a b → q (f a) b) : ∀ {xs : List α} {ys : List β}, Paired r xs ys → Paired q (xs.map f) ys
  | _, _, .nil => .nil
  | _, _, .cons h1 h2 => .cons (h _ _ h1) (paired_map h h2)
theorem strs_pair {P : Program} {w : World} : ∀ {xs : List Str} {us : List Value}, Vals (xs.map V.str) us → Paired (fun v k => (strKind P w).is k v = true ∧ v.scannable = true) us xs
  | [], _, .nil => .nil
  | x :: r, _, .cons h1 h2 => by
    obtain ⟨t, rfl⟩ := h1
    exact .cons ⟨strKind_is _ _ _ _, rfl⟩ (strs_pair h2)
theorem nodup_le {α : Type} [DecidableEq α] : ∀ {ls xs : List α}, ls.Nodup → (∀ z ∈ ls, z ∈ xs) → ls.length ≤ xs.length
  | [], _, _, _ => Nat.zero_le _
  | x :: r, xs, nd, h => by
    obtain ⟨n1, n2⟩ := List.nodup_cons.mp nd
    have hx := h x List.mem_cons_self
    have ih := nodup_le (ls := r) (xs := xs.erase x) n2 fun z hz => (List.mem_erase_of_ne fun (e : z = x) => n1 (by rw [← e]; exact hz)).mpr (h z (List.mem_cons_of_mem _ hz))
    rw [List.length_erase_of_mem hx] at ih
    have : 0 < xs.length := List.length_pos_of_mem hx
    rw [List.length_cons]
    omega
section
variable {X : Cx}
theorem sorted_set_strs {pins : List (Addr × Obj)} {σ : Sl} {H : Hp} {s : Shared} {a : Addr} {ls : List Str} {Q : VK} (hc : X.calm = true) (I : Inv X pins σ H s) (R : SetG (strKind X.prog X.w) s.heap a ls) (h64 : ls.length < 64)
    (q : ∀ (ys : List Str) (p : Addr), ys.Perm ls → sortedS ys = true → H p = none → Q (.ref p) (upd H p (.lst (ys.map V.str)))) : wpAny (model X.prog X.w) X.A (call (.builtin "sorted") [.ref a]) (EP X pins σ Q) X.xe s := by
  obtain ⟨o, es, ep, t, ho, hex, hd, pr, nd, hb, hf, hr, hl⟩ := R
  refine Calls.call_function_entry PyProof.Rows.kind_sorted PyProof.Rows.plain_sorted PyProof.Rows.entry_sorted (PyProof.Rows.args_sorted1 _) ?_
  unfold Builtin.«sorted»
  refine wpAny_bind (m := checkCount "sorted" 1 1 _) (wpAny_pure ?_)
  refine wpAny_bind (collect_set (A := X.A.in1) (I.ok.hd hc) ⟨o, ho, hex.1, hd⟩ hf hb hr hl fun s1 vs k1 hz g1 o1 pm => ?_)
  obtain ⟨l1, p1, pr1⟩ := paired_perm pm (paired_map (q := fun v k => (strKind X.prog X.w).is k v = true) (fun _ _ z => z.1) pr)
  have hS : StrsAre vs l1 := strsAre_pair pr1
  have hvl : vs.length = ls.length := by rw [Paired.length pr1, p1.length_eq]
  refine wpAny_bind (wpAny_newList ?_ (by rw [hvl, sizeLine_eq]; omega))
  have hoL : (s1.heap.push (seqObj "list" vs.toArray 0)).get? s1.heap.objs.size = some (seqObj "list" vs.toArray 0) := Heap.get?_push_size _ rfl
  refine wpAny_bind (wpAny_holding (wpAny_call_entry PyProof.Rows.slot_list_sort ⟨_, hoL, rfl⟩ PyProof.Rows.entry_list_sort
    (list_sort_treeK strKind_oneLt (s := { s1 with heap := s1.heap.push (seqObj "list" vs.toArray 0) }) hoL hS.keysOf (fun v₁ v₂ rest e => keyKind_strs (by rw [← e]; exact hS)) (by rw [hvl]; exact h64) fun st' hp hs => ⟨_, rfl, ?_⟩) (PyProof.Rows.args_list_sort _)))
  obtain ⟨ys, g2, g3, g4⟩ := sorted_out_str hS hp hs
  obtain ⟨e', he'⟩ := PyProof.Rows.sortedHeap_at (vs := vs) (out := (arrOf st').map (·.2)) hoL
  have pys : ys.Perm ls := g3.trans p1
  have hlen : (ys.map V.str).length ≤ sizeLine := by
    rw [List.length_map, pys.length_eq]
    exact Nat.le_trans (Nat.le_of_lt h64) (by decide)
  have hn : H s1.heap.objs.size = none := I.hok.fresh hz
  refine wpAny_pure ⟨_, rfl, ?_⟩
  generalize hh2 : PyProof.Rows.sortedHeap (s1.heap.push (seqObj "list" vs.toArray 0)) s1.heap.objs.size vs ((arrOf st').map (·.2)) = h2 at he'
  have keep : ∀ b u, s.heap.get? b = some u → h2.get? b = some u := fun b u e => by
    have y := k1 b u e
    have hlt := Heap.lt_size y
    rw [← hh2, PyProof.Rows.sortedHeap_old (Nat.ne_of_lt hlt) (by rw [size_push']; exact Nat.lt_succ_of_lt hlt)]
    exact Heap.get?_push_of_some _ y
  have J : Inv X pins σ (upd H s1.heap.objs.size (.lst (ys.map V.str))) { s with heap := h2, gens := s1.gens, drawn := s1.drawn, toks := s1.toks } :=
    I.call (ch := []) (Un.laid keep hz hn) (I.hok.laid keep hz ⟨hlen, ((arrOf st').map (·.2)).toList, e', vals_of_strs g2, by rw [Array.toArray_toList]; exact he'⟩) (by rw [g1]; exact I.bare) (fun _ z => nomatch z)
  have es : ({ s1 with heap := h2 } : Shared) = { s with heap := h2, gens := s1.gens, drawn := s1.drawn, toks := s1.toks } := by
    cases s1
    cases s
    cases o1
    rfl
  refine ⟨.ref s1.heap.objs.size, upd H s1.heap.objs.size (.lst (ys.map V.str)), ?_, rfl, q ys _ pys g4 hn⟩
  show Inv X pins σ _ ({ s1 with heap := h2 } : Shared)
  rw [es]
  exact J
/-- sorted(set(xs)), xs a list of texts -/
def tSS (K : PySem.W.Frag) (ta : TE) : TE := fun σ H Q => ta σ H fun x H1 => ∃ l, ∃ xs : List Str, x = .ref l ∧ SqL K H1 l (xs.map V.str) ∧ xs.length < 64 ∧
  ∀ (ys : List Str) (p : Addr), ys.Pairwise leS → ys.Nodup → (∀ z, z ∈ ys ↔ z ∈ xs) → H1 p = none → Q (.ref p) (upd H1 p (.lst (ys.map V.str)))
theorem pe_sortedSet {a : Expr} {ta : TE} {p p2 q pos : Pos} (hc : X.calm = true) (hg : Gl X "sorted") (hm : X.mg "sorted" = none) (hg2 : Gl X "set") (hm2 : X.mg "set" = none) (ha : PE X a ta) (hv : bootBuiltins "sorted" = some (.builtin "sorted") := by kernel_rfl)
    (na : starEach [a] X.env = (false, eval a X.env) :: starEach [] X.env := by rfl) : PE X (.Call (.Name "sorted" p) [.Call (.Name "set" p2) [a] [] q] [] pos) (tSS X.K ta) := by
  refine ⟨fun pins s σ H Q I h => ?_⟩
  refine Call_ (ld_blt I hg hm hv ?_)
  refine PyProof.Rows.callWith_builtin1 (PyProof.Rows.args_cons ?_ rfl) rfl rfl
  refine Call_ (ld_blt I hg2 hm2 boot_set ?_)
  refine PyProof.Rows.callWith_type1 (PyProof.Rows.args_cons (thn (ha.run pins s σ H _ I h) fun v s1 ⟨x, H1, I1, r1, q1⟩ => PyProof.Rows.args_nil ?_) na) na rfl
  obtain ⟨l, xs, rfl, hq, h64, q1⟩ := q1
  cases r1
  obtain ⟨its, r, pl, hz⟩ := I1.list hq
  refine set_of_keys (knd := strKind X.prog X.w) (ks := xs) (I1.ok.hd hc) pl.isList (by simpa using strs_pair r) (by unfold scanBound; omega) fun h' tk ls g mem hk => ?_
  have I2 : Inv X pins σ H1 { s1 with heap := h', toks := tk } := I1.kept fun b o e => hk b o (Heap.lt_size e) e
  have nd : ls.Nodup := by
    obtain ⟨_, _, _, _, _, _, _, _, nd, _⟩ := g
    exact nd
  have hle : ls.length ≤ xs.length := by
    exact nodup_le nd fun z hz => (mem z).mp hz
  refine PyProof.Rows.args_nil ?_
  exact sorted_set_strs hc I2 g (by omega) fun ys p hp hs hn => q1 ys p (sortedS_pair hs) (hp.nodup_iff.mpr nd) (fun z => by rw [hp.mem_iff, mem z]) hn
/-! ### of data -/
def insU (x : Str) : List Str → List Str
  | [] => [x]
  | y :: r => if ltCps y.cps.toList x.cps.toList then y :: insU x r else if ltCps x.cps.toList y.cps.toList then x :: y :: r else y :: r
def sortU : List Str → List Str
  | [] => []
  | x :: r => insU x (sortU r)
theorem insU_mem (x z : Str) : ∀ l : List Str, z ∈ insU x l ↔ z = x ∨ z ∈ l
  | [] => by simp [insU]
  | y :: r => by
    unfold insU
    split
    · rw [List.mem_cons, insU_mem x z r, List.mem_cons]
      exact ⟨fun h => h.elim (fun h => .inr (.inl h)) fun h => h.elim .inl fun h => .inr (.inr h), fun h => h.elim (fun h => .inr (.inl h)) fun h => h.elim .inl fun h => .inr (.inr h)⟩
    · rename_i c1
      split
      · exact List.mem_cons
      · rename_i c2
        have e : x = y := leS_anti (by simpa using c1) (by simpa using c2)
        subst e
        rw [List.mem_cons]
        exact ⟨.inr, fun h => h.elim .inl id⟩
theorem sortU_mem (z : Str) : ∀ l : List Str, z ∈ sortU l ↔ z ∈ l
  | [] => Iff.rfl
  | x :: r => by
    show z ∈ insU x (sortU r) ↔ _
    rw [insU_mem, sortU_mem z r, List.mem_cons]
/-- in order, none twice -/
abbrev ltS (a b : Str) : Prop := ltCps a.cps.toList b.cps.toList = true
theorem ltS_leS {a b : Str} (h : ltS a b) : leS a b := by
  unfold leS
  unfold ltS at h
  rw [ltCps_eq, decide_eq_true_eq] at h
  rw [ltCps_eq]
  exact decide_eq_false fun k => absurd (List.lt_trans h k) (List.lt_irrefl _)
theorem ltS_trans {a b c : Str} (h : ltS a b) (k : ltS b c) : ltS a c := by
  unfold ltS at *
  rw [ltCps_eq, decide_eq_true_eq] at *
  exact List.lt_trans h k
theorem ltS_ne {a b : Str} (h : ltS a b) : a ≠ b := by
  rintro rfl
  unfold ltS at h
  rw [ltCps_eq, decide_eq_true_eq] at h
  exact List.lt_irrefl _ h
theorem insU_sorted (x : Str) : ∀ l : List Str, l.Pairwise ltS → (insU x l).Pairwise ltS
  | [], _ => List.pairwise_singleton ..
  | y :: r, h => by
    obtain ⟨h1, h2⟩ := List.pairwise_cons.mp h
    unfold insU
    split
    · rename_i c
      refine List.pairwise_cons.mpr ⟨fun z hz => ?_, insU_sorted x r h2⟩
      rcases (insU_mem x z r).mp hz with rfl | hz
      · exact c
      · exact h1 z hz
    · split
      · rename_i c
        refine List.pairwise_cons.mpr ⟨fun z hz => ?_, h⟩
        rcases List.mem_cons.mp hz with rfl | hz
        · exact c
        · exact ltS_trans c (h1 z hz)
      · exact h
theorem sortU_sorted : ∀ l : List Str, (sortU l).Pairwise ltS
  | [] => List.Pairwise.nil
  | x :: r => insU_sorted x _ (sortU_sorted r)
theorem sortU_eq {l m : List Str} (s : m.Pairwise leS) (n : m.Nodup) (h : ∀ z, z ∈ m ↔ z ∈ l) : m = sortU l :=
  sorted_uniq s ((sortU_sorted l).imp ltS_leS) ((List.perm_ext_iff_of_nodup n ((sortU_sorted l).imp ltS_ne)).mpr fun z => by rw [h z, sortU_mem])
def sortUD : G1
  | .list ds => match strsD ds with
    | some xs => if xs.length < 64 then some (.list ((sortU xs).map .str), true) else none
    | none => none
  | _ => none
theorem se_sortedSet {a : Expr} {f : OF} {p p2 q pos : Pos} (hc : X.calm = true) (hg : Gl X "sorted") (hm : X.mg "sorted" = none) (hg2 : Gl X "set") (hm2 : X.mg "set" = none) (ha : SO X f a) (hv : bootBuiltins "sorted" = some (.builtin "sorted") := by kernel_rfl)
    (na : starEach [a] X.env = (false, eval a X.env) :: starEach [] X.env := by rfl) : SE X (opF (consO f nilO) (g1 sortUD)) (.Call (.Name "sorted" p) [.Call (.Name "set" p2) [a] [] q] [] pos) := (pe_sortedSet hc hg hm hg2 hm2 ha hv na).imp fun σ H Q h => by
  refine tO_mono (one_imp h) fun x H1 w => ?_
  obtain ⟨O, a, d, fr, m, p1, e, q⟩ := rD1_elim w
  unfold sortUD at e
  split at e
  · split at e
    · rename_i ys h1
      split at e
      · rename_i hl
        cases e
        obtain ⟨p, vs, rfl, h2, h3⟩ := pk_list p1
        rw [strsD_eq h1] at h3
        obtain rfl := denL_strs h3
        exact ⟨p, ys, rfl, h2, hl, fun zs l hs hn hm hf => by
          rw [sortU_eq hs hn hm]
          exact q _ _ (np_list hf strs_denL)⟩
      · cases e
    · cases e
  · cases e
end
end PD

/-! PdQ: what is known of the text's defs and constants; the law's own call. -/
namespace PD
open PySem PySem.Spec PyProof.Rows L2

structure Fn (P : Program) (w : World) (K : PySem.W.Frag) (mg : Str → Option Value) (base : Heap) (k : Nat) (x : Str) (b : Bool) (n : Nat) (F : FF) : Prop where
  ex : ∃ f fd ps, FnOk P w K mg base CX0 k f fd ps (spF K b n F) ∧ mg x = some (.ref f) ∧ PySem.W.keepIn K (.ref f) = true ∧ Binds K fd ps []
theorem Fn.kn {X : Cx} {k : Nat} {x : Str} {b : Bool} {n : Nat} {F : FF} (h : Fn X.prog X.w X.K X.mg X.base k x b n F) (r : Room k X.A) : Kn X x b n [] F := by
  obtain ⟨f, fd, ps, h1, h2, h3, h4⟩ := h.ex
  exact ⟨k, f, fd, ps, [], [], h1, r, h2, h3, h4, .nil, binds_consts, rfl⟩
structure KgM (K : PySem.W.Frag) (mg : Str → Option Value) (x : Str) (d : D) : Prop where
  ex : ∃ v u, mg x = some u ∧ RelV v u ∧ ∀ H, Den K H d v
/-- one argument, a list of ints that all may read -/
theorem law_end {K : PySem.W.Frag} {H : Hp} {a : Addr} {ns : List Int} {F : FF} {E : XK} {Q : VK} {d : D} {fr : Bool} {d0 : D} (hs : SqL K H a (ns.map V.int)) (e : F [.list (ns.map .int)] = some (d, fr, d0)) (q : ∀ v H' B, Den K B d v → Q v H') : spF K false 1 F [.ref a] H Q E := by
  have no : ∀ c, ¬ Oo (fun _ => False) (argE false [PyData.list (ns.map .int)]) [some (V.ref a)] c := fun c z => by
    rcases z with z | ⟨i, d, o, h1, h2, _⟩
    · exact z
    · rcases (argE_get h1).2 with ⟨z, _⟩ | ⟨_, z, _⟩
      · exact h2 z
      · cases z
  have cutE : Same H (Pb (fun _ => False) (argE false [PyData.list (ns.map .int)]) [some (V.ref a)] H) := fun b u h => cut_some.mpr ⟨no b, h⟩
  have dInts : ∀ (B : Hp) (l : List Int), DenL K B (l.map PyData.int) (l.map V.int) := fun B l => by
    induction l with
    | nil => rfl
    | cons x r ih => exact ⟨_, _, rfl, rfl, ih⟩
  refine ⟨rfl, fun _ => False, fun _ => none, [.list (ns.map .int)], d, fr, d0, ⟨rfl, fun i d h => ?_, fun i d o h n => ?_, fun i j b d e o p h1 h2 _ _ _ _ => ?_, fun _ z => z.elim, fun p hp => (nomatch hp), fun i d h => ?_⟩, e, fun v H' p => ?_⟩
  · obtain ⟨h1, _⟩ := argE_get h
    match i, h1 with
    | 0, h1 =>
      cases h1
      exact ⟨_, rfl, a, _, rfl, sqL_le (Le.of_same cutE) hs, dInts _ _⟩
    | i + 1, h1 => simp at h1
  · rcases (argE_get h).2 with ⟨z, _⟩ | ⟨_, z, _⟩
    · exact absurd z n
    · cases z
  · rcases (argE_get h1).2 with ⟨z, _⟩ | ⟨_, z, _⟩
    · exact absurd z h2
    · cases z
  · rcases (argE_get h).2 with ⟨z, _⟩ | ⟨_, z, _⟩
    · cases z
    · cases z
  · exact q v H' _ p.weak.2
end PD

/-! PdS: loops of data, reckoned: comprehensions and for loops by what a turn does. -/
namespace PD
open PySem PySem.Spec

/-- a turn of a comprehension -/
def turnF (vs : List Nat) (g : GF) (t : TF) (f : EF) (d : D) (env : Ev) : Option (Option D × Ev) := match g d env with
  | none => none
  | some e1 => match t e1 with
    | none => none
    | some (false, e2) => some (none, wipeE e2 vs)
    | some (true, e2) => match f e2 with
      | none => none
      | some (y, _, e3) => some (some y, wipeE e3 vs)
/-- a comprehension whose turns leave the frame as it was -/
theorem lcL_eq {vs : List Nat} {g : GF} {t : TF} {f : EF} {env : Ev} (φ : D → Option D) : ∀ (ds : List D), (∀ d ∈ ds, turnF vs g t f d env = some (φ d, env)) → lcL vs g t f ds env = some (ds.filterMap φ, env)
  | [], _ => rfl
  | d :: ds, h => by
    have ih := lcL_eq φ ds fun d hd => h d (List.mem_cons_of_mem _ hd)
    have h1 := h d List.mem_cons_self
    unfold turnF at h1
    split at h1
    · cases h1
    · rename_i e1 k1
      split at h1
      · cases h1
      · rename_i e2 k2
        simp only [Option.some.injEq, Prod.mk.injEq] at h1
        simp only [lcL, k1, k2, h1.2, ih, List.filterMap_cons, ← h1.1]
      · rename_i e2 k2
        split at h1
        · cases h1
        · rename_i y fr e3 k3
          simp only [Option.some.injEq, Prod.mk.injEq] at h1
          simp only [lcL, k1, k2, k3, h1.2, ih, List.filterMap_cons, ← h1.1]
/-- .. over what is made of other things -/
theorem lcL_map {α : Type} {vs : List Nat} {g : GF} {t : TF} {f : EF} {env : Ev} (c : α → D) (φ : α → Option D) (as : List α) (h : ∀ a ∈ as, turnF vs g t f (c a) env = some (φ a, env)) : lcL vs g t f (as.map c) env = some (as.filterMap φ, env) := by
  induction as with
  | nil => rfl
  | cons a r ih =>
    have ih := ih fun b hb => h b (List.mem_cons_of_mem _ hb)
    have h1 := h a List.mem_cons_self
    unfold turnF at h1
    rw [List.map_cons]
    split at h1
    · cases h1
    · rename_i e1 k1
      split at h1
      · cases h1
      · rename_i e2 k2
        simp only [Option.some.injEq, Prod.mk.injEq] at h1
        simp only [lcL, k1, k2, h1.2, ih, List.filterMap_cons, ← h1.1]
      · rename_i e2 k2
        split at h1
        · cases h1
        · rename_i y fr e3 k3
          simp only [Option.some.injEq, Prod.mk.injEq] at h1
          simp only [lcL, k1, k2, k3, h1.2, ih, List.filterMap_cons, ← h1.1]
theorem filterMap_if {α β : Type} (p : α → Bool) (f : α → β) : ∀ l : List α, (l.filterMap fun a => if p a = true then some (f a) else none) = (l.filter p).map f
  | [] => rfl
  | a :: r => by
    rw [List.filterMap_cons, List.filter_cons, filterMap_if p f r]
    cases p a <;> rfl
theorem filterMap_all {α β : Type} (f : α → β) : ∀ l : List α, (l.filterMap fun a => some (f a)) = l.map f
  | [] => rfl
  | a :: r => by rw [List.filterMap_cons, filterMap_all f r]; rfl
theorem eqv_str (a b : Str) : PyData.eqv (.str a) (.str b) = decide (a = b) := by
  rw [Bool.eq_iff_iff]
  simp [PyData.eqv]
theorem eqv_int (a b : Int) : PyData.eqv (.int a) (.int b) = decide (a = b) := by
  rw [Bool.eq_iff_iff]
  simp [PyData.eqv]
theorem eqv_bool (a b : Bool) : PyData.eqv (.bool a) (.bool b) = decide (a = b) := by
  cases a <;> cases b <;> rfl
/-- a for loop that is not left, by an invariant -/
theorem forL_inv {σ : Type} {g : GF} {B : SF} (P : σ → Ev → Prop) (step : σ → D → σ) : ∀ (ds : List D) (s : σ) (e : Ev), (∀ s e d, d ∈ ds → P s e → ∃ e1 e2, g d e = some e1 ∧ (B e1 = some (.nx, e2) ∨ B e1 = some (.ct, e2)) ∧ P (step s d) e2) → P s e → ∃ e', forL g B ds e = some (.nx, e') ∧ P (ds.foldl step s) e'
  | [], s, e, _, hp => ⟨e, rfl, hp⟩
  | d :: ds, s, e, h, hp => by
    obtain ⟨e1, e2, h1, h2, h3⟩ := h s e d List.mem_cons_self hp
    obtain ⟨e', h4, h5⟩ := forL_inv P step ds (step s d) e2 (fun s e d hd => h s e d (List.mem_cons_of_mem _ hd)) h3
    refine ⟨e', ?_, h5⟩
    rcases h2 with h2 | h2 <;> simp only [forL, h1, h2, h4]
theorem while_stop {t : TF} {B : SF} {n : Nat} {e e1 : Ev} (h : t e = some (false, e1)) : whileL t B (n + 1) e = some (.nx, e1) := by simp only [whileL, h]
theorem while_go {t : TF} {B : SF} {n : Nat} {e e1 e2 : Ev} (h : t e = some (true, e1)) (k : B e1 = some (.nx, e2) ∨ B e1 = some (.ct, e2)) : whileL t B (n + 1) e = whileL t B n e2 := by
  rcases k with k | k <;> simp only [whileL, h, k]
theorem strsD_map (xs : List Str) : strsD (xs.map PyData.str) = some xs := by
  induction xs with
  | nil => rfl
  | cons x r ih => simp only [List.map_cons, strsD, ih]
theorem at0 {α : Type} {x : α} {r : List α} : L2.atI (x :: r) 0 = some x := L2.atI_nat (j := 0) rfl
theorem at1 {α : Type} {x y : α} {r : List α} : L2.atI (x :: y :: r) 1 = some y := L2.atI_nat (j := 1) rfl
theorem at2 {α : Type} {x y z : α} {r : List α} : L2.atI (x :: y :: z :: r) 2 = some z := L2.atI_nat (j := 2) rfl
theorem at3 {α : Type} {x y z w : α} {r : List α} : L2.atI (x :: y :: z :: w :: r) 3 = some w := L2.atI_nat (j := 3) rfl
theorem nilO_eq {e : Ev} : nilO e = some ([], e) := rfl
theorem consO_eq {f : OF} {fl : OLF} {e e1 e2 : Ev} {o : Opd} {os : List Opd} (h : f e = some (o, e1)) (k : fl e1 = some (os, e2)) : consO f fl e = some (o :: os, e2) := by
  simp only [consO, h, k]
theorem ofE_eq {f : EF} {e e1 : Ev} {d : D} {fr : Bool} (h : f e = some (d, fr, e1)) : ofE f e = some (.val d, e1) := by
  simp only [ofE, h]
theorem opF_eq {fl : OLF} {g : List D → Option (D × Bool)} {e e1 : Ev} {os : List Opd} {ds : List D} {d : D} {fr : Bool} (h : fl e = some (os, e1)) (k : derefs e1 os = some ds) (q : g ds = some (d, fr)) : opF fl g e = some (d, fr, e1) := by
  simp only [opF, h, k, q]
theorem opFA_eq {fl : OLF} {g : List D → Option (D × Bool)} {e e1 : Ev} {os : List Opd} {ds : List D} {d : D} {fr : Bool} (h : fl e = some (os, e1)) (p : pkS e1 os = []) (k : derefs e1 os = some ds) (q : g ds = some (d, fr)) : opFA fl g e = some (d, fr, e1) := by
  simp only [opFA, h, p, k, q, List.isEmpty_nil, if_true]
theorem callF_eq {F : FF} {dds : List D} {fl : OLF} {e e1 : Ev} {os : List Opd} {ds : List D} {d d0 : D} {fr : Bool} (h : fl e = some (os, e1)) (k : derefs e1 os = some ds) (q : F (ds ++ dds) = some (d, fr, d0)) (p : pkS e1 os = []) : callF F dds fl e = some (d, fr, e1) := by
  simp only [callF, h, k, q, p, List.isEmpty_nil, if_true]
theorem callM_eq {F : FF} {fl : OLF} {e e1 : Ev} {i : Nat} {os : List Opd} {c c' : D} {o : Ow} {ds : List D} {d : D} {fr : Bool} (h : fl e = some (.slot i :: os, e1)) (p : pkS e1 os = []) (g : e1[i]? = some (some (c, o))) (no : o ≠ .sh) (k : derefs e1 os = some ds) (q : F (c :: ds) = some (d, fr, c')) : callM F fl e = some (d, fr, e1.set i (some (c', o))) := by
  simp only [callM, h, p, frzL, g, k, no, q, List.isEmpty_nil, if_true, if_false]
theorem seqF_eq {F G : SF} {e e1 : Ev} (h : F e = some (.nx, e1)) : seqF F G e = G e1 := by
  simp only [seqF, h]
theorem setF_eq {i : Nat} {f : EF} {e e1 e2 : Ev} {d : D} {fr : Bool} (h : f e = some (d, fr, e1)) (k : setv i d fr e1 = some e2) : setF i f e = some (.nx, e2) := by
  simp only [setF, h, k]
theorem asgF_eq {f : EF} {g : GF} {e e1 e2 : Ev} {d : D} {fr : Bool} (h : f e = some (d, fr, e1)) (k : g d e1 = some e2) : asgF f g e = some (.nx, e2) := by
  simp only [asgF, h, k]
theorem ifF_no {t : TF} {F G : SF} {e e1 : Ev} (h : t e = some (false, e1)) : ifF t F G e = G e1 := by
  simp only [ifF, h]
theorem ifF_yes {t : TF} {F G : SF} {e e1 : Ev} (h : t e = some (true, e1)) : ifF t F G e = F e1 := by
  simp only [ifF, h]
theorem tstF_eq {f : EF} {e e1 : Ev} {b fr : Bool} (h : f e = some (.bool b, fr, e1)) : tstF f e = some (b, e1) := by
  simp only [tstF, h]
theorem seqI_list {f : EF} {e e1 : Ev} {l : List D} {fr : Bool} (h : f e = some (.list l, fr, e1)) : seqI f e = some (l, e1) := by
  simp only [seqI, h]
theorem seqI_tup {f : EF} {e e1 : Ev} {l : List D} {fr : Bool} (h : f e = some (.tuple l, fr, e1)) : seqI f e = some (l, e1) := by
  simp only [seqI, h]
theorem lcF_eq {vs : List Nat} {s : IF} {g : GF} {t : TF} {f : EF} {e e1 e2 : Ev} {ds ys : List D} (h : s e = some (ds, e1)) (hl : ds.length ≤ sizeLine) (no : noOwn e1 vs = true) (k : lcL vs g t f ds (wipeE e1 vs) = some (ys, e2)) : lcF vs s g t f e = some (.list ys, true, unw e1 e2 vs) := by
  simp only [lcF, h, hl, no, k, and_self, if_true]
theorem mutF_eq {T : String} {i : Nat} {fl : OLF} {m : MF} {A : Bool} {e e1 : Ev} {os : List Opd} {c0 c c' r : D} {o0 o : Ow} {ds : List D} (h0 : e[i]? = some (some (c0, o0))) (n0 : o0 ≠ .sh) (ty : tyD c0 = T) (hf : fl e = some (os, e1)) (hA : A = true → pkS e1 os = []) (hB : A = false → noSlot i os = true) (g : e1[i]? = some (some (c, o))) (n : o ≠ .sh) (k : derefs e1 os = some ds) (q : m c ds = some (r, c')) :
    mutF T i fl m A e = some (r, false, e1.set i (some (c', o))) := by
  have c1 : ¬ (o0 = .sh ∨ tyD c0 ≠ T) := fun z => z.elim n0 fun z => z ty
  have c2 : ¬ ((A = true ∧ (pkS e1 os).isEmpty = false) ∨ (A = false ∧ noSlot i os = false)) := fun z => by
    rcases z with ⟨z1, z2⟩ | ⟨z1, z2⟩
    · rw [hA z1] at z2; cases z2
    · rw [hB z1] at z2; cases z2
  simp only [mutF, h0, if_neg c1, hf, if_neg c2, g, k, if_neg n, q]
end PD

/-! K13: the defs of the text, of data (printed by gen.py). -/
namespace K13
open PySem PD

def s_open : Str := ⟨#[111, 112, 101, 110]⟩
def s_stands : Str := ⟨#[115, 116, 97, 110, 100, 115]⟩
def s_falls : Str := ⟨#[102, 97, 108, 108, 115]⟩
def s_ : Str := ⟨#[]⟩
def s_c : Str := ⟨#[99]⟩
def s_r : Str := ⟨#[114]⟩
def s_x : Str := ⟨#[120]⟩
def s_y : Str := ⟨#[121]⟩
def s_z : Str := ⟨#[122]⟩
def s_a : Str := ⟨#[97]⟩
def c_LABELS : D := (.tuple [(.str s_stands), (.str s_falls), (.str s_open)])
def attackers_e1 : EF :=
  varE 2
def attackers_t1 : TF :=
  tstF (opF (consO (varO 3) (consO (varO 1) nilO)) (g2 eqD))
def attackers_B : SF :=
  retF (opF (consO (ofE (lcF [2, 3] (seqI (varE 0)) (tupG 2 (consG (nameG 2) (consG (nameG 3) (nilG)))) (attackers_t1) (attackers_e1))) nilO) (g1 sortUD))
def attackers_F : FF := bodyFF false 4 attackers_B
def stands_e1 : EF :=
  opF (consO (ofE (getE (varO 2) (varO 8) (opFA (consO (ofE (cF (.str s_open))) (consO (ofE (opF (consO (ofE (cF (.int 1))) nilO) (g1 negD))) (nilO))) tupD))) (consO (ofE (cF (.int 0))) nilO)) (g2 ixD)
def stands_b1 : SF :=
  seqF (setF 7 (lcF [8] (seqI (callF attackers_F [] (consO (varO 1) (consO (varO 6) (nilO))))) (nameG 8) (yesT) (stands_e1)))
    (ifF (andT (tstF (opF (consO (varO 6) (consO (varO 2) nilO)) (g2 ninD))) (tstF (opF (consO (ofE (cF (.str s_stands))) (consO (varO 7) nilO)) (g2 inD)))) (asgF (opFA (consO (ofE (cF (.str s_falls))) (consO (ofE (varE 3)) (nilO))) tupD) (subG 5 (varO 6))) (ifF (andT (tstF (opF (consO (varO 6) (consO (varO 2) nilO)) (g2 ninD))) (andT (tstF (opF (consO (ofE (cF (.str s_stands))) (consO (varO 7) nilO)) (g2 ninD))) (tstF (opF (consO (ofE (cF (.str s_open))) (consO (varO 7) nilO)) (g2 ninD))))) (asgF (opFA (consO (ofE (cF (.str s_stands))) (consO (ofE (varE 3)) (nilO))) tupD) (subG 5 (varO 6))) (nxF)))
def stands_b2 : SF :=
  seqF (setF 5 (newDF))
    (seqF (forF (seqI (opF (consO (varO 0) (nilO)) (g1 sortD))) (nameG 6) (stands_b1))
    (seqF (exprF (mutF "dict" 2 (consO (varO 5) (nilO)) updateM false))
    (seqF (augF 3 (ofE (cF (.int 1))) iaddD)
    (setF 4 (opF (consO (ofE (opF (consO (varO 5) (nilO)) (g1 lenD))) (consO (ofE (cF (.int 0))) nilO)) (g2 gtD))))))
def stands_e2 : EF :=
  opF (consO (ofE (opFA (consO (ofE (varE 6)) (nilO)) tupD)) (consO (ofE (getE (varO 2) (varO 6) (opFA (consO (ofE (cF (.str s_open))) (consO (ofE (opF (consO (ofE (cF (.int 1))) nilO) (g1 negD))) (nilO))) tupD))) nilO)) (g2 addD)
def stands_B : SF :=
  seqF (setF 2 (newDF))
    (seqF (setF 3 (cF (.int 0)))
    (seqF (setF 4 (cF (.bool true)))
    (seqF (whileL (truF (varO 4)) (stands_b2) 64)
    (retF (opF (consO (ofE (lcF [6] (seqI (opF (consO (varO 0) (nilO)) (g1 sortD))) (nameG 6) (yesT) (stands_e2))) (nilO)) (g1 tupleD))))))
def stands_F : FF := bodyFF false 9 stands_B
def is_settled_e1 : EF :=
  opF (consO (ofE (opF (consO (varO 0) (consO (varO 6) nilO)) (g2 ixD))) (consO (ofE (cF (.int 0))) nilO)) (g2 ixD)
def is_settled_e2 : EF :=
  andE (opF (consO (ofE (opF (consO (ofE (opF (consO (varO 0) (consO (varO 6) nilO)) (g2 ixD))) (consO (ofE (cF (.int 0))) nilO)) (g2 ixD))) (consO (ofE (cF (.str s_falls))) nilO)) (g2 eqD)) (opF (consO (ofE (opF (consO (ofE (opF (consO (varO 0) (consO (varO 6) nilO)) (g2 ixD))) (consO (ofE (cF (.int 1))) nilO)) (g2 ixD))) (consO (varO 5) nilO)) (g2 ltD))
def is_settled_e3 : EF :=
  andE (opF (consO (ofE (opF (consO (ofE (opF (consO (varO 0) (consO (varO 6) nilO)) (g2 ixD))) (consO (ofE (cF (.int 0))) nilO)) (g2 ixD))) (consO (ofE (cF (.str s_stands))) nilO)) (g2 eqD)) (opF (consO (ofE (opF (consO (ofE (opF (consO (varO 0) (consO (varO 6) nilO)) (g2 ixD))) (consO (ofE (cF (.int 1))) nilO)) (g2 ixD))) (consO (varO 5) nilO)) (g2 ltD))
def is_settled_B : SF :=
  seqF (asgF (varE 2) (tupG 2 (consG (nameG 4) (consG (nameG 5) (nilG)))))
    (seqF (setF 3 (lcF [6] (seqI (varE 1)) (nameG 6) (yesT) (is_settled_e1)))
    (seqF (ifF (tstF (opF (consO (varO 4) (consO (ofE (cF (.str s_stands))) nilO)) (g2 eqD))) (retF (andE (opF (consO (varO 5) (consO (ofE (cF (.int 0))) nilO)) (g2 geD)) (opF (consO (ofE (cF (.bool false))) (consO (ofE (lcF [6] (seqI (varE 1)) (nameG 6) (yesT) (is_settled_e2))) nilO)) (g2 ninD)))) (nxF))
    (seqF (ifF (tstF (opF (consO (varO 4) (consO (ofE (cF (.str s_falls))) nilO)) (g2 eqD))) (retF (andE (opF (consO (varO 5) (consO (ofE (cF (.int 0))) nilO)) (g2 geD)) (opF (consO (ofE (cF (.bool true))) (consO (ofE (lcF [6] (seqI (varE 1)) (nameG 6) (yesT) (is_settled_e3))) nilO)) (g2 inD)))) (nxF))
    (retF (andE (opF (consO (varO 5) (consO (ofE (opF (consO (ofE (cF (.int 1))) nilO) (g1 negD))) nilO)) (g2 eqD)) (andE (opF (consO (ofE (cF (.str s_stands))) (consO (varO 3) nilO)) (g2 ninD)) (opF (consO (ofE (cF (.str s_open))) (consO (varO 3) nilO)) (g2 inD))))))))
def is_settled_F : FF := bodyFF false 7 is_settled_B
def judge_stands_e1 : EF :=
  andE (opF (consO (varO 7) nilO) (g1 (isiD .tuple))) (opF (consO (ofE (opF (consO (varO 7) (nilO)) (g1 lenD))) (consO (ofE (cF (.int 3))) nilO)) (g2 eqD))
def judge_stands_e2 : EF :=
  varE 4
def judge_stands_b1 : SF :=
  seqF (ifF (orT (tstF (opF (consO (varO 5) (consO (ofE (cF c_LABELS)) nilO)) (g2 ninD))) (orT (notT (truF (ofE (opF (consO (varO 6) nilO) (g1 (isiD .int)))))) (truF (ofE (opF (consO (varO 6) nilO) (g1 (isiD .bool))))))) (retF (cF (.bool false))) (nxF))
    (asgF (opFA (consO (ofE (varE 5)) (consO (ofE (varE 6)) (nilO))) tupD) (subG 3 (varO 4)))
def judge_stands_e3 : EF :=
  callF is_settled_F [] (consO (varO 3) (consO (ofE (callF attackers_F [] (consO (varO 1) (consO (varO 4) (nilO))))) (consO (ofE (opF (consO (varO 3) (consO (varO 4) nilO)) (g2 ixD))) (nilO))))
def judge_stands_B : SF :=
  seqF (ifF (orT (notT (truF (ofE (opF (consO (varO 2) nilO) (g1 (isiD .tuple)))))) (tstF (opF (consO (ofE (cF (.bool false))) (consO (ofE (lcF [7] (seqI (varE 2)) (nameG 7) (yesT) (judge_stands_e1))) nilO)) (g2 inD)))) (retF (cF (.bool false))) (nxF))
    (seqF (ifF (tstF (opF (consO (ofE (lcF [4, 8] (seqI (varE 2)) (tupG 3 (consG (nameG 4) (consG (nameG 8) (consG (nameG 8) (nilG))))) (yesT) (judge_stands_e2))) (consO (ofE (opF (consO (varO 0) (nilO)) (g1 sortD))) nilO)) (g2 neD))) (retF (cF (.bool false))) (nxF))
    (seqF (setF 3 (newDF))
    (seqF (forF (seqI (varE 2)) (tupG 3 (consG (nameG 4) (consG (nameG 5) (consG (nameG 6) (nilG))))) (judge_stands_b1))
    (retF (opF (consO (ofE (cF (.bool false))) (consO (ofE (lcDF [4] 3 keysOf (nameG 4) (yesT) (judge_stands_e3))) nilO)) (g2 ninD))))))
def judge_stands_F : FF := bodyFF false 9 judge_stands_B
def _law_next_B : SF :=
  seqF (ifF (andT (tstF (opF (consO (ofE (opF (consO (varO 0) (consO (ofE (cF (.int 2))) nilO)) (g2 ixD))) (consO (ofE (cF (.int 0))) nilO)) (g2 eqD))) (tstF (opF (consO (ofE (opF (consO (varO 0) (consO (ofE (cF (.int 1))) nilO)) (g2 ixD))) (consO (ofE (opF (consO (ofE (opF (consO (varO 0) (consO (ofE (cF (.int 0))) nilO)) (g2 ixD))) (nilO)) (g1 lenD))) nilO)) (g2 ltD)))) (seqF (setF 2 (opF (consO (ofE (opF (consO (varO 0) (consO (ofE (cF (.int 0))) nilO)) (g2 ixD))) (consO (ofE (opF (consO (varO 0) (consO (ofE (cF (.int 1))) nilO)) (g2 ixD))) nilO)) (g2 ixD)))
    (seqF (augS 0 (ofE (cF (.int 1))) (ofE (cF (.int 1))) iaddD)
    (ifF (tstF (opF (consO (varO 2) (consO (ofE (opF (consO (ofE (cF (.int 10))) (consO (ofE (cF (.int 18))) nilO)) (g2 powD))) nilO)) (g2 geD))) (asgF (varE 2) (subG 0 (ofE (cF (.int 2))))) (asgF (opF (consO (ofE (opF (consO (ofE (opF (consO (ofE (opF (consO (ofE (opF (consO (ofE (opF (consO (varO 0) (consO (ofE (cF (.int 3))) nilO)) (g2 ixD))) (consO (ofE (cF (.int 48271))) nilO)) (g2 mulD))) (consO (ofE (opF (consO (ofE (opF (consO (varO 2) (nilO)) (g1 intD))) (consO (ofE (cF (.int 2147483647))) nilO)) (g2 modD))) nilO)) (g2 addD))) (consO (ofE (cF (.int 7))) nilO)) (g2 addD))) (nilO)) (g1 intD))) (consO (ofE (cF (.int 2147483647))) nilO)) (g2 modD)) (subG 0 (ofE (cF (.int 3)))))))) (nxF))
    (seqF (ifF (tstF (opF (consO (ofE (opF (consO (varO 0) (consO (ofE (cF (.int 2))) nilO)) (g2 ixD))) (consO (ofE (cF (.int 0))) nilO)) (g2 gtD))) (seqF (setF 3 (opF (consO (ofE (opF (consO (ofE (opF (consO (varO 0) (consO (ofE (cF (.int 2))) nilO)) (g2 ixD))) (nilO)) (g1 intD))) (consO (varO 1) nilO)) (g2 modD)))
    (seqF (asgF (opF (consO (ofE (opF (consO (varO 0) (consO (ofE (cF (.int 2))) nilO)) (g2 ixD))) (consO (varO 1) nilO)) (g2 fdivD)) (subG 0 (ofE (cF (.int 2)))))
    (retF (mvE 3)))) (nxF))
    (seqF (asgF (opF (consO (ofE (opF (consO (ofE (opF (consO (ofE (opF (consO (ofE (opF (consO (varO 0) (consO (ofE (cF (.int 3))) nilO)) (g2 ixD))) (consO (ofE (cF (.int 69621))) nilO)) (g2 mulD))) (consO (ofE (cF (.int 12345))) nilO)) (g2 addD))) (nilO)) (g1 intD))) (consO (ofE (cF (.int 2147483647))) nilO)) (g2 modD)) (subG 0 (ofE (cF (.int 3)))))
    (retF (opF (consO (ofE (opF (consO (ofE (opF (consO (ofE (opF (consO (varO 0) (consO (ofE (cF (.int 3))) nilO)) (g2 ixD))) (consO (ofE (cF (.int 7))) nilO)) (g2 fdivD))) (nilO)) (g1 intD))) (consO (varO 1) nilO)) (g2 modD)))))
def _law_next_F : FF := bodyFF true 4 _law_next_B
def _law_swapped_b1 : SF :=
  exprF (mutF "list" 3 (consO (ofE (mutF "list" 2 (consO (ofE (callM _law_next_F (consO (varO 0) (consO (ofE (opF (consO (varO 2) (nilO)) (g1 lenD))) (nilO))))) (nilO)) popM true)) (nilO)) appendM true)
def _law_swapped_B : SF :=
  seqF (setF 2 (opF (consO (varO 1) (nilO)) (g1 listD)))
    (seqF (setF 3 (opFA (nilO) lstD))
    (seqF (whileL (tstF (opF (consO (varO 2) (consO (ofE (opFA (nilO) lstD)) nilO)) (g2 neD))) (_law_swapped_b1) 64)
    (retF (mvE 3))))
def _law_swapped_F : FF := bodyFF true 4 _law_swapped_B
def _law_labels_e1 : EF :=
  varE 7
def _law_labels_t1 : TF :=
  tstF (opF (consO (varO 8) (consO (varO 5) nilO)) (g2 eqD))
def _law_labels_e2 : EF :=
  varE 7
def _law_labels_t2 : TF :=
  tstF (opF (consO (ofE (opF (consO (ofE (getE (varO 2) (varO 7) (opFA (consO (ofE (cF (.str s_))) (consO (ofE (cF (.int 0))) (nilO))) tupD))) (consO (ofE (cF (.int 0))) nilO)) (g2 ixD))) (consO (ofE (cF (.str s_stands))) nilO)) (g2 eqD))
def _law_labels_e3 : EF :=
  varE 7
def _law_labels_t3 : TF :=
  tstF (opF (consO (ofE (opF (consO (ofE (getE (varO 2) (varO 7) (opFA (consO (ofE (cF (.str s_))) (consO (ofE (cF (.int 0))) (nilO))) tupD))) (consO (ofE (cF (.int 0))) nilO)) (g2 ixD))) (consO (ofE (cF (.str s_falls))) nilO)) (g2 neD))
def _law_labels_b1 : SF :=
  ifF (tstF (opF (consO (varO 5) (consO (varO 2) nilO)) (g2 ninD))) (seqF (setF 6 (lcF [7, 8] (seqI (varE 1)) (tupG 2 (consG (nameG 7) (consG (nameG 8) (nilG)))) (_law_labels_t1) (_law_labels_e1)))
    (ifF (tstF (opF (consO (ofE (lcF [7] (seqI (varE 6)) (nameG 7) (_law_labels_t2) (_law_labels_e2))) (consO (ofE (opFA (nilO) lstD)) nilO)) (g2 neD))) (asgF (opFA (consO (ofE (cF (.str s_falls))) (consO (ofE (varE 3)) (nilO))) tupD) (subG 4 (varO 5))) (ifF (tstF (opF (consO (ofE (lcF [7] (seqI (varE 6)) (nameG 7) (_law_labels_t3) (_law_labels_e3))) (consO (ofE (opFA (nilO) lstD)) nilO)) (g2 eqD))) (asgF (opFA (consO (ofE (cF (.str s_stands))) (consO (ofE (varE 3)) (nilO))) tupD) (subG 4 (varO 5))) (nxF)))) (nxF)
def _law_labels_b2 : SF :=
  seqF (setF 4 (newDF))
    (seqF (forF (seqI (varE 0)) (nameG 5) (_law_labels_b1))
    (seqF (exprF (mutF "dict" 2 (consO (varO 4) (nilO)) updateM false))
    (setF 3 (iteE (tstF (opF (consO (varO 4) (consO (ofE (newDF)) nilO)) (g2 neDict))) (opF (consO (varO 3) (consO (ofE (cF (.int 1))) nilO)) (g2 addD)) (opF (consO (ofE (cF (.int 1))) nilO) (g1 negD))))))
def _law_labels_e4 : EF :=
  opF (consO (ofE (opFA (consO (ofE (varE 5)) (nilO)) tupD)) (consO (ofE (getE (varO 2) (varO 5) (opFA (consO (ofE (cF (.str s_open))) (consO (ofE (opF (consO (ofE (cF (.int 1))) nilO) (g1 negD))) (nilO))) tupD))) nilO)) (g2 addD)
def _law_labels_B : SF :=
  seqF (setF 2 (newDF))
    (seqF (setF 3 (cF (.int 0)))
    (seqF (whileL (tstF (opF (consO (varO 3) (consO (ofE (cF (.int 0))) nilO)) (g2 geD))) (_law_labels_b2) 64)
    (retF (opF (consO (ofE (lcF [5] (seqI (opF (consO (varO 0) (nilO)) (g1 sortD))) (nameG 5) (yesT) (_law_labels_e4))) (nilO)) (g1 tupleD)))))
def _law_labels_F : FF := bodyFF false 9 _law_labels_B
def _law_chain_e1 : EF :=
  opF (consO (varO 0) (consO (ofE (opF (consO (varO 3) (nilO)) (g1 strD))) nilO)) (g2 addD)
def _law_chain_e2 : EF :=
  opFA (consO (ofE (opF (consO (varO 2) (consO (varO 3) nilO)) (g2 ixD))) (consO (ofE (opF (consO (varO 2) (consO (ofE (opF (consO (varO 3) (consO (ofE (cF (.int 1))) nilO)) (g2 addD))) nilO)) (g2 ixD))) (nilO))) tupD
def _law_chain_B : SF :=
  seqF (setF 2 (lcF [3] (rngI (consO (varO 1) (nilO))) (nameG 3) (yesT) (_law_chain_e1)))
    (retF (opFA (consO (ofE (varE 2)) (consO (ofE (lcF [3] (rngI (consO (ofE (opF (consO (varO 1) (consO (ofE (cF (.int 1))) nilO)) (g2 subD))) (nilO))) (nameG 3) (yesT) (_law_chain_e2))) (nilO))) tupD))
def _law_chain_F : FF := bodyFF false 4 _law_chain_B
def _law_known_chain_e1 : EF :=
  opFA (consO (ofE (opF (consO (varO 0) (consO (ofE (opF (consO (varO 2) (nilO)) (g1 strD))) nilO)) (g2 addD))) (consO (ofE (opF (consO (ofE (opFA (consO (ofE (cF (.str s_stands))) (consO (ofE (cF (.str s_falls))) (nilO))) lstD)) (consO (ofE (opF (consO (varO 2) (consO (ofE (cF (.int 2))) nilO)) (g2 modD))) nilO)) (g2 ixD))) (consO (ofE (varE 2)) (nilO)))) tupD
def _law_known_chain_B : SF :=
  retF (lcF [2] (rngI (consO (varO 1) (nilO))) (nameG 2) (yesT) (_law_known_chain_e1))
def _law_known_chain_F : FF := bodyFF false 3 _law_known_chain_B
def law_s1 : SF :=
  setF 1 (opFA (consO (ofE (opF (consO (varO 0) (nilO)) (g1 listD))) (consO (ofE (cF (.int 0))) (consO (ofE (cF (.int 0))) (consO (ofE (cF (.int 1))) (nilO))))) lstD)
def law_s2 : SF :=
  asgF (opFA (consO (ofE (opF (consO (ofE (cF (.int 1))) (consO (ofE (callM _law_next_F (consO (varO 1) (consO (ofE (cF (.int 8))) (nilO))))) nilO)) (g2 addD))) (consO (ofE (opF (consO (ofE (cF (.int 1))) (consO (ofE (callM _law_next_F (consO (varO 1) (consO (ofE (cF (.int 6))) (nilO))))) nilO)) (g2 addD))) (nilO))) tupD) (tupG 2 (consG (nameG 12) (consG (nameG 13) (nilG))))
def law_s3 : SF :=
  asgF (callF _law_chain_F [] (consO (ofE (cF (.str s_c))) (consO (varO 12) (nilO)))) (tupG 2 (consG (nameG 14) (consG (nameG 15) (nilG))))
def law_s4 : SF :=
  asgF (callF _law_chain_F [] (consO (ofE (cF (.str s_r))) (consO (varO 13) (nilO)))) (tupG 2 (consG (nameG 16) (consG (nameG 3) (nilG))))
def law_s5 : SF :=
  setF 3 (opF (consO (varO 3) (consO (ofE (opFA (consO (ofE (opFA (consO (ofE (opF (consO (varO 16) (consO (ofE (opF (consO (ofE (cF (.int 1))) nilO) (g1 negD))) nilO)) (g2 ixD))) (consO (ofE (opF (consO (varO 16) (consO (ofE (cF (.int 0))) nilO)) (g2 ixD))) (nilO))) tupD)) (nilO)) lstD)) nilO)) (g2 addD))
def law_e1 : EF :=
  opFA (consO (ofE (varE 20)) (consO (ofE (opFA (consO (ofE (varE 21)) (consO (ofE (varE 22)) (nilO))) tupD)) (nilO))) tupD
def law_s6 : SF :=
  setF 4 (opF (consO (ofE (lcF [20, 21, 22] (seqI (callF stands_F [] (consO (ofE (opF (consO (varO 14) (consO (varO 16) nilO)) (g2 addD))) (consO (ofE (callM _law_swapped_F (consO (varO 1) (consO (ofE (opF (consO (varO 15) (consO (varO 3) nilO)) (g2 addD))) (nilO))))) (nilO))))) (tupG 3 (consG (nameG 20) (consG (nameG 21) (consG (nameG 22) (nilG))))) (yesT) (law_e1))) (nilO)) (g1 dictD))
def law_e2 : EF :=
  varE 19
def law_t1 : TF :=
  tstF (opF (consO (ofE (opF (consO (varO 4) (consO (ofE (opF (consO (varO 19) (consO (ofE (cF (.int 0))) nilO)) (g2 ixD))) nilO)) (g2 ixD))) (consO (ofE (slF (varO 19) (some (cF (.int 1))) none sliceD)) nilO)) (g2 neD))
def law_e3 : EF :=
  varE 20
def law_t2 : TF :=
  tstF (opF (consO (ofE (opF (consO (varO 4) (consO (varO 20) nilO)) (g2 ixD))) (consO (ofE (opFA (consO (ofE (cF (.str s_open))) (consO (ofE (opF (consO (ofE (cF (.int 1))) nilO) (g1 negD))) (nilO))) tupD)) nilO)) (g2 neD))
def law_s7 : SF :=
  ifF (orT (tstF (opF (consO (ofE (lcF [19] (seqI (callF _law_known_chain_F [] (consO (ofE (cF (.str s_c))) (consO (varO 12) (nilO))))) (nameG 19) (law_t1) (law_e2))) (consO (ofE (opFA (nilO) lstD)) nilO)) (g2 neD))) (tstF (opF (consO (ofE (lcF [20] (seqI (varE 16)) (nameG 20) (law_t2) (law_e3))) (consO (ofE (opFA (nilO) lstD)) nilO)) (g2 neD)))) (retF (cF (.bool false))) (nxF)
def law_s8 : SF :=
  setF 5 (callF stands_F [] (consO (ofE (opF (consO (varO 14) (consO (varO 16) nilO)) (g2 addD))) (consO (ofE (callM _law_swapped_F (consO (varO 1) (consO (ofE (opF (consO (ofE (opF (consO (varO 15) (consO (varO 3) nilO)) (g2 addD))) (consO (ofE (opFA (consO (ofE (opFA (consO (ofE (opF (consO (varO 14) (consO (ofE (opF (consO (ofE (cF (.int 1))) nilO) (g1 negD))) nilO)) (g2 ixD))) (consO (ofE (opF (consO (varO 16) (consO (ofE (cF (.int 0))) nilO)) (g2 ixD))) (nilO))) tupD)) (nilO)) lstD)) nilO)) (g2 addD))) (nilO))))) (nilO))))
def law_e4 : EF :=
  opFA (consO (ofE (varE 20)) (consO (ofE (opFA (consO (ofE (varE 21)) (consO (ofE (varE 22)) (nilO))) tupD)) (nilO))) tupD
def law_s9 : SF :=
  setF 6 (opF (consO (ofE (lcF [20, 21, 22] (seqI (varE 5)) (tupG 3 (consG (nameG 20) (consG (nameG 21) (consG (nameG 22) (nilG))))) (yesT) (law_e4))) (nilO)) (g1 dictD))
def law_e5 : EF :=
  opFA (consO (ofE (opF (consO (varO 16) (consO (varO 18) nilO)) (g2 ixD))) (consO (ofE (opF (consO (ofE (opFA (consO (ofE (cF (.str s_falls))) (consO (ofE (cF (.str s_stands))) (nilO))) lstD)) (consO (ofE (opF (consO (varO 18) (consO (ofE (cF (.int 2))) nilO)) (g2 modD))) nilO)) (g2 ixD))) (consO (ofE (opF (consO (varO 12) (consO (varO 18) nilO)) (g2 addD))) (nilO)))) tupD
def law_s10 : SF :=
  setF 17 (lcF [18] (rngI (consO (varO 13) (nilO))) (nameG 18) (yesT) (law_e5))
def law_e6 : EF :=
  opFA (consO (ofE (varE 20)) (consO (ofE (cF (.str s_open))) (consO (ofE (opF (consO (ofE (cF (.int 1))) nilO) (g1 negD))) (nilO)))) tupD
def law_s11 : SF :=
  setF 17 (lcF [20] (seqI (varE 16)) (nameG 20) (yesT) (law_e6))
def law_s12 : SF :=
  ifF (tstF (opF (consO (ofE (opF (consO (varO 12) (consO (ofE (cF (.int 2))) nilO)) (g2 modD))) (consO (ofE (cF (.int 1))) nilO)) (g2 eqD))) (law_s10) (law_s11)
def law_e7 : EF :=
  varE 19
def law_t3 : TF :=
  tstF (opF (consO (ofE (opF (consO (varO 6) (consO (ofE (opF (consO (varO 19) (consO (ofE (cF (.int 0))) nilO)) (g2 ixD))) nilO)) (g2 ixD))) (consO (ofE (slF (varO 19) (some (cF (.int 1))) none sliceD)) nilO)) (g2 neD))
def law_s13 : SF :=
  ifF (tstF (opF (consO (ofE (lcF [19] (seqI (varE 17)) (nameG 19) (law_t3) (law_e7))) (consO (ofE (opFA (nilO) lstD)) nilO)) (g2 neD))) (retF (cF (.bool false))) (nxF)
def law_s14 : SF :=
  setF 7 (callF stands_F [] (consO (ofE (opF (consO (varO 14) (consO (varO 16) nilO)) (g2 addD))) (consO (ofE (opF (consO (ofE (opF (consO (varO 15) (consO (varO 3) nilO)) (g2 addD))) (consO (ofE (opFA (consO (ofE (opFA (consO (ofE (opF (consO (varO 16) (consO (ofE (cF (.int 0))) nilO)) (g2 ixD))) (consO (ofE (opF (consO (varO 14) (consO (ofE (cF (.int 0))) nilO)) (g2 ixD))) (nilO))) tupD)) (nilO)) lstD)) nilO)) (g2 addD))) (nilO))))
def law_e8 : EF :=
  varE 19
def law_t4 : TF :=
  tstF (opF (consO (ofE (slF (varO 19) (some (cF (.int 1))) none sliceD)) (consO (ofE (opFA (consO (ofE (cF (.str s_open))) (consO (ofE (opF (consO (ofE (cF (.int 1))) nilO) (g1 negD))) (nilO))) tupD)) nilO)) (g2 neD))
def law_s15 : SF :=
  ifF (tstF (opF (consO (ofE (lcF [19] (seqI (varE 7)) (nameG 19) (law_t4) (law_e8))) (consO (ofE (opFA (nilO) lstD)) nilO)) (g2 neD))) (retF (cF (.bool false))) (nxF)
def law_s16 : SF :=
  setF 8 (callM _law_swapped_F (consO (varO 1) (consO (ofE (opF (consO (ofE (opF (consO (varO 15) (consO (varO 3) nilO)) (g2 addD))) (consO (ofE (slF (ofE (opFA (consO (ofE (opFA (consO (ofE (opF (consO (varO 16) (consO (ofE (opF (consO (ofE (cF (.int 1))) nilO) (g1 negD))) nilO)) (g2 ixD))) (consO (ofE (cF (.str s_x))) (nilO))) tupD)) (consO (ofE (opFA (consO (ofE (opF (consO (varO 14) (consO (ofE (cF (.int 0))) nilO)) (g2 ixD))) (consO (ofE (cF (.str s_x))) (nilO))) tupD)) (consO (ofE (opFA (consO (ofE (cF (.str s_y))) (consO (ofE (cF (.str s_y))) (nilO))) tupD)) (consO (ofE (opFA (consO (ofE (cF (.str s_y))) (consO (ofE (cF (.str s_z))) (nilO))) tupD)) (nilO))))) lstD)) none (some (callM _law_next_F (consO (varO 1) (consO (ofE (cF (.int 5))) (nilO))))) sliceD)) nilO)) (g2 addD))) (nilO))))
def law_s17 : SF :=
  setF 9 (callM _law_swapped_F (consO (varO 1) (consO (ofE (opF (consO (ofE (opF (consO (varO 14) (consO (varO 16) nilO)) (g2 addD))) (consO (ofE (opFA (consO (ofE (cF (.str s_x))) (consO (ofE (cF (.str s_y))) (consO (ofE (cF (.str s_z))) (nilO)))) lstD)) nilO)) (g2 addD))) (nilO))))
def law_s18 : SF :=
  setF 10 (callF stands_F [] (consO (varO 9) (consO (ofE (opF (consO (varO 8) (consO (ofE (slF (varO 8) none (some (cF (.int 1))) sliceD)) nilO)) (g2 addD))) (nilO))))
def law_s19 : SF :=
  ifF (orT (tstF (opF (consO (varO 10) (consO (ofE (callF _law_labels_F [] (consO (varO 9) (consO (varO 8) (nilO))))) nilO)) (g2 neD))) (tstF (opF (consO (ofE (callF judge_stands_F [] (consO (varO 9) (consO (varO 8) (consO (varO 10) (nilO)))))) (consO (ofE (cF (.bool true))) nilO)) (g2 isntD)))) (retF (cF (.bool false))) (nxF)
def law_s20 : SF :=
  setF 18 (callM _law_next_F (consO (varO 1) (consO (ofE (opF (consO (varO 10) (nilO)) (g1 lenD))) (nilO))))
def law_s21 : SF :=
  asgF (opF (consO (varO 10) (consO (varO 18) nilO)) (g2 ixD)) (tupG 3 (consG (nameG 20) (consG (nameG 21) (consG (nameG 22) (nilG)))))
def law_s22 : SF :=
  setF 23 (opF (consO (ofE (opF (consO (ofE (slF (varO 10) none (some (varE 18)) sliceD)) (consO (ofE (opFA (consO (ofE (varE 19)) (nilO)) tupD)) nilO)) (g2 addD))) (consO (ofE (slF (varO 10) (some (opF (consO (varO 18) (consO (ofE (cF (.int 1))) nilO)) (g2 addD))) none sliceD)) nilO)) (g2 addD))
def law_s23 : SF :=
  ifF (andT (tstF (opF (consO (varO 19) (consO (ofE (opF (consO (varO 10) (consO (varO 18) nilO)) (g2 ixD))) nilO)) (g2 neD))) (tstF (opF (consO (ofE (callF judge_stands_F [] (consO (varO 9) (consO (varO 8) (consO (varO 23) (nilO)))))) (consO (ofE (cF (.bool false))) nilO)) (g2 isntD)))) (retF (cF (.bool false))) (nxF)
def law_b1 : SF :=
  seqF (law_s22)
    (law_s23)
def law_s24 : SF :=
  forF (seqI (opFA (consO (ofE (opFA (consO (ofE (varE 20)) (consO (ofE (opF (consO (ofE (dispF [(cF (.str s_stands), cF (.str s_falls)), (cF (.str s_falls), cF (.str s_stands)), (cF (.str s_open), cF (.str s_falls))])) (consO (varO 21) nilO)) (g2 ixD))) (consO (ofE (varE 22)) (nilO)))) tupD)) (consO (ofE (opFA (consO (ofE (varE 20)) (consO (ofE (cF (.str s_open))) (consO (ofE (opF (consO (ofE (cF (.int 1))) nilO) (g1 negD))) (nilO)))) tupD)) (consO (ofE (opFA (consO (ofE (varE 20)) (consO (ofE (varE 21)) (consO (ofE (iteE (tstF (opF (consO (varO 21) (consO (ofE (cF (.str s_open))) nilO)) (g2 neD))) (opF (consO (ofE (cF (.int 1))) nilO) (g1 negD)) (cF (.int 0)))) (nilO)))) tupD)) (consO (ofE (opFA (consO (ofE (varE 20)) (consO (ofE (varE 21)) (nilO))) tupD)) (nilO))))) lstD)) (nameG 19) (law_b1)
def law_b2 : SF :=
  seqF (law_s20)
    (seqF (law_s21)
    (law_s24))
def law_s25 : SF :=
  forF (rngI (consO (ofE (cF (.int 3))) (nilO))) (nameG 11) (law_b2)
def law_s26 : SF :=
  ifF (orT (tstF (opF (consO (ofE (callF judge_stands_F [] (consO (varO 9) (consO (varO 8) (consO (ofE (slF (varO 10) (some (cF (.int 1))) none sliceD)) (nilO)))))) (consO (ofE (cF (.bool false))) nilO)) (g2 isntD))) (tstF (opF (consO (ofE (callF judge_stands_F [] (consO (varO 9) (consO (varO 8) (consO (ofE (opF (consO (varO 10) nilO) (g1 revD))) (nilO)))))) (consO (ofE (opF (consO (ofE (opF (consO (varO 10) (nilO)) (g1 lenD))) (consO (ofE (cF (.int 2))) nilO)) (g2 ltD))) nilO)) (g2 neD)))) (retF (cF (.bool false))) (nxF)
def law_b3 : SF :=
  seqF (law_s2)
    (seqF (law_s3)
    (seqF (law_s4)
    (seqF (law_s5)
    (seqF (law_s6)
    (seqF (law_s7)
    (seqF (law_s8)
    (seqF (law_s9)
    (seqF (law_s12)
    (seqF (law_s13)
    (seqF (law_s14)
    (seqF (law_s15)
    (seqF (law_s16)
    (seqF (law_s17)
    (seqF (law_s18)
    (seqF (law_s19)
    (seqF (law_s25)
    (law_s26)))))))))))))))))
def law_s27 : SF :=
  forF (rngI (consO (ofE (cF (.int 3))) (nilO))) (nameG 2) (law_b3)
def law_s28 : SF :=
  retF (andE (opF (consO (ofE (callF stands_F [] (consO (ofE (opFA (nilO) lstD)) (consO (ofE (opFA (nilO) lstD)) (nilO))))) (consO (ofE (opFA (nilO) tupD)) nilO)) (g2 eqD)) (opF (consO (ofE (callF stands_F [] (consO (ofE (opFA (consO (ofE (cF (.str s_a))) (nilO)) lstD)) (consO (ofE (opFA (consO (ofE (opFA (consO (ofE (cF (.str s_a))) (consO (ofE (cF (.str s_a))) (nilO))) tupD)) (nilO)) lstD)) (nilO))))) (consO (ofE (opFA (consO (ofE (opFA (consO (ofE (cF (.str s_a))) (consO (ofE (cF (.str s_open))) (consO (ofE (opF (consO (ofE (cF (.int 1))) nilO) (g1 negD))) (nilO)))) tupD)) (nilO)) tupD)) nilO)) (g2 eqD)))
def law_B : SF :=
  seqF (law_s1)
    (seqF (law_s27)
    (law_s28))
def law_F : FF := bodyFF false 24 law_B
end K13

/-! K13A: who attacks whom. -/
namespace K13
open PySem PD
def encP (p : Str × Str) : D := .tuple [.str p.1, .str p.2]
def att (as : List (Str × Str)) (n : Str) : List Str := sortU ((as.filter fun p => decide (p.2 = n)).map (·.1))
theorem size63 {n : Nat} (h : n < 64) : n ≤ sizeLine := by rw [sizeLine_eq]; omega
theorem attackers_spec (as : List (Str × Str)) (n : Str) (h : as.length < 64) : attackers_F [.list (as.map encP), .str n] = some (.list ((att as n).map .str), true, .none) := by
  have lc : lcL [2, 3] (tupG 2 (consG (nameG 2) (consG (nameG 3) nilG))) attackers_t1 attackers_e1 (as.map encP) [some (.list (as.map encP), .sh), some (.str n, .sh), none, none] = some (((as.filter fun p => decide (p.2 = n)).map (·.1)).map PyData.str, [some (.list (as.map encP), .sh), some (.str n, .sh), none, none]) := by
    rw [lcL_map encP (fun p => if decide (p.2 = n) = true then some (.str p.1) else none) as fun p _ => ?_, filterMap_if (fun p : Str × Str => decide (p.2 = n)) (fun p => PyData.str p.1)]
    · simp
    · by_cases e : p.2 = n
      · simp [attackers_t1, attackers_e1, seqF, setF, retF, exprF, ifF, asgF, augF, augS, parF, opF, opFA, consO, nilO, ofE, varO, varE, mvE, cF, derefs, deref, PD.g1, PD.g2, setv, tstF, truF, trueD, andT, orT, notT, andE, orE, notE, iteE, getE, newDF, dispF, dispL, seqI, rngI, callF, callM, frzL, pkS, immD, immL, mutF, noSlot, tyD, slF, partF, nameG, tupG, consG, nilG, subG, wipeE, unw, noOwn, yesT, PyData.plain, PyData.plainAll, PyData.depth, PyData.depthAll, bodyFF, argE, fin0, nxF, retN, forF, tupD, lstD, turnF, encP, eqD, eqv_str, e]
      · simp [attackers_t1, attackers_e1, seqF, setF, retF, exprF, ifF, asgF, augF, augS, parF, opF, opFA, consO, nilO, ofE, varO, varE, mvE, cF, derefs, deref, PD.g1, PD.g2, setv, tstF, truF, trueD, andT, orT, notT, andE, orE, notE, iteE, getE, newDF, dispF, dispL, seqI, rngI, callF, callM, frzL, pkS, immD, immL, mutF, noSlot, tyD, slF, partF, nameG, tupG, consG, nilG, subG, wipeE, unw, noOwn, yesT, PyData.plain, PyData.plainAll, PyData.depth, PyData.depthAll, bodyFF, argE, fin0, nxF, retN, forF, tupD, lstD, turnF, encP, eqD, eqv_str, e]
  have hl : (as.filter fun p => decide (p.2 = n)).length < 64 := by
    exact Nat.lt_of_le_of_lt (List.length_filter_le _ _) h
  simp [-List.map_map, attackers_F, attackers_B, seqF, setF, retF, exprF, ifF, asgF, augF, augS, parF, opF, opFA, consO, nilO, ofE, varO, varE, mvE, cF, derefs, deref, PD.g1, PD.g2, setv, tstF, truF, trueD, andT, orT, notT, andE, orE, notE, iteE, getE, newDF, dispF, dispL, seqI, rngI, callF, callM, frzL, pkS, immD, immL, mutF, noSlot, tyD, slF, partF, nameG, tupG, consG, nilG, subG, wipeE, unw, noOwn, yesT, PyData.plain, PyData.plainAll, PyData.depth, PyData.depthAll, bodyFF, argE, fin0, nxF, retN, forF, tupD, lstD, turnF, lcF, size63 h, lc, sortUD, strsD_map, hl, att]
end K13

/-! K13B: rows of labels, and what stands says of them. -/
namespace K13
open PySem PD

inductive Lb where
  | st | fa | op
  deriving DecidableEq
def Lb.s : Lb → Str
  | .st => s_stands
  | .fa => s_falls
  | .op => s_open
theorem lb_inj {a b : Lb} : a.s = b.s ↔ a = b := by
  cases a <;> cases b <;> decide
section
variable {α : Type} [DecidableEq α]
abbrev Row (α : Type) := α × Lb × Int
def getR : List (Row α) → α → Option (Lb × Int)
  | [], _ => none
  | p :: r, n => if p.1 = n then some p.2 else getR r n
def labR (fs : List (Row α)) (o : α) : Lb := match getR fs o with
  | some q => q.1
  | none => .op
def hit (as : List (α × α)) (fs : List (Row α)) (n : α) (L : Lb) : Bool := as.any fun p => decide (p.2 = n) && decide (labR fs p.1 = L)
def turnR (as : List (α × α)) (fs : List (Row α)) (r : Int) (n : α) : Option (Row α) := if (getR fs n).isSome then none else if hit as fs n .st then some (n, .fa, r) else if hit as fs n .op then none else some (n, .st, r)
def freshR (as : List (α × α)) (fs : List (Row α)) (r : Int) (names : List α) : List (Row α) := names.filterMap (turnR as fs r)
def runR (as : List (α × α)) (names : List α) : Nat → List (Row α) → Int → Option (List (Row α))
  | 0, _, _ => none
  | k + 1, fs, r => if (freshR as fs r names).isEmpty then (match k with
      | 0 => none
      | _ + 1 => some fs)
    else runR as names k (fs ++ freshR as fs r names) (r + 1)
def rowR (fs : List (Row α)) (n : α) : Row α := match getR fs n with
  | some q => (n, q)
  | none => (n, .op, -1)
theorem getR_app (fs gs : List (Row α)) (n : α) : getR (fs ++ gs) n = match getR fs n with
    | some q => some q
    | none => getR gs n := by
  induction fs with
  | nil => rfl
  | cons p r ih =>
    simp only [List.cons_append, getR]
    split
    · rfl
    · exact ih
theorem getR_none {fs : List (Row α)} {n : α} : getR fs n = none ↔ ∀ p ∈ fs, p.1 ≠ n := by
  induction fs with
  | nil => simp [getR]
  | cons p r ih =>
    simp only [getR, List.mem_cons, forall_eq_or_imp]
    split
    · rename_i e; simp [e]
    · rename_i e; rw [ih]; simp [e]
theorem turnR_key {as : List (α × α)} {fs : List (Row α)} {r : Int} {n : α} {p : Row α} (h : turnR as fs r n = some p) : p.1 = n ∧ getR fs n = none := by
  unfold turnR at h
  split at h
  · cases h
  · rename_i c
    have c : getR fs n = none := by simpa using c
    split at h
    · cases h; exact ⟨rfl, c⟩
    · split at h
      · cases h
      · cases h; exact ⟨rfl, c⟩
theorem fresh_mem {as : List (α × α)} {fs : List (Row α)} {r : Int} {names : List α} {p : Row α} (h : p ∈ freshR as fs r names) : p.1 ∈ names ∧ getR fs p.1 = none := by
  obtain ⟨n, hn, e⟩ := List.mem_filterMap.mp h
  obtain ⟨rfl, h2⟩ := turnR_key e
  exact ⟨hn, h2⟩
theorem fresh_len {as : List (α × α)} {fs : List (Row α)} {r : Int} {names : List α} : (freshR as fs r names).length ≤ names.length := List.length_filterMap_le ..
theorem fresh_nodup {as : List (α × α)} {fs : List (Row α)} {r : Int} : ∀ {names : List α}, names.Nodup → ((freshR as fs r names).map (·.1)).Nodup
  | [], _ => List.nodup_nil
  | n :: ns, h => by
    obtain ⟨h1, h2⟩ := List.nodup_cons.mp h
    have ih := fresh_nodup (as := as) (fs := fs) (r := r) h2
    unfold freshR at ih ⊢
    rw [List.filterMap_cons]
    split
    · exact ih
    · rename_i p e
      rw [List.map_cons]
      refine List.nodup_cons.mpr ⟨fun z => ?_, ih⟩
      obtain ⟨q, hq, e2⟩ := List.mem_map.mp z
      rw [(turnR_key e).1] at e2
      exact h1 (e2 ▸ (fresh_mem hq).1)
end
/-! ### as data -/
def encQ (q : Lb × Int) : D := .tuple [.str q.1.s, .int q.2]
def encKV (p : Row Str) : D × D := (.str p.1, encQ p.2)
def encRow (p : Row Str) : D := .tuple [.str p.1, .str p.2.1.s, .int p.2.2]
theorem look_enc (n : Str) : ∀ fs : List (Row Str), lookD (fs.map encKV) (.str n) = (getR fs n).map encQ
  | [] => rfl
  | p :: r => by
    simp only [List.map_cons, encKV, lookD, keyEq, getR, look_enc n r, decide_eq_true_eq]
    split <;> rfl
theorem put_enc {n : Str} {q : Lb × Int} {fs : List (Row Str)} (h : getR fs n = none) : putP (fs.map encKV) (.str n) (encQ q) = (fs ++ [(n, q)]).map encKV := by
  unfold putP
  rw [look_enc, h]
  simp [encKV]
theorem merge_enc : ∀ {gs fs : List (Row Str)}, (gs.map (·.1)).Nodup → (∀ p ∈ gs, getR fs p.1 = none) → mergeP (fs.map encKV) (gs.map encKV) = (fs ++ gs).map encKV
  | [], fs, _, _ => by simp [mergeP]
  | g :: gs, fs, hn, hg => by
    rw [List.map_cons] at hn
    obtain ⟨h1, h2⟩ := List.nodup_cons.mp hn
    have h3 : putP (fs.map encKV) (encKV g).1 (encKV g).2 = (fs ++ [g]).map encKV := put_enc (hg g List.mem_cons_self)
    have ih := merge_enc (gs := gs) (fs := fs ++ [g]) h2 fun p hp => by
      rw [getR_app, hg p (List.mem_cons_of_mem _ hp)]
      simp only [getR]
      rw [if_neg fun (e : g.1 = p.1) => h1 (by rw [e]; exact List.mem_map_of_mem hp)]
    show mergeP (putP (fs.map encKV) (encKV g).1 (encKV g).2) (gs.map encKV) = _
    rw [h3, ih, List.append_assoc]
    rfl
theorem att_mem {as : List (Str × Str)} {n z : Str} : z ∈ att as n ↔ (z, n) ∈ as := by
  unfold att
  rw [sortU_mem, List.mem_map]
  constructor
  · rintro ⟨p, hp, rfl⟩
    obtain ⟨h1, h2⟩ := List.mem_filter.mp hp
    have h2 : p.2 = n := by simpa using h2
    rw [← h2]
    exact h1
  · exact fun h => ⟨(z, n), List.mem_filter.mpr ⟨h, by simp⟩, rfl⟩
theorem hit_att {as : List (Str × Str)} {fs : List (Row Str)} {n : Str} {L : Lb} : ((att as n).any fun o => decide (labR fs o = L)) = hit as fs n L := by
  rw [Bool.eq_iff_iff, List.any_eq_true]
  unfold hit
  rw [List.any_eq_true]
  constructor
  · rintro ⟨o, h1, h2⟩
    exact ⟨(o, n), att_mem.mp h1, by simpa using h2⟩
  · rintro ⟨p, h1, h2⟩
    simp only [Bool.and_eq_true, decide_eq_true_eq] at h2
    obtain ⟨a, b⟩ := p
    obtain ⟨rfl, h2⟩ := h2
    exact ⟨a, att_mem.mpr h1, by simpa using h2⟩
/-! ### the body of stands -/
def oth (as : List (Str × Str)) (fs : List (Row Str)) (n : Str) : List D := (att as n).map fun o => .str (labR fs o).s
theorem oth_in {as : List (Str × Str)} {fs : List (Row Str)} {n : Str} (L : Lb) : inD (.str L.s) (.list (oth as fs n)) = some (.bool (hit as fs n L), false) := by
  have h1 : PyData.plainAll (oth as fs n) = true := by
    unfold oth
    generalize att as n = l
    induction l with
    | nil => rfl
    | cons x r ih => simpa [PyData.plainAll, PyData.plain] using ih
  have h2 : ((oth as fs n).any fun y => PyData.eqv y (.str L.s)) = hit as fs n L := by
    rw [← hit_att]
    unfold oth
    rw [List.any_map]
    congr 1
    funext o
    simp [eqv_str, lb_inj]
  simp [inD, h1, h2, PyData.plain, PyData.depth]
end K13

/-! K13C: stands reckons the rows. -/
namespace K13
open PySem PD

/-- the frame of stands -/
def stE (names : List Str) (as : List (Str × Str)) (fs : List (Row Str)) (r : Int) (g : Bool) (fr : Option (List (Row Str))) (x y : Option D) : Ev :=
  [some (.list (names.map .str), .sh), some (.list (as.map encP), .sh), some (.dict (fs.map encKV), .ow), some (.int r, .sh), some (.bool g, .sh), fr.map fun l => (.dict (l.map encKV), .ow), x.map fun d => (d, .sh), y.map fun d => (d, .ow), none]
theorem others_lc {names : List Str} {as : List (Str × Str)} {fs : List (Row Str)} {r : Int} {g : Bool} {fr : Option (List (Row Str))} {x y : Option D} (l : List Str) :
    lcL [8] (nameG 8) yesT stands_e1 (l.map .str) (stE names as fs r g fr x y) = some (l.map fun o => .str (labR fs o).s, stE names as fs r g fr x y) := by
  rw [lcL_map PyData.str (fun o => some (.str (labR fs o).s)) l fun o _ => ?_, filterMap_all]
  cases hh : getR fs o with
  | none => simp [stands_e1, stE, seqF, setF, retF, exprF, ifF, asgF, augF, augS, parF, opF, opFA, consO, nilO, ofE, varO, varE, mvE, cF, derefs, deref, PD.g1, PD.g2, setv, tstF, truF, trueD, andT, orT, notT, andE, orE, notE, iteE, getE, newDF, dispF, dispL, seqI, rngI, callF, callM, frzL, pkS, immD, immL, mutF, noSlot, tyD, slF, partF, nameG, tupG, consG, nilG, subG, wipeE, unw, noOwn, yesT, PyData.plain, PyData.plainAll, PyData.depth, PyData.depthAll, bodyFF, argE, fin0, nxF, retN, forF, tupD, lstD, turnF, look_enc, hh, labR, keyD, negD, ixD, at0, Lb.s, size63]
  | some q => simp [stands_e1, stE, seqF, setF, retF, exprF, ifF, asgF, augF, augS, parF, opF, opFA, consO, nilO, ofE, varO, varE, mvE, cF, derefs, deref, PD.g1, PD.g2, setv, tstF, truF, trueD, andT, orT, notT, andE, orE, notE, iteE, getE, newDF, dispF, dispL, seqI, rngI, callF, callM, frzL, pkS, immD, immL, mutF, noSlot, tyD, slF, partF, nameG, tupG, consG, nilG, subG, wipeE, unw, noOwn, yesT, PyData.plain, PyData.plainAll, PyData.depth, PyData.depthAll, bodyFF, argE, fin0, nxF, retN, forF, tupD, lstD, turnF, look_enc, hh, labR, keyD, negD, ixD, at0, encQ, size63]
theorem insU_len (x : Str) : ∀ l : List Str, (insU x l).length ≤ l.length + 1
  | [] => Nat.le_refl _
  | y :: r => by
    unfold insU
    have := insU_len x r
    split
    · simpa using this
    · split <;> simp
theorem sortU_len : ∀ l : List Str, (sortU l).length ≤ l.length
  | [] => Nat.le_refl _
  | x :: r => Nat.le_trans (insU_len x _) (Nat.succ_le_succ (sortU_len r))
theorem att_len {as : List (Str × Str)} {n : Str} : (att as n).length ≤ as.length := by
  unfold att
  refine Nat.le_trans (sortU_len _) ?_
  rw [List.length_map]
  exact List.length_filter_le _ _
theorem key_nin {fs : List (Row Str)} {n : Str} : ninD (.str n) (.dict (fs.map encKV)) = some (.bool (!(getR fs n).isSome), false) := by
  simp [ninD, inD, keyD, look_enc]
/-- a turn of the inner loop -/
theorem stands_turn {names : List Str} {as : List (Str × Str)} {fs fr : List (Row Str)} {r : Int} {x y : Option D} (n : Str) (ha : as.length < 64) (hfr : getR fr n = none) (hl : fr.length < 64) :
    ∃ x' y', (match nameG 6 (.str n) (stE names as fs r true (some fr) x y) with
      | some e1 => stands_b1 e1
      | none => none) = some (.nx, stE names as fs r true (some (fr ++ (turnR as fs r n).toList)) x' y') := by
  have h1 : nameG 6 (.str n) (stE names as fs r true (some fr) x y) = some (stE names as fs r true (some fr) (some (.str n)) y) := by
    cases x <;> simp [stE, seqF, setF, retF, exprF, ifF, asgF, augF, augS, parF, opF, opFA, consO, nilO, ofE, varO, varE, mvE, cF, derefs, deref, PD.g1, PD.g2, setv, tstF, truF, trueD, andT, orT, notT, andE, orE, notE, iteE, getE, newDF, dispF, dispL, seqI, rngI, callF, callM, frzL, pkS, immD, immL, mutF, noSlot, tyD, slF, partF, nameG, tupG, consG, nilG, subG, wipeE, unw, noOwn, yesT, PyData.plain, PyData.plainAll, PyData.depth, PyData.depthAll, bodyFF, argE, fin0, nxF, retN, forF, tupD, lstD, turnF]
  have h2 : callF attackers_F [] (consO (varO 1) (consO (varO 6) nilO)) (stE names as fs r true (some fr) (some (.str n)) y) = some (.list ((att as n).map .str), true, stE names as fs r true (some fr) (some (.str n)) y) := by
    simp [-List.map_map, stE, seqF, setF, retF, exprF, ifF, asgF, augF, augS, parF, opF, opFA, consO, nilO, ofE, varO, varE, mvE, cF, derefs, deref, PD.g1, PD.g2, setv, tstF, truF, trueD, andT, orT, notT, andE, orE, notE, iteE, getE, newDF, dispF, dispL, seqI, rngI, callF, callM, frzL, pkS, immD, immL, mutF, noSlot, tyD, slF, partF, nameG, tupG, consG, nilG, subG, wipeE, unw, noOwn, yesT, PyData.plain, PyData.plainAll, PyData.depth, PyData.depthAll, bodyFF, argE, fin0, nxF, retN, forF, tupD, lstD, turnF, attackers_spec as n ha]
  have hz : (att as n).length ≤ sizeLine := size63 (Nat.lt_of_le_of_lt att_len ha)
  have h3 : lcF [8] (seqI (callF attackers_F [] (consO (varO 1) (consO (varO 6) nilO)))) (nameG 8) yesT stands_e1 (stE names as fs r true (some fr) (some (.str n)) y) = some (.list (oth as fs n), true, stE names as fs r true (some fr) (some (.str n)) y) := by
    have z := others_lc (names := names) (as := as) (fs := fs) (r := r) (g := true) (fr := some fr) (x := some (.str n)) (y := y) (att as n)
    simp only [lcF, seqI, h2]
    simp [stE, seqF, setF, retF, exprF, ifF, asgF, augF, augS, parF, opF, opFA, consO, nilO, ofE, varO, varE, mvE, cF, derefs, deref, PD.g1, PD.g2, setv, tstF, truF, trueD, andT, orT, notT, andE, orE, notE, iteE, getE, newDF, dispF, dispL, seqI, rngI, callF, callM, frzL, pkS, immD, immL, mutF, noSlot, tyD, slF, partF, nameG, tupG, consG, nilG, subG, wipeE, unw, noOwn, yesT, PyData.plain, PyData.plainAll, PyData.depth, PyData.depthAll, bodyFF, argE, fin0, nxF, retN, forF, tupD, lstD, turnF] at z ⊢
    simp [z, oth, hz]
  have h4 : setF 7 (lcF [8] (seqI (callF attackers_F [] (consO (varO 1) (consO (varO 6) nilO)))) (nameG 8) yesT stands_e1) (stE names as fs r true (some fr) (some (.str n)) y) = some (.nx, stE names as fs r true (some fr) (some (.str n)) (some (.list (oth as fs n)))) := by
    simp only [setF, h3]
    cases y <;> simp [stE, seqF, setF, retF, exprF, ifF, asgF, augF, augS, parF, opF, opFA, consO, nilO, ofE, varO, varE, mvE, cF, derefs, deref, PD.g1, PD.g2, setv, tstF, truF, trueD, andT, orT, notT, andE, orE, notE, iteE, getE, newDF, dispF, dispL, seqI, rngI, callF, callM, frzL, pkS, immD, immL, mutF, noSlot, tyD, slF, partF, nameG, tupG, consG, nilG, subG, wipeE, unw, noOwn, yesT, PyData.plain, PyData.plainAll, PyData.depth, PyData.depthAll, bodyFF, argE, fin0, nxF, retN, forF, tupD, lstD, turnF]
  rw [h1]
  refine ⟨some (.str n), some (.list (oth as fs n)), ?_⟩
  show stands_b1 _ = _
  unfold stands_b1
  simp only [seqF, h4]
  have i1 := oth_in (as := as) (fs := fs) (n := n) .st
  have i2 := oth_in (as := as) (fs := fs) (n := n) .op
  simp only [Lb.s] at i1 i2
  have n1 : ninD (.str s_stands) (.list (oth as fs n)) = some (.bool (!hit as fs n .st), false) := by simp only [ninD, i1]
  have n2 : ninD (.str s_open) (.list (oth as fs n)) = some (.bool (!hit as fs n .op), false) := by simp only [ninD, i2]
  have p1 : putP (fr.map encKV) (.str n) (.tuple [.str s_falls, .int r]) = (fr ++ [(n, Lb.fa, r)]).map encKV := put_enc (q := (.fa, r)) hfr
  have p2 : putP (fr.map encKV) (.str n) (.tuple [.str s_stands, .int r]) = (fr ++ [(n, Lb.st, r)]).map encKV := put_enc (q := (.st, r)) hfr
  have hs : fr.length < sizeLine := by rw [sizeLine_eq]; omega
  cases c1 : (getR fs n).isSome <;> cases c2 : hit as fs n .st <;> cases c3 : hit as fs n .op <;>
    simp [-List.map_map, stE, seqF, setF, retF, exprF, ifF, asgF, augF, augS, parF, opF, opFA, consO, nilO, ofE, varO, varE, mvE, cF, derefs, deref, PD.g1, PD.g2, setv, tstF, truF, trueD, andT, orT, notT, andE, orE, notE, iteE, getE, newDF, dispF, dispL, seqI, rngI, callF, callM, frzL, pkS, immD, immL, mutF, noSlot, tyD, slF, partF, nameG, tupG, consG, nilG, subG, wipeE, unw, noOwn, yesT, PyData.plain, PyData.plainAll, PyData.depth, PyData.depthAll, bodyFF, argE, fin0, nxF, retN, forF, tupD, lstD, turnF, key_nin, c1, i1, i2, n1, n2, c2, c3, turnR, size63, putD, keyD, hs, p1, p2]
theorem turn_list {as : List (Str × Str)} {fs : List (Row Str)} {r : Int} {n : Str} {p : Row Str} (h : p ∈ (turnR as fs r n).toList) : p.1 = n := (turnR_key (by simpa using h)).1
/-- the inner loop -/
theorem stands_loop {names : List Str} {as : List (Str × Str)} {fs : List (Row Str)} {r : Int} (ha : as.length < 64) : ∀ (ns : List Str) (fr : List (Row Str)) (x y : Option D), ns.Nodup → (∀ n ∈ ns, getR fr n = none) → fr.length + ns.length ≤ 64 →
    ∃ x' y', forL (nameG 6) stands_b1 (ns.map .str) (stE names as fs r true (some fr) x y) = some (.nx, stE names as fs r true (some (fr ++ freshR as fs r ns)) x' y')
  | [], fr, x, y, _, _, _ => ⟨x, y, by simp [forL, freshR]⟩
  | n :: ns, fr, x, y, hn, hg, hl => by
    obtain ⟨n1, n2⟩ := List.nodup_cons.mp hn
    rw [List.length_cons] at hl
    obtain ⟨x1, y1, h1⟩ := stands_turn (names := names) (fs := fs) (r := r) (x := x) (y := y) n ha (hg n List.mem_cons_self) (by omega)
    have hlen : (turnR as fs r n).toList.length ≤ 1 := by cases turnR as fs r n <;> simp
    obtain ⟨x2, y2, h2⟩ := stands_loop (names := names) ha ns (fr ++ (turnR as fs r n).toList) x1 y1 n2 (fun m hm => by
      rw [getR_app, hg m (List.mem_cons_of_mem _ hm)]
      refine getR_none.mpr fun p hp e => ?_
      rw [turn_list hp] at e
      exact n1 (e ▸ hm)) (by rw [List.length_append]; omega)
    refine ⟨x2, y2, ?_⟩
    have e : fr ++ (turnR as fs r n).toList ++ freshR as fs r ns = fr ++ freshR as fs r (n :: ns) := by
      rw [List.append_assoc]
      congr 1
      unfold freshR
      rw [List.filterMap_cons]
      cases turnR as fs r n <;> rfl
    rw [e] at h2
    simp only [List.map_cons, forL]
    split at h1
    · rename_i e1 k1
      simp only [k1, h1, h2]
    · cases h1
/-- the outer loop's body -/
theorem stands_round {names : List Str} {as : List (Str × Str)} {fs : List (Row Str)} {r : Int} {fr : Option (List (Row Str))} {x y : Option D} (ha : as.length < 64) (hn : names.Nodup) (hl : names.length < 64) (hf : fs.length + names.length ≤ 10000) :
    ∃ x' y', stands_b2 (stE names as fs r true fr x y) = some (.nx, stE names as (fs ++ freshR as fs r (sortS names)) (r + 1) (!(freshR as fs r (sortS names)).isEmpty) (some (freshR as fs r (sortS names))) x' y') := by
  have hs : (sortS names).Nodup := (sortS_perm names).nodup_iff.mpr hn
  have hsl : (sortS names).length = names.length := (sortS_perm names).length_eq
  obtain ⟨x1, y1, h1⟩ := stands_loop (names := names) (fs := fs) (r := r) ha (sortS names) [] x y hs (fun _ _ => rfl) (by simp; omega)
  rw [List.nil_append] at h1
  refine ⟨x1, y1, ?_⟩
  have h0 : setF 5 newDF (stE names as fs r true fr x y) = some (.nx, stE names as fs r true (some []) x y) := by
    cases fr <;> simp [stE, seqF, setF, retF, exprF, ifF, asgF, augF, augS, parF, opF, opFA, consO, nilO, ofE, varO, varE, mvE, cF, derefs, deref, PD.g1, PD.g2, setv, tstF, truF, trueD, andT, orT, notT, andE, orE, notE, iteE, getE, newDF, dispF, dispL, seqI, rngI, callF, callM, frzL, pkS, immD, immL, mutF, noSlot, tyD, slF, partF, nameG, tupG, consG, nilG, subG, wipeE, unw, noOwn, yesT, PyData.plain, PyData.plainAll, PyData.depth, PyData.depthAll, bodyFF, argE, fin0, nxF, retN, forF, tupD, lstD, turnF]
  have h2 : seqI (opF (consO (varO 0) nilO) (PD.g1 sortD)) (stE names as fs r true (some []) x y) = some ((sortS names).map .str, stE names as fs r true (some []) x y) := by
    simp [-List.map_map, stE, seqF, setF, retF, exprF, ifF, asgF, augF, augS, parF, opF, opFA, consO, nilO, ofE, varO, varE, mvE, cF, derefs, deref, PD.g1, PD.g2, setv, tstF, truF, trueD, andT, orT, notT, andE, orE, notE, iteE, getE, newDF, dispF, dispL, seqI, rngI, callF, callM, frzL, pkS, immD, immL, mutF, noSlot, tyD, slF, partF, nameG, tupG, consG, nilG, subG, wipeE, unw, noOwn, yesT, PyData.plain, PyData.plainAll, PyData.depth, PyData.depthAll, bodyFF, argE, fin0, nxF, retN, forF, tupD, lstD, turnF, sortD, strsD_map, hl]
  have hfl : (freshR as fs r (sortS names)).length ≤ names.length := hsl ▸ fresh_len
  have hsz : fs.length + (freshR as fs r (sortS names)).length ≤ sizeLine := by rw [sizeLine_eq]; omega
  have h3 := merge_enc (gs := freshR as fs r (sortS names)) (fs := fs) (fresh_nodup hs) fun p hp => (fresh_mem hp).2
  have e1 : exprF (mutF "dict" 2 (consO (varO 5) nilO) updateM false) (stE names as fs r true (some (freshR as fs r (sortS names))) x1 y1) = some (.nx, stE names as (fs ++ freshR as fs r (sortS names)) r true (some (freshR as fs r (sortS names))) x1 y1) := by
    simp [-List.map_map, -List.map_append, stE, seqF, setF, retF, exprF, ifF, asgF, augF, augS, parF, opF, opFA, consO, nilO, ofE, varO, varE, mvE, cF, derefs, deref, PD.g1, PD.g2, setv, tstF, truF, trueD, andT, orT, notT, andE, orE, notE, iteE, getE, newDF, dispF, dispL, seqI, rngI, callF, callM, frzL, pkS, immD, immL, mutF, noSlot, tyD, slF, partF, nameG, tupG, consG, nilG, subG, wipeE, unw, noOwn, yesT, PyData.plain, PyData.plainAll, PyData.depth, PyData.depthAll, bodyFF, argE, fin0, nxF, retN, forF, tupD, lstD, turnF, updateM, h3, hsz]
  have e2 : augF 3 (ofE (cF (.int 1))) iaddD (stE names as (fs ++ freshR as fs r (sortS names)) r true (some (freshR as fs r (sortS names))) x1 y1) = some (.nx, stE names as (fs ++ freshR as fs r (sortS names)) (r + 1) true (some (freshR as fs r (sortS names))) x1 y1) := by
    simp [-List.map_map, -List.map_append, stE, seqF, setF, retF, exprF, ifF, asgF, augF, augS, parF, opF, opFA, consO, nilO, ofE, varO, varE, mvE, cF, derefs, deref, PD.g1, PD.g2, setv, tstF, truF, trueD, andT, orT, notT, andE, orE, notE, iteE, getE, newDF, dispF, dispL, seqI, rngI, callF, callM, frzL, pkS, immD, immL, mutF, noSlot, tyD, slF, partF, nameG, tupG, consG, nilG, subG, wipeE, unw, noOwn, yesT, PyData.plain, PyData.plainAll, PyData.depth, PyData.depthAll, bodyFF, argE, fin0, nxF, retN, forF, tupD, lstD, turnF, iaddD]
  have e3 : setF 4 (opF (consO (ofE (opF (consO (varO 5) nilO) (PD.g1 lenD))) (consO (ofE (cF (.int 0))) nilO)) (PD.g2 gtD)) (stE names as (fs ++ freshR as fs r (sortS names)) (r + 1) true (some (freshR as fs r (sortS names))) x1 y1) = some (.nx, stE names as (fs ++ freshR as fs r (sortS names)) (r + 1) (!(freshR as fs r (sortS names)).isEmpty) (some (freshR as fs r (sortS names))) x1 y1) := by
    have b : decide (0 < (freshR as fs r (sortS names)).length) = !(freshR as fs r (sortS names)).isEmpty := by
      cases freshR as fs r (sortS names) <;> simp
    simp [-List.map_map, -List.map_append, stE, seqF, setF, retF, exprF, ifF, asgF, augF, augS, parF, opF, opFA, consO, nilO, ofE, varO, varE, mvE, cF, derefs, deref, PD.g1, PD.g2, setv, tstF, truF, trueD, andT, orT, notT, andE, orE, notE, iteE, getE, newDF, dispF, dispL, seqI, rngI, callF, callM, frzL, pkS, immD, immL, mutF, noSlot, tyD, slF, partF, nameG, tupG, consG, nilG, subG, wipeE, unw, noOwn, yesT, PyData.plain, PyData.plainAll, PyData.depth, PyData.depthAll, bodyFF, argE, fin0, nxF, retN, forF, tupD, lstD, turnF, lenD, gtD, b]
  unfold stands_b2
  simp only [seqF, h0, forF, h2, h1, e1, e2, e3]
/-- all of its rounds -/
theorem stands_while {names : List Str} {as : List (Str × Str)} (ha : as.length < 64) (hn : names.Nodup) (hl : names.length < 64) : ∀ (k : Nat) (fs : List (Row Str)) (r : Int) (fr : Option (List (Row Str))) (x y : Option D) (out : List (Row Str)), fs.length + k * names.length ≤ 10000 → runR as (sortS names) k fs r = some out →
    ∃ r' fr' x' y', whileL (truF (varO 4)) stands_b2 k (stE names as fs r true fr x y) = some (.nx, stE names as out r' false fr' x' y')
  | 0, _, _, _, _, _, _, _, h => by cases h
  | k + 1, fs, r, fr, x, y, out, hf, h => by
    have hm : fs.length + names.length ≤ 10000 := by
      rw [Nat.succ_mul] at hf
      omega
    obtain ⟨x1, y1, h1⟩ := stands_round (fr := fr) (x := x) (y := y) (r := r) ha hn hl hm
    have t1 : truF (varO 4) (stE names as fs r true fr x y) = some (true, stE names as fs r true fr x y) := by simp [stE, seqF, setF, retF, exprF, ifF, asgF, augF, augS, parF, opF, opFA, consO, nilO, ofE, varO, varE, mvE, cF, derefs, deref, PD.g1, PD.g2, setv, tstF, truF, trueD, andT, orT, notT, andE, orE, notE, iteE, getE, newDF, dispF, dispL, seqI, rngI, callF, callM, frzL, pkS, immD, immL, mutF, noSlot, tyD, slF, partF, nameG, tupG, consG, nilG, subG, wipeE, unw, noOwn, yesT, PyData.plain, PyData.plainAll, PyData.depth, PyData.depthAll, bodyFF, argE, fin0, nxF, retN, forF, tupD, lstD, turnF]
    rw [while_go t1 (.inl h1)]
    unfold runR at h
    split at h
    · rename_i c
      rw [c]
      have c2 : freshR as fs r (sortS names) = [] := by simpa using c
      rw [c2, List.append_nil]
      split at h
      · cases h
      · rename_i k'
        cases h
        have t2 : ∀ fr, truF (varO 4) (stE names as fs (r + 1) (!true) fr x1 y1) = some (false, stE names as fs (r + 1) false fr x1 y1) := fun fr => by simp [stE, seqF, setF, retF, exprF, ifF, asgF, augF, augS, parF, opF, opFA, consO, nilO, ofE, varO, varE, mvE, cF, derefs, deref, PD.g1, PD.g2, setv, tstF, truF, trueD, andT, orT, notT, andE, orE, notE, iteE, getE, newDF, dispF, dispL, seqI, rngI, callF, callM, frzL, pkS, immD, immL, mutF, noSlot, tyD, slF, partF, nameG, tupG, consG, nilG, subG, wipeE, unw, noOwn, yesT, PyData.plain, PyData.plainAll, PyData.depth, PyData.depthAll, bodyFF, argE, fin0, nxF, retN, forF, tupD, lstD, turnF]
        exact ⟨_, _, _, _, while_stop (t2 _)⟩
    · rename_i c
      have c : (freshR as fs r (sortS names)).isEmpty = false := by simpa using c
      rw [c]
      have hfl : (freshR as fs r (sortS names)).length ≤ names.length := by
        have := fresh_len (as := as) (fs := fs) (r := r) (names := sortS names)
        rw [(sortS_perm names).length_eq] at this
        exact this
      exact stands_while ha hn hl k _ (r + 1) _ x1 y1 out (by
        rw [List.length_append]
        rw [Nat.succ_mul] at hf
        omega) h
theorem stands_spec {names : List Str} {as : List (Str × Str)} {out : List (Row Str)} (ha : as.length < 64) (hn : names.Nodup) (hl : names.length < 64) (h : runR as (sortS names) 64 [] 0 = some out) :
    stands_F [.list (names.map .str), .list (as.map encP)] = some (.tuple ((sortS names).map fun n => encRow (rowR out n)), false, .none) := by
  obtain ⟨r', fr', x', y', h1⟩ := stands_while ha hn hl 64 [] 0 none none none out (by simp; omega) h
  have h0 : argE false [PyData.list (names.map .str), PyData.list (as.map encP)] ++ List.replicate 7 none = [some (.list (names.map .str), .sh), some (.list (as.map encP), .sh), none, none, none, none, none, none, none] := rfl
  have s1 : setF 2 newDF [some (.list (names.map .str), .sh), some (.list (as.map encP), .sh), none, none, none, none, none, none, none] = some (.nx, [some (.list (names.map .str), .sh), some (.list (as.map encP), .sh), some (.dict [], .ow), none, none, none, none, none, none]) := by simp [seqF, setF, retF, exprF, ifF, asgF, augF, augS, parF, opF, opFA, consO, nilO, ofE, varO, varE, mvE, cF, derefs, deref, PD.g1, PD.g2, setv, tstF, truF, trueD, andT, orT, notT, andE, orE, notE, iteE, getE, newDF, dispF, dispL, seqI, rngI, callF, callM, frzL, pkS, immD, immL, mutF, noSlot, tyD, slF, partF, nameG, tupG, consG, nilG, subG, wipeE, unw, noOwn, yesT, PyData.plain, PyData.plainAll, PyData.depth, PyData.depthAll, bodyFF, argE, fin0, nxF, retN, forF, tupD, lstD, turnF]
  have s2 : setF 3 (cF (.int 0)) [some (.list (names.map .str), .sh), some (.list (as.map encP), .sh), some (.dict [], .ow), none, none, none, none, none, none] = some (.nx, [some (.list (names.map .str), .sh), some (.list (as.map encP), .sh), some (.dict [], .ow), some (.int 0, .sh), none, none, none, none, none]) := by simp [seqF, setF, retF, exprF, ifF, asgF, augF, augS, parF, opF, opFA, consO, nilO, ofE, varO, varE, mvE, cF, derefs, deref, PD.g1, PD.g2, setv, tstF, truF, trueD, andT, orT, notT, andE, orE, notE, iteE, getE, newDF, dispF, dispL, seqI, rngI, callF, callM, frzL, pkS, immD, immL, mutF, noSlot, tyD, slF, partF, nameG, tupG, consG, nilG, subG, wipeE, unw, noOwn, yesT, PyData.plain, PyData.plainAll, PyData.depth, PyData.depthAll, bodyFF, argE, fin0, nxF, retN, forF, tupD, lstD, turnF]
  have s3 : setF 4 (cF (.bool true)) [some (.list (names.map .str), .sh), some (.list (as.map encP), .sh), some (.dict [], .ow), some (.int 0, .sh), none, none, none, none, none] = some (.nx, stE names as [] 0 true none none none) := by simp [seqF, setF, retF, exprF, ifF, asgF, augF, augS, parF, opF, opFA, consO, nilO, ofE, varO, varE, mvE, cF, derefs, deref, PD.g1, PD.g2, setv, tstF, truF, trueD, andT, orT, notT, andE, orE, notE, iteE, getE, newDF, dispF, dispL, seqI, rngI, callF, callM, frzL, pkS, immD, immL, mutF, noSlot, tyD, slF, partF, nameG, tupG, consG, nilG, subG, wipeE, unw, noOwn, yesT, PyData.plain, PyData.plainAll, PyData.depth, PyData.depthAll, bodyFF, argE, fin0, nxF, retN, forF, tupD, lstD, turnF, stE]
  -- the rows
  have lc : lcL [6] (nameG 6) yesT stands_e2 ((sortS names).map .str) (stE names as out r' false fr' none y') = some ((sortS names).map fun n => encRow (rowR out n), stE names as out r' false fr' none y') := by
    rw [lcL_map PyData.str (fun n => some (encRow (rowR out n))) (sortS names) fun n _ => ?_, filterMap_all]
    cases hh : getR out n with
    | none => simp [stands_e2, stE, seqF, setF, retF, exprF, ifF, asgF, augF, augS, parF, opF, opFA, consO, nilO, ofE, varO, varE, mvE, cF, derefs, deref, PD.g1, PD.g2, setv, tstF, truF, trueD, andT, orT, notT, andE, orE, notE, iteE, getE, newDF, dispF, dispL, seqI, rngI, callF, callM, frzL, pkS, immD, immL, mutF, noSlot, tyD, slF, partF, nameG, tupG, consG, nilG, subG, wipeE, unw, noOwn, yesT, PyData.plain, PyData.plainAll, PyData.depth, PyData.depthAll, bodyFF, argE, fin0, nxF, retN, forF, tupD, lstD, turnF, look_enc, hh, keyD, negD, addD, size63, encRow, rowR, Lb.s]
    | some q => simp [stands_e2, stE, seqF, setF, retF, exprF, ifF, asgF, augF, augS, parF, opF, opFA, consO, nilO, ofE, varO, varE, mvE, cF, derefs, deref, PD.g1, PD.g2, setv, tstF, truF, trueD, andT, orT, notT, andE, orE, notE, iteE, getE, newDF, dispF, dispL, seqI, rngI, callF, callM, frzL, pkS, immD, immL, mutF, noSlot, tyD, slF, partF, nameG, tupG, consG, nilG, subG, wipeE, unw, noOwn, yesT, PyData.plain, PyData.plainAll, PyData.depth, PyData.depthAll, bodyFF, argE, fin0, nxF, retN, forF, tupD, lstD, turnF, look_enc, hh, keyD, negD, addD, encQ, size63, encRow, rowR]
  have hsl : (sortS names).length ≤ sizeLine := size63 (by rw [(sortS_perm names).length_eq]; exact hl)
  have no : noOwn (stE names as out r' false fr' x' y') [6] = true := by cases x' <;> simp [stE, seqF, setF, retF, exprF, ifF, asgF, augF, augS, parF, opF, opFA, consO, nilO, ofE, varO, varE, mvE, cF, derefs, deref, PD.g1, PD.g2, setv, tstF, truF, trueD, andT, orT, notT, andE, orE, notE, iteE, getE, newDF, dispF, dispL, seqI, rngI, callF, callM, frzL, pkS, immD, immL, mutF, noSlot, tyD, slF, partF, nameG, tupG, consG, nilG, subG, wipeE, unw, noOwn, yesT, PyData.plain, PyData.plainAll, PyData.depth, PyData.depthAll, bodyFF, argE, fin0, nxF, retN, forF, tupD, lstD, turnF]
  have wi : wipeE (stE names as out r' false fr' x' y') [6] = stE names as out r' false fr' none y' := by cases x' <;> simp [stE, seqF, setF, retF, exprF, ifF, asgF, augF, augS, parF, opF, opFA, consO, nilO, ofE, varO, varE, mvE, cF, derefs, deref, PD.g1, PD.g2, setv, tstF, truF, trueD, andT, orT, notT, andE, orE, notE, iteE, getE, newDF, dispF, dispL, seqI, rngI, callF, callM, frzL, pkS, immD, immL, mutF, noSlot, tyD, slF, partF, nameG, tupG, consG, nilG, subG, wipeE, unw, noOwn, yesT, PyData.plain, PyData.plainAll, PyData.depth, PyData.depthAll, bodyFF, argE, fin0, nxF, retN, forF, tupD, lstD, turnF]
  have h2 : seqI (opF (consO (varO 0) nilO) (PD.g1 sortD)) (stE names as out r' false fr' x' y') = some ((sortS names).map .str, stE names as out r' false fr' x' y') := by
    simp [-List.map_map, stE, seqF, setF, retF, exprF, ifF, asgF, augF, augS, parF, opF, opFA, consO, nilO, ofE, varO, varE, mvE, cF, derefs, deref, PD.g1, PD.g2, setv, tstF, truF, trueD, andT, orT, notT, andE, orE, notE, iteE, getE, newDF, dispF, dispL, seqI, rngI, callF, callM, frzL, pkS, immD, immL, mutF, noSlot, tyD, slF, partF, nameG, tupG, consG, nilG, subG, wipeE, unw, noOwn, yesT, PyData.plain, PyData.plainAll, PyData.depth, PyData.depthAll, bodyFF, argE, fin0, nxF, retN, forF, tupD, lstD, turnF, sortD, strsD_map, hl]
  have h3 : lcF [6] (seqI (opF (consO (varO 0) nilO) (PD.g1 sortD))) (nameG 6) yesT stands_e2 (stE names as out r' false fr' x' y') = some (.list ((sortS names).map fun n => encRow (rowR out n)), true, unw (stE names as out r' false fr' x' y') (stE names as out r' false fr' none y') [6]) := by
    simp only [lcF, h2, List.length_map, hsl, no, wi, lc, and_self, if_true]
  unfold stands_F bodyFF stands_B
  rw [show (9 - [PyData.list (names.map .str), PyData.list (as.map encP)].length) = 7 from rfl, h0]
  simp only [seqF, s1, s2, s3, h1, retF, opF, consO, nilO, ofE, h3, derefs, deref, PD.g1, tupleD, fin0]
end K13

/-! K13D: the law's own labels are rows too. -/
namespace K13
open PySem PD

theorem plain_strs : ∀ l : List Str, PyData.plainAll (l.map PyData.str) = true
  | [] => rfl
  | x :: r => by simpa [PyData.plainAll, PyData.plain] using plain_strs r
theorem depth_strs : ∀ l : List Str, PyData.depthAll (l.map PyData.str) = 0
  | [] => rfl
  | x :: r => by simpa [PyData.depthAll, PyData.depth] using depth_strs r
theorem eqv_nil (l : List D) : PyData.eqv (.list l) (.list []) = l.isEmpty := by
  cases l <;> simp [PyData.eqv, PyData.eqvAll]
theorem ne_nil (l : List Str) : neD (.list (l.map .str)) (.list []) = some (.bool (!l.isEmpty), false) := by
  have e : PyData.eqv (.list (l.map .str)) (.list []) = l.isEmpty := by rw [eqv_nil]; cases l <;> rfl
  simp [-List.map_map, neD, PyData.plain, PyData.plainAll, plain_strs, depth_strs, PyData.depth, e]
theorem eq_nil (l : List Str) : eqD (.list (l.map .str)) (.list []) = some (.bool l.isEmpty, false) := by
  have e : PyData.eqv (.list (l.map .str)) (.list []) = l.isEmpty := by rw [eqv_nil]; cases l <;> rfl
  simp [-List.map_map, eqD, PyData.plain, PyData.plainAll, plain_strs, depth_strs, PyData.depth, e]
/-- the frame of _law_labels -/
def lbE (names : List Str) (as : List (Str × Str)) (fs : List (Row Str)) (r : Int) (fr : Option (List (Row Str))) (x y : Option D) : Ev :=
  [some (.list (names.map .str), .sh), some (.list (as.map encP), .sh), some (.dict (fs.map encKV), .ow), some (.int r, .sh), fr.map fun l => (.dict (l.map encKV), .ow), x.map fun d => (d, .sh), y.map fun d => (d, .sh), none, none]
def byL (as : List (Str × Str)) (n : Str) : List Str := (as.filter fun p => decide (p.2 = n)).map (·.1)
theorem hit_by {as : List (Str × Str)} {fs : List (Row Str)} {n : Str} {L : Lb} : ((byL as n).any fun o => decide (labR fs o = L)) = hit as fs n L := by
  unfold byL hit
  rw [List.any_map, List.any_filter]
  congr 1
theorem by_lc {names : List Str} {as : List (Str × Str)} {fs : List (Row Str)} {r : Int} {fr : Option (List (Row Str))} {y : Option D} (n : Str) :
    lcL [7, 8] (tupG 2 (consG (nameG 7) (consG (nameG 8) nilG))) _law_labels_t1 _law_labels_e1 (as.map encP) (lbE names as fs r fr (some (.str n)) y) = some ((byL as n).map .str, lbE names as fs r fr (some (.str n)) y) := by
  rw [lcL_map encP (fun p => if decide (p.2 = n) = true then some (.str p.1) else none) as fun p _ => ?_, filterMap_if (fun p : Str × Str => decide (p.2 = n)) (fun p => PyData.str p.1)]
  · simp [byL]
  · by_cases e : p.2 = n
    · simp [lbE, _law_labels_t1, _law_labels_e1, seqF, setF, retF, exprF, ifF, asgF, augF, augS, parF, opF, opFA, consO, nilO, ofE, varO, varE, mvE, cF, derefs, deref, PD.g1, PD.g2, setv, tstF, truF, trueD, andT, orT, notT, andE, orE, notE, iteE, getE, newDF, dispF, dispL, seqI, rngI, callF, callM, frzL, pkS, immD, immL, mutF, noSlot, tyD, slF, partF, nameG, tupG, consG, nilG, subG, wipeE, unw, noOwn, yesT, PyData.plain, PyData.plainAll, PyData.depth, PyData.depthAll, bodyFF, argE, fin0, nxF, retN, forF, tupD, lstD, turnF, encP, eqD, eqv_str, e]
    · simp [lbE, _law_labels_t1, _law_labels_e1, seqF, setF, retF, exprF, ifF, asgF, augF, augS, parF, opF, opFA, consO, nilO, ofE, varO, varE, mvE, cF, derefs, deref, PD.g1, PD.g2, setv, tstF, truF, trueD, andT, orT, notT, andE, orE, notE, iteE, getE, newDF, dispF, dispL, seqI, rngI, callF, callM, frzL, pkS, immD, immL, mutF, noSlot, tyD, slF, partF, nameG, tupG, consG, nilG, subG, wipeE, unw, noOwn, yesT, PyData.plain, PyData.plainAll, PyData.depth, PyData.depthAll, bodyFF, argE, fin0, nxF, retN, forF, tupD, lstD, turnF, encP, eqD, eqv_str, e]
theorem st_lc {names : List Str} {as : List (Str × Str)} {fs : List (Row Str)} {r : Int} {fr : Option (List (Row Str))} {x y : Option D} (l : List Str) :
    lcL [7] (nameG 7) _law_labels_t2 _law_labels_e2 (l.map .str) (lbE names as fs r fr x y) = some ((l.filter fun o => decide (labR fs o = .st)).map .str, lbE names as fs r fr x y) := by
  rw [lcL_map PyData.str (fun o => if decide (labR fs o = .st) = true then some (.str o) else none) l fun o _ => ?_, filterMap_if (fun o => decide (labR fs o = .st)) PyData.str]
  have e0 : decide (s_ = s_stands) = false := by decide
  cases hh : getR fs o with
  | none => simp [_law_labels_t2, _law_labels_e2, lbE, seqF, setF, retF, exprF, ifF, asgF, augF, augS, parF, opF, opFA, consO, nilO, ofE, varO, varE, mvE, cF, derefs, deref, PD.g1, PD.g2, setv, tstF, truF, trueD, andT, orT, notT, andE, orE, notE, iteE, getE, newDF, dispF, dispL, seqI, rngI, callF, callM, frzL, pkS, immD, immL, mutF, noSlot, tyD, slF, partF, nameG, tupG, consG, nilG, subG, wipeE, unw, noOwn, yesT, PyData.plain, PyData.plainAll, PyData.depth, PyData.depthAll, bodyFF, argE, fin0, nxF, retN, forF, tupD, lstD, turnF, look_enc, hh, labR, keyD, ixD, at0, size63, eqD, eqv_str, e0]
  | some q =>
    have e1 : decide (q.1.s = s_stands) = decide (q.1 = .st) := by
      rw [decide_eq_decide]
      exact lb_inj (b := .st)
    by_cases c : q.1 = .st
    · simp [_law_labels_t2, _law_labels_e2, lbE, seqF, setF, retF, exprF, ifF, asgF, augF, augS, parF, opF, opFA, consO, nilO, ofE, varO, varE, mvE, cF, derefs, deref, PD.g1, PD.g2, setv, tstF, truF, trueD, andT, orT, notT, andE, orE, notE, iteE, getE, newDF, dispF, dispL, seqI, rngI, callF, callM, frzL, pkS, immD, immL, mutF, noSlot, tyD, slF, partF, nameG, tupG, consG, nilG, subG, wipeE, unw, noOwn, yesT, PyData.plain, PyData.plainAll, PyData.depth, PyData.depthAll, bodyFF, argE, fin0, nxF, retN, forF, tupD, lstD, turnF, look_enc, hh, labR, keyD, ixD, at0, size63, eqD, eqv_str, encQ, c, Lb.s]
    · simp [_law_labels_t2, _law_labels_e2, lbE, seqF, setF, retF, exprF, ifF, asgF, augF, augS, parF, opF, opFA, consO, nilO, ofE, varO, varE, mvE, cF, derefs, deref, PD.g1, PD.g2, setv, tstF, truF, trueD, andT, orT, notT, andE, orE, notE, iteE, getE, newDF, dispF, dispL, seqI, rngI, callF, callM, frzL, pkS, immD, immL, mutF, noSlot, tyD, slF, partF, nameG, tupG, consG, nilG, subG, wipeE, unw, noOwn, yesT, PyData.plain, PyData.plainAll, PyData.depth, PyData.depthAll, bodyFF, argE, fin0, nxF, retN, forF, tupD, lstD, turnF, look_enc, hh, labR, keyD, ixD, at0, size63, eqD, eqv_str, encQ, e1, c]
theorem fa_lc {names : List Str} {as : List (Str × Str)} {fs : List (Row Str)} {r : Int} {fr : Option (List (Row Str))} {x y : Option D} (l : List Str) :
    lcL [7] (nameG 7) _law_labels_t3 _law_labels_e3 (l.map .str) (lbE names as fs r fr x y) = some ((l.filter fun o => !decide (labR fs o = .fa)).map .str, lbE names as fs r fr x y) := by
  rw [lcL_map PyData.str (fun o => if (!decide (labR fs o = .fa)) = true then some (.str o) else none) l fun o _ => ?_, filterMap_if (fun o => !decide (labR fs o = .fa)) PyData.str]
  have e0 : decide (s_ = s_falls) = false := by decide
  cases hh : getR fs o with
  | none => simp [_law_labels_t3, _law_labels_e3, lbE, seqF, setF, retF, exprF, ifF, asgF, augF, augS, parF, opF, opFA, consO, nilO, ofE, varO, varE, mvE, cF, derefs, deref, PD.g1, PD.g2, setv, tstF, truF, trueD, andT, orT, notT, andE, orE, notE, iteE, getE, newDF, dispF, dispL, seqI, rngI, callF, callM, frzL, pkS, immD, immL, mutF, noSlot, tyD, slF, partF, nameG, tupG, consG, nilG, subG, wipeE, unw, noOwn, yesT, PyData.plain, PyData.plainAll, PyData.depth, PyData.depthAll, bodyFF, argE, fin0, nxF, retN, forF, tupD, lstD, turnF, look_enc, hh, labR, keyD, ixD, at0, size63, neD, eqv_str, e0]
  | some q =>
    have e1 : decide (q.1.s = s_falls) = decide (q.1 = .fa) := by
      rw [decide_eq_decide]
      exact lb_inj (b := .fa)
    by_cases c : q.1 = .fa
    · simp [_law_labels_t3, _law_labels_e3, lbE, seqF, setF, retF, exprF, ifF, asgF, augF, augS, parF, opF, opFA, consO, nilO, ofE, varO, varE, mvE, cF, derefs, deref, PD.g1, PD.g2, setv, tstF, truF, trueD, andT, orT, notT, andE, orE, notE, iteE, getE, newDF, dispF, dispL, seqI, rngI, callF, callM, frzL, pkS, immD, immL, mutF, noSlot, tyD, slF, partF, nameG, tupG, consG, nilG, subG, wipeE, unw, noOwn, yesT, PyData.plain, PyData.plainAll, PyData.depth, PyData.depthAll, bodyFF, argE, fin0, nxF, retN, forF, tupD, lstD, turnF, look_enc, hh, labR, keyD, ixD, at0, size63, neD, eqv_str, encQ, c, Lb.s]
    · simp [_law_labels_t3, _law_labels_e3, lbE, seqF, setF, retF, exprF, ifF, asgF, augF, augS, parF, opF, opFA, consO, nilO, ofE, varO, varE, mvE, cF, derefs, deref, PD.g1, PD.g2, setv, tstF, truF, trueD, andT, orT, notT, andE, orE, notE, iteE, getE, newDF, dispF, dispL, seqI, rngI, callF, callM, frzL, pkS, immD, immL, mutF, noSlot, tyD, slF, partF, nameG, tupG, consG, nilG, subG, wipeE, unw, noOwn, yesT, PyData.plain, PyData.plainAll, PyData.depth, PyData.depthAll, bodyFF, argE, fin0, nxF, retN, forF, tupD, lstD, turnF, look_enc, hh, labR, keyD, ixD, at0, size63, neD, eqv_str, encQ, e1, c]
theorem by_len {as : List (Str × Str)} {n : Str} : (byL as n).length ≤ as.length := by
  unfold byL
  rw [List.length_map]
  exact List.length_filter_le _ _
theorem any_cong {α : Type} {p q : α → Bool} : ∀ {l : List α}, (∀ a ∈ l, p a = q a) → l.any p = l.any q
  | [], _ => rfl
  | a :: r, h => by rw [List.any_cons, List.any_cons, h a List.mem_cons_self, any_cong fun b hb => h b (List.mem_cons_of_mem _ hb)]
theorem filter_none {α : Type} (p : α → Bool) (l : List α) : (l.filter p).isEmpty = !l.any p := by
  induction l with
  | nil => rfl
  | cons a r ih =>
    rw [List.filter_cons, List.any_cons]
    cases p a
    · simpa using ih
    · rfl
/-- a turn of the inner loop -/
theorem labels_turn {names : List Str} {as : List (Str × Str)} {fs fr : List (Row Str)} {r : Int} {x y : Option D} (n : Str) (ha : as.length < 64) (hfr : getR fr n = none) (hl : fr.length < 64) :
    ∃ x' y', (match nameG 5 (.str n) (lbE names as fs r (some fr) x y) with
      | some e1 => _law_labels_b1 e1
      | none => none) = some (.nx, lbE names as fs r (some (fr ++ (turnR as fs r n).toList)) x' y') := by
  have h1 : nameG 5 (.str n) (lbE names as fs r (some fr) x y) = some (lbE names as fs r (some fr) (some (.str n)) y) := by
    cases x <;> simp [lbE, seqF, setF, retF, exprF, ifF, asgF, augF, augS, parF, opF, opFA, consO, nilO, ofE, varO, varE, mvE, cF, derefs, deref, PD.g1, PD.g2, setv, tstF, truF, trueD, andT, orT, notT, andE, orE, notE, iteE, getE, newDF, dispF, dispL, seqI, rngI, callF, callM, frzL, pkS, immD, immL, mutF, noSlot, tyD, slF, partF, nameG, tupG, consG, nilG, subG, wipeE, unw, noOwn, yesT, PyData.plain, PyData.plainAll, PyData.depth, PyData.depthAll, bodyFF, argE, fin0, nxF, retN, forF, tupD, lstD, turnF]
  have hz : (byL as n).length ≤ sizeLine := size63 (Nat.lt_of_le_of_lt by_len ha)
  have h3 : lcF [7, 8] (seqI (varE 1)) (tupG 2 (consG (nameG 7) (consG (nameG 8) nilG))) _law_labels_t1 _law_labels_e1 (lbE names as fs r (some fr) (some (.str n)) y) = some (.list ((byL as n).map .str), true, lbE names as fs r (some fr) (some (.str n)) y) := by
    have z := by_lc (names := names) (as := as) (fs := fs) (r := r) (fr := some fr) (y := y) n
    have s : seqI (varE 1) (lbE names as fs r (some fr) (some (.str n)) y) = some (as.map encP, lbE names as fs r (some fr) (some (.str n)) y) := by simp [lbE, seqF, setF, retF, exprF, ifF, asgF, augF, augS, parF, opF, opFA, consO, nilO, ofE, varO, varE, mvE, cF, derefs, deref, PD.g1, PD.g2, setv, tstF, truF, trueD, andT, orT, notT, andE, orE, notE, iteE, getE, newDF, dispF, dispL, seqI, rngI, callF, callM, frzL, pkS, immD, immL, mutF, noSlot, tyD, slF, partF, nameG, tupG, consG, nilG, subG, wipeE, unw, noOwn, yesT, PyData.plain, PyData.plainAll, PyData.depth, PyData.depthAll, bodyFF, argE, fin0, nxF, retN, forF, tupD, lstD, turnF]
    have no : noOwn (lbE names as fs r (some fr) (some (.str n)) y) [7, 8] = true := by simp [lbE, seqF, setF, retF, exprF, ifF, asgF, augF, augS, parF, opF, opFA, consO, nilO, ofE, varO, varE, mvE, cF, derefs, deref, PD.g1, PD.g2, setv, tstF, truF, trueD, andT, orT, notT, andE, orE, notE, iteE, getE, newDF, dispF, dispL, seqI, rngI, callF, callM, frzL, pkS, immD, immL, mutF, noSlot, tyD, slF, partF, nameG, tupG, consG, nilG, subG, wipeE, unw, noOwn, yesT, PyData.plain, PyData.plainAll, PyData.depth, PyData.depthAll, bodyFF, argE, fin0, nxF, retN, forF, tupD, lstD, turnF]
    have wi : wipeE (lbE names as fs r (some fr) (some (.str n)) y) [7, 8] = lbE names as fs r (some fr) (some (.str n)) y := by simp [lbE, seqF, setF, retF, exprF, ifF, asgF, augF, augS, parF, opF, opFA, consO, nilO, ofE, varO, varE, mvE, cF, derefs, deref, PD.g1, PD.g2, setv, tstF, truF, trueD, andT, orT, notT, andE, orE, notE, iteE, getE, newDF, dispF, dispL, seqI, rngI, callF, callM, frzL, pkS, immD, immL, mutF, noSlot, tyD, slF, partF, nameG, tupG, consG, nilG, subG, wipeE, unw, noOwn, yesT, PyData.plain, PyData.plainAll, PyData.depth, PyData.depthAll, bodyFF, argE, fin0, nxF, retN, forF, tupD, lstD, turnF]
    have un : unw (lbE names as fs r (some fr) (some (.str n)) y) (lbE names as fs r (some fr) (some (.str n)) y) [7, 8] = lbE names as fs r (some fr) (some (.str n)) y := by simp [lbE, seqF, setF, retF, exprF, ifF, asgF, augF, augS, parF, opF, opFA, consO, nilO, ofE, varO, varE, mvE, cF, derefs, deref, PD.g1, PD.g2, setv, tstF, truF, trueD, andT, orT, notT, andE, orE, notE, iteE, getE, newDF, dispF, dispL, seqI, rngI, callF, callM, frzL, pkS, immD, immL, mutF, noSlot, tyD, slF, partF, nameG, tupG, consG, nilG, subG, wipeE, unw, noOwn, yesT, PyData.plain, PyData.plainAll, PyData.depth, PyData.depthAll, bodyFF, argE, fin0, nxF, retN, forF, tupD, lstD, turnF]
    simp only [lcF, s, List.length_map, size63 ha, no, wi, z, un, and_self, if_true]
  have h4 : setF 6 (lcF [7, 8] (seqI (varE 1)) (tupG 2 (consG (nameG 7) (consG (nameG 8) nilG))) _law_labels_t1 _law_labels_e1) (lbE names as fs r (some fr) (some (.str n)) y) = some (.nx, (lbE names as fs r (some fr) (some (.str n)) y).set 6 (some (.list ((byL as n).map .str), .ow))) := by
    simp only [setF, h3]
    cases y <;> simp [lbE, seqF, setF, retF, exprF, ifF, asgF, augF, augS, parF, opF, opFA, consO, nilO, ofE, varO, varE, mvE, cF, derefs, deref, PD.g1, PD.g2, setv, tstF, truF, trueD, andT, orT, notT, andE, orE, notE, iteE, getE, newDF, dispF, dispL, seqI, rngI, callF, callM, frzL, pkS, immD, immL, mutF, noSlot, tyD, slF, partF, nameG, tupG, consG, nilG, subG, wipeE, unw, noOwn, yesT, PyData.plain, PyData.plainAll, PyData.depth, PyData.depthAll, bodyFF, argE, fin0, nxF, retN, forF, tupD, lstD, turnF]
  rw [h1]
  by_cases c1 : (getR fs n).isSome = true
  · refine ⟨some (.str n), y, ?_⟩
    show _law_labels_b1 _ = _
    unfold _law_labels_b1
    simp [-List.map_map, lbE, seqF, setF, retF, exprF, ifF, asgF, augF, augS, parF, opF, opFA, consO, nilO, ofE, varO, varE, mvE, cF, derefs, deref, PD.g1, PD.g2, setv, tstF, truF, trueD, andT, orT, notT, andE, orE, notE, iteE, getE, newDF, dispF, dispL, seqI, rngI, callF, callM, frzL, pkS, immD, immL, mutF, noSlot, tyD, slF, partF, nameG, tupG, consG, nilG, subG, wipeE, unw, noOwn, yesT, PyData.plain, PyData.plainAll, PyData.depth, PyData.depthAll, bodyFF, argE, fin0, nxF, retN, forF, tupD, lstD, turnF, key_nin, c1, turnR]
  · have c1 : (getR fs n).isSome = false := by simpa using c1
    refine ⟨some (.str n), some (.list ((byL as n).map .str)), ?_⟩
    show _law_labels_b1 _ = _
    unfold _law_labels_b1
    have t0 : tstF (opF (consO (varO 5) (consO (varO 2) nilO)) (PD.g2 ninD)) (lbE names as fs r (some fr) (some (.str n)) y) = some (true, lbE names as fs r (some fr) (some (.str n)) y) := by
      simp [-List.map_map, lbE, seqF, setF, retF, exprF, ifF, asgF, augF, augS, parF, opF, opFA, consO, nilO, ofE, varO, varE, mvE, cF, derefs, deref, PD.g1, PD.g2, setv, tstF, truF, trueD, andT, orT, notT, andE, orE, notE, iteE, getE, newDF, dispF, dispL, seqI, rngI, callF, callM, frzL, pkS, immD, immL, mutF, noSlot, tyD, slF, partF, nameG, tupG, consG, nilG, subG, wipeE, unw, noOwn, yesT, PyData.plain, PyData.plainAll, PyData.depth, PyData.depthAll, bodyFF, argE, fin0, nxF, retN, forF, tupD, lstD, turnF, key_nin, c1]
    have fz : ∀ z : Option D, seqI (varE 6) ((lbE names as fs r (some fr) (some (.str n)) z).set 6 (some (.list ((byL as n).map .str), .ow))) = some ((byL as n).map .str, lbE names as fs r (some fr) (some (.str n)) (some (.list ((byL as n).map .str)))) := fun z => by simp [-List.map_map, lbE, seqF, setF, retF, exprF, ifF, asgF, augF, augS, parF, opF, opFA, consO, nilO, ofE, varO, varE, mvE, cF, derefs, deref, PD.g1, PD.g2, setv, tstF, truF, trueD, andT, orT, notT, andE, orE, notE, iteE, getE, newDF, dispF, dispL, seqI, rngI, callF, callM, frzL, pkS, immD, immL, mutF, noSlot, tyD, slF, partF, nameG, tupG, consG, nilG, subG, wipeE, unw, noOwn, yesT, PyData.plain, PyData.plainAll, PyData.depth, PyData.depthAll, bodyFF, argE, fin0, nxF, retN, forF, tupD, lstD, turnF]
    have fz2 : seqI (varE 6) (lbE names as fs r (some fr) (some (.str n)) (some (.list ((byL as n).map .str)))) = some ((byL as n).map .str, lbE names as fs r (some fr) (some (.str n)) (some (.list ((byL as n).map .str)))) := by simp [-List.map_map, lbE, seqF, setF, retF, exprF, ifF, asgF, augF, augS, parF, opF, opFA, consO, nilO, ofE, varO, varE, mvE, cF, derefs, deref, PD.g1, PD.g2, setv, tstF, truF, trueD, andT, orT, notT, andE, orE, notE, iteE, getE, newDF, dispF, dispL, seqI, rngI, callF, callM, frzL, pkS, immD, immL, mutF, noSlot, tyD, slF, partF, nameG, tupG, consG, nilG, subG, wipeE, unw, noOwn, yesT, PyData.plain, PyData.plainAll, PyData.depth, PyData.depthAll, bodyFF, argE, fin0, nxF, retN, forF, tupD, lstD, turnF]
    have no : noOwn (lbE names as fs r (some fr) (some (.str n)) (some (.list ((byL as n).map .str)))) [7] = true := by simp [lbE, seqF, setF, retF, exprF, ifF, asgF, augF, augS, parF, opF, opFA, consO, nilO, ofE, varO, varE, mvE, cF, derefs, deref, PD.g1, PD.g2, setv, tstF, truF, trueD, andT, orT, notT, andE, orE, notE, iteE, getE, newDF, dispF, dispL, seqI, rngI, callF, callM, frzL, pkS, immD, immL, mutF, noSlot, tyD, slF, partF, nameG, tupG, consG, nilG, subG, wipeE, unw, noOwn, yesT, PyData.plain, PyData.plainAll, PyData.depth, PyData.depthAll, bodyFF, argE, fin0, nxF, retN, forF, tupD, lstD, turnF]
    have wi : wipeE (lbE names as fs r (some fr) (some (.str n)) (some (.list ((byL as n).map .str)))) [7] = lbE names as fs r (some fr) (some (.str n)) (some (.list ((byL as n).map .str))) := by simp [lbE, seqF, setF, retF, exprF, ifF, asgF, augF, augS, parF, opF, opFA, consO, nilO, ofE, varO, varE, mvE, cF, derefs, deref, PD.g1, PD.g2, setv, tstF, truF, trueD, andT, orT, notT, andE, orE, notE, iteE, getE, newDF, dispF, dispL, seqI, rngI, callF, callM, frzL, pkS, immD, immL, mutF, noSlot, tyD, slF, partF, nameG, tupG, consG, nilG, subG, wipeE, unw, noOwn, yesT, PyData.plain, PyData.plainAll, PyData.depth, PyData.depthAll, bodyFF, argE, fin0, nxF, retN, forF, tupD, lstD, turnF]
    have un : unw (lbE names as fs r (some fr) (some (.str n)) (some (.list ((byL as n).map .str)))) (lbE names as fs r (some fr) (some (.str n)) (some (.list ((byL as n).map .str)))) [7] = lbE names as fs r (some fr) (some (.str n)) (some (.list ((byL as n).map .str))) := by simp [lbE, seqF, setF, retF, exprF, ifF, asgF, augF, augS, parF, opF, opFA, consO, nilO, ofE, varO, varE, mvE, cF, derefs, deref, PD.g1, PD.g2, setv, tstF, truF, trueD, andT, orT, notT, andE, orE, notE, iteE, getE, newDF, dispF, dispL, seqI, rngI, callF, callM, frzL, pkS, immD, immL, mutF, noSlot, tyD, slF, partF, nameG, tupG, consG, nilG, subG, wipeE, unw, noOwn, yesT, PyData.plain, PyData.plainAll, PyData.depth, PyData.depthAll, bodyFF, argE, fin0, nxF, retN, forF, tupD, lstD, turnF]
    have l1 : lcF [7] (seqI (varE 6)) (nameG 7) _law_labels_t2 _law_labels_e2 ((lbE names as fs r (some fr) (some (.str n)) y).set 6 (some (.list ((byL as n).map .str), .ow))) = some (.list (((byL as n).filter fun o => decide (labR fs o = .st)).map .str), true, lbE names as fs r (some fr) (some (.str n)) (some (.list ((byL as n).map .str)))) := by
      simp only [lcF, fz, List.length_map, hz, no, wi, st_lc, un, and_self, if_true]
    have l2 : lcF [7] (seqI (varE 6)) (nameG 7) _law_labels_t3 _law_labels_e3 (lbE names as fs r (some fr) (some (.str n)) (some (.list ((byL as n).map .str)))) = some (.list (((byL as n).filter fun o => !decide (labR fs o = .fa)).map .str), true, lbE names as fs r (some fr) (some (.str n)) (some (.list ((byL as n).map .str)))) := by
      simp only [lcF, fz2, List.length_map, hz, no, wi, fa_lc, un, and_self, if_true]
    have q1 : ((byL as n).filter fun o => decide (labR fs o = .st)).isEmpty = !hit as fs n .st := by rw [filter_none, hit_by]
    have q2 : hit as fs n .st = false → ((byL as n).filter fun o => !decide (labR fs o = .fa)).isEmpty = !hit as fs n .op := fun z => by
      rw [filter_none, ← hit_by]
      congr 1
      rw [← hit_by] at z
      refine any_cong fun o ho => ?_
      have z1 : decide (labR fs o = .st) = false := by
        cases q : decide (labR fs o = .st) with
        | false => rfl
        | true => rw [List.any_eq_true.mpr ⟨o, ho, q⟩] at z; cases z
      cases hl : labR fs o <;> simp_all
    have w1 : tstF (opF (consO (ofE (lcF [7] (seqI (varE 6)) (nameG 7) _law_labels_t2 _law_labels_e2)) (consO (ofE (opFA nilO lstD)) nilO)) (PD.g2 neD)) ((lbE names as fs r (some fr) (some (.str n)) y).set 6 (some (.list ((byL as n).map .str), .ow))) = some (hit as fs n .st, lbE names as fs r (some fr) (some (.str n)) (some (.list ((byL as n).map .str)))) := by
      simp only [tstF, opF, consO, ofE, l1]
      simp [-List.map_map, seqF, setF, retF, exprF, ifF, asgF, augF, augS, parF, opF, opFA, consO, nilO, ofE, varO, varE, mvE, cF, derefs, deref, PD.g1, PD.g2, setv, tstF, truF, trueD, andT, orT, notT, andE, orE, notE, iteE, getE, newDF, dispF, dispL, seqI, rngI, callF, callM, frzL, pkS, immD, immL, mutF, noSlot, tyD, slF, partF, nameG, tupG, consG, nilG, subG, wipeE, unw, noOwn, yesT, PyData.plain, PyData.plainAll, PyData.depth, PyData.depthAll, bodyFF, argE, fin0, nxF, retN, forF, tupD, lstD, turnF, ne_nil, q1]
    have w2 : hit as fs n .st = false → tstF (opF (consO (ofE (lcF [7] (seqI (varE 6)) (nameG 7) _law_labels_t3 _law_labels_e3)) (consO (ofE (opFA nilO lstD)) nilO)) (PD.g2 eqD)) (lbE names as fs r (some fr) (some (.str n)) (some (.list ((byL as n).map .str)))) = some (!hit as fs n .op, lbE names as fs r (some fr) (some (.str n)) (some (.list ((byL as n).map .str)))) := fun z => by
      simp only [tstF, opF, consO, ofE, l2]
      simp [-List.map_map, seqF, setF, retF, exprF, ifF, asgF, augF, augS, parF, opF, opFA, consO, nilO, ofE, varO, varE, mvE, cF, derefs, deref, PD.g1, PD.g2, setv, tstF, truF, trueD, andT, orT, notT, andE, orE, notE, iteE, getE, newDF, dispF, dispL, seqI, rngI, callF, callM, frzL, pkS, immD, immL, mutF, noSlot, tyD, slF, partF, nameG, tupG, consG, nilG, subG, wipeE, unw, noOwn, yesT, PyData.plain, PyData.plainAll, PyData.depth, PyData.depthAll, bodyFF, argE, fin0, nxF, retN, forF, tupD, lstD, turnF, eq_nil, q2 z]
    have p1 : putP (fr.map encKV) (.str n) (.tuple [.str s_falls, .int r]) = (fr ++ [(n, Lb.fa, r)]).map encKV := put_enc (q := (.fa, r)) hfr
    have p2 : putP (fr.map encKV) (.str n) (.tuple [.str s_stands, .int r]) = (fr ++ [(n, Lb.st, r)]).map encKV := put_enc (q := (.st, r)) hfr
    have hs : fr.length < sizeLine := by rw [sizeLine_eq]; omega
    simp only [seqF, ifF, t0, h4, w1]
    cases c2 : hit as fs n .st with
    | true => simp [-List.map_map, lbE, seqF, setF, retF, exprF, ifF, asgF, augF, augS, parF, opF, opFA, consO, nilO, ofE, varO, varE, mvE, cF, derefs, deref, PD.g1, PD.g2, setv, tstF, truF, trueD, andT, orT, notT, andE, orE, notE, iteE, getE, newDF, dispF, dispL, seqI, rngI, callF, callM, frzL, pkS, immD, immL, mutF, noSlot, tyD, slF, partF, nameG, tupG, consG, nilG, subG, wipeE, unw, noOwn, yesT, PyData.plain, PyData.plainAll, PyData.depth, PyData.depthAll, bodyFF, argE, fin0, nxF, retN, forF, tupD, lstD, turnF, turnR, c1, c2, size63, putD, keyD, hs, p1]
    | false =>
      simp only [w2 c2]
      cases c3 : hit as fs n .op with
      | true => simp [-List.map_map, lbE, seqF, setF, retF, exprF, ifF, asgF, augF, augS, parF, opF, opFA, consO, nilO, ofE, varO, varE, mvE, cF, derefs, deref, PD.g1, PD.g2, setv, tstF, truF, trueD, andT, orT, notT, andE, orE, notE, iteE, getE, newDF, dispF, dispL, seqI, rngI, callF, callM, frzL, pkS, immD, immL, mutF, noSlot, tyD, slF, partF, nameG, tupG, consG, nilG, subG, wipeE, unw, noOwn, yesT, PyData.plain, PyData.plainAll, PyData.depth, PyData.depthAll, bodyFF, argE, fin0, nxF, retN, forF, tupD, lstD, turnF, turnR, c1, c2, c3]
      | false => simp [-List.map_map, lbE, seqF, setF, retF, exprF, ifF, asgF, augF, augS, parF, opF, opFA, consO, nilO, ofE, varO, varE, mvE, cF, derefs, deref, PD.g1, PD.g2, setv, tstF, truF, trueD, andT, orT, notT, andE, orE, notE, iteE, getE, newDF, dispF, dispL, seqI, rngI, callF, callM, frzL, pkS, immD, immL, mutF, noSlot, tyD, slF, partF, nameG, tupG, consG, nilG, subG, wipeE, unw, noOwn, yesT, PyData.plain, PyData.plainAll, PyData.depth, PyData.depthAll, bodyFF, argE, fin0, nxF, retN, forF, tupD, lstD, turnF, turnR, c1, c2, c3, size63, putD, keyD, hs, p2]
/-- the inner loop -/
theorem labels_loop {names : List Str} {as : List (Str × Str)} {fs : List (Row Str)} {r : Int} (ha : as.length < 64) : ∀ (ns : List Str) (fr : List (Row Str)) (x y : Option D), ns.Nodup → (∀ n ∈ ns, getR fr n = none) → fr.length + ns.length ≤ 64 →
    ∃ x' y', forL (nameG 5) _law_labels_b1 (ns.map .str) (lbE names as fs r (some fr) x y) = some (.nx, lbE names as fs r (some (fr ++ freshR as fs r ns)) x' y')
  | [], fr, x, y, _, _, _ => ⟨x, y, by simp [forL, freshR]⟩
  | n :: ns, fr, x, y, hn, hg, hl => by
    obtain ⟨n1, n2⟩ := List.nodup_cons.mp hn
    rw [List.length_cons] at hl
    obtain ⟨x1, y1, h1⟩ := labels_turn (names := names) (fs := fs) (r := r) (x := x) (y := y) n ha (hg n List.mem_cons_self) (by omega)
    have hlen : (turnR as fs r n).toList.length ≤ 1 := by cases turnR as fs r n <;> simp
    obtain ⟨x2, y2, h2⟩ := labels_loop (names := names) ha ns (fr ++ (turnR as fs r n).toList) x1 y1 n2 (fun m hm => by
      rw [getR_app, hg m (List.mem_cons_of_mem _ hm)]
      refine getR_none.mpr fun p hp e => ?_
      rw [turn_list hp] at e
      exact n1 (e ▸ hm)) (by rw [List.length_append]; omega)
    refine ⟨x2, y2, ?_⟩
    have e : fr ++ (turnR as fs r n).toList ++ freshR as fs r ns = fr ++ freshR as fs r (n :: ns) := by
      rw [List.append_assoc]
      congr 1
      unfold freshR
      rw [List.filterMap_cons]
      cases turnR as fs r n <;> rfl
    rw [e] at h2
    simp only [List.map_cons, forL]
    split at h1
    · rename_i e1 k1
      simp only [k1, h1, h2]
    · cases h1
theorem labels_round {names : List Str} {as : List (Str × Str)} {fs : List (Row Str)} {r : Int} {fr : Option (List (Row Str))} {x y : Option D} (ha : as.length < 64) (hn : names.Nodup) (hl : names.length < 64) (hf : fs.length + names.length ≤ 10000) :
    ∃ x' y', _law_labels_b2 (lbE names as fs r fr x y) = some (.nx, lbE names as (fs ++ freshR as fs r names) (if (freshR as fs r names).isEmpty then -1 else r + 1) (some (freshR as fs r names)) x' y') := by
  obtain ⟨x1, y1, h1⟩ := labels_loop (names := names) (fs := fs) (r := r) ha names [] x y hn (fun _ _ => rfl) (by simp; omega)
  rw [List.nil_append] at h1
  refine ⟨x1, y1, ?_⟩
  have h0 : setF 4 newDF (lbE names as fs r fr x y) = some (.nx, lbE names as fs r (some []) x y) := by
    cases fr <;> simp [lbE, seqF, setF, retF, exprF, ifF, asgF, augF, augS, parF, opF, opFA, consO, nilO, ofE, varO, varE, mvE, cF, derefs, deref, PD.g1, PD.g2, setv, tstF, truF, trueD, andT, orT, notT, andE, orE, notE, iteE, getE, newDF, dispF, dispL, seqI, rngI, callF, callM, frzL, pkS, immD, immL, mutF, noSlot, tyD, slF, partF, nameG, tupG, consG, nilG, subG, wipeE, unw, noOwn, yesT, PyData.plain, PyData.plainAll, PyData.depth, PyData.depthAll, bodyFF, argE, fin0, nxF, retN, forF, tupD, lstD, turnF]
  have h2 : seqI (varE 0) (lbE names as fs r (some []) x y) = some (names.map .str, lbE names as fs r (some []) x y) := by
    simp [-List.map_map, lbE, seqF, setF, retF, exprF, ifF, asgF, augF, augS, parF, opF, opFA, consO, nilO, ofE, varO, varE, mvE, cF, derefs, deref, PD.g1, PD.g2, setv, tstF, truF, trueD, andT, orT, notT, andE, orE, notE, iteE, getE, newDF, dispF, dispL, seqI, rngI, callF, callM, frzL, pkS, immD, immL, mutF, noSlot, tyD, slF, partF, nameG, tupG, consG, nilG, subG, wipeE, unw, noOwn, yesT, PyData.plain, PyData.plainAll, PyData.depth, PyData.depthAll, bodyFF, argE, fin0, nxF, retN, forF, tupD, lstD, turnF]
  have hfl : (freshR as fs r names).length ≤ names.length := fresh_len
  have hsz : fs.length + (freshR as fs r names).length ≤ sizeLine := by rw [sizeLine_eq]; omega
  have h3 := merge_enc (gs := freshR as fs r names) (fs := fs) (fresh_nodup hn) fun p hp => (fresh_mem hp).2
  have e1 : exprF (mutF "dict" 2 (consO (varO 4) nilO) updateM false) (lbE names as fs r (some (freshR as fs r names)) x1 y1) = some (.nx, lbE names as (fs ++ freshR as fs r names) r (some (freshR as fs r names)) x1 y1) := by
    simp [-List.map_map, -List.map_append, lbE, seqF, setF, retF, exprF, ifF, asgF, augF, augS, parF, opF, opFA, consO, nilO, ofE, varO, varE, mvE, cF, derefs, deref, PD.g1, PD.g2, setv, tstF, truF, trueD, andT, orT, notT, andE, orE, notE, iteE, getE, newDF, dispF, dispL, seqI, rngI, callF, callM, frzL, pkS, immD, immL, mutF, noSlot, tyD, slF, partF, nameG, tupG, consG, nilG, subG, wipeE, unw, noOwn, yesT, PyData.plain, PyData.plainAll, PyData.depth, PyData.depthAll, bodyFF, argE, fin0, nxF, retN, forF, tupD, lstD, turnF, updateM, h3, hsz]
  have e3 : setF 3 (iteE (tstF (opF (consO (varO 4) (consO (ofE newDF) nilO)) (PD.g2 neDict))) (opF (consO (varO 3) (consO (ofE (cF (.int 1))) nilO)) (PD.g2 addD)) (opF (consO (ofE (cF (.int 1))) nilO) (PD.g1 negD))) (lbE names as (fs ++ freshR as fs r names) r (some (freshR as fs r names)) x1 y1) = some (.nx, lbE names as (fs ++ freshR as fs r names) (if (freshR as fs r names).isEmpty then -1 else r + 1) (some (freshR as fs r names)) x1 y1) := by
    generalize fs ++ freshR as fs r names = ff
    cases freshR as fs r names <;> simp [-List.map_map, -List.map_append, lbE, seqF, setF, retF, exprF, ifF, asgF, augF, augS, parF, opF, opFA, consO, nilO, ofE, varO, varE, mvE, cF, derefs, deref, PD.g1, PD.g2, setv, tstF, truF, trueD, andT, orT, notT, andE, orE, notE, iteE, getE, newDF, dispF, dispL, seqI, rngI, callF, callM, frzL, pkS, immD, immL, mutF, noSlot, tyD, slF, partF, nameG, tupG, consG, nilG, subG, wipeE, unw, noOwn, yesT, PyData.plain, PyData.plainAll, PyData.depth, PyData.depthAll, bodyFF, argE, fin0, nxF, retN, forF, tupD, lstD, turnF, neDict, addD, negD]
  unfold _law_labels_b2
  simp only [seqF, h0, forF, h2, h1, e1, e3]
theorem labels_while {names : List Str} {as : List (Str × Str)} (ha : as.length < 64) (hn : names.Nodup) (hl : names.length < 64) : ∀ (k : Nat) (fs : List (Row Str)) (r : Int) (fr : Option (List (Row Str))) (x y : Option D) (out : List (Row Str)), 0 ≤ r → fs.length + k * names.length ≤ 10000 → runR as names k fs r = some out →
    ∃ fr' x' y', whileL (tstF (opF (consO (varO 3) (consO (ofE (cF (.int 0))) nilO)) (PD.g2 geD))) _law_labels_b2 k (lbE names as fs r fr x y) = some (.nx, lbE names as out (-1) fr' x' y')
  | 0, _, _, _, _, _, _, _, _, h => by cases h
  | k + 1, fs, r, fr, x, y, out, hr, hf, h => by
    have hm : fs.length + names.length ≤ 10000 := by
      rw [Nat.succ_mul] at hf
      omega
    obtain ⟨x1, y1, h1⟩ := labels_round (fr := fr) (x := x) (y := y) (r := r) ha hn hl hm
    have t1 : tstF (opF (consO (varO 3) (consO (ofE (cF (.int 0))) nilO)) (PD.g2 geD)) (lbE names as fs r fr x y) = some (true, lbE names as fs r fr x y) := by simp [lbE, seqF, setF, retF, exprF, ifF, asgF, augF, augS, parF, opF, opFA, consO, nilO, ofE, varO, varE, mvE, cF, derefs, deref, PD.g1, PD.g2, setv, tstF, truF, trueD, andT, orT, notT, andE, orE, notE, iteE, getE, newDF, dispF, dispL, seqI, rngI, callF, callM, frzL, pkS, immD, immL, mutF, noSlot, tyD, slF, partF, nameG, tupG, consG, nilG, subG, wipeE, unw, noOwn, yesT, PyData.plain, PyData.plainAll, PyData.depth, PyData.depthAll, bodyFF, argE, fin0, nxF, retN, forF, tupD, lstD, turnF, geD, hr]
    rw [while_go t1 (.inl h1)]
    unfold runR at h
    split at h
    · rename_i c
      rw [if_pos c]
      have c2 : freshR as fs r names = [] := by simpa using c
      rw [c2, List.append_nil]
      split at h
      · cases h
      · rename_i k'
        cases h
        have t2 : ∀ fr, tstF (opF (consO (varO 3) (consO (ofE (cF (.int 0))) nilO)) (PD.g2 geD)) (lbE names as fs (-1) fr x1 y1) = some (false, lbE names as fs (-1) fr x1 y1) := fun fr => by simp [lbE, seqF, setF, retF, exprF, ifF, asgF, augF, augS, parF, opF, opFA, consO, nilO, ofE, varO, varE, mvE, cF, derefs, deref, PD.g1, PD.g2, setv, tstF, truF, trueD, andT, orT, notT, andE, orE, notE, iteE, getE, newDF, dispF, dispL, seqI, rngI, callF, callM, frzL, pkS, immD, immL, mutF, noSlot, tyD, slF, partF, nameG, tupG, consG, nilG, subG, wipeE, unw, noOwn, yesT, PyData.plain, PyData.plainAll, PyData.depth, PyData.depthAll, bodyFF, argE, fin0, nxF, retN, forF, tupD, lstD, turnF, geD]
        exact ⟨_, _, _, while_stop (t2 _)⟩
    · rename_i c
      rw [if_neg c]
      have hfl : (freshR as fs r names).length ≤ names.length := fresh_len
      exact labels_while ha hn hl k _ (r + 1) _ x1 y1 out (by omega) (by
        rw [List.length_append]
        rw [Nat.succ_mul] at hf
        omega) h
theorem labels_spec {names : List Str} {as : List (Str × Str)} {out : List (Row Str)} (ha : as.length < 64) (hn : names.Nodup) (hl : names.length < 64) (h : runR as names 64 [] 0 = some out) :
    _law_labels_F [.list (names.map .str), .list (as.map encP)] = some (.tuple ((sortS names).map fun n => encRow (rowR out n)), false, .none) := by
  obtain ⟨fr', x', y', h1⟩ := labels_while ha hn hl 64 [] 0 none none none out (by omega) (by simp; omega) h
  have h0 : argE false [PyData.list (names.map .str), PyData.list (as.map encP)] ++ List.replicate 7 none = [some (.list (names.map .str), .sh), some (.list (as.map encP), .sh), none, none, none, none, none, none, none] := rfl
  have s1 : setF 2 newDF [some (.list (names.map .str), .sh), some (.list (as.map encP), .sh), none, none, none, none, none, none, none] = some (.nx, [some (.list (names.map .str), .sh), some (.list (as.map encP), .sh), some (.dict [], .ow), none, none, none, none, none, none]) := by simp [seqF, setF, retF, exprF, ifF, asgF, augF, augS, parF, opF, opFA, consO, nilO, ofE, varO, varE, mvE, cF, derefs, deref, PD.g1, PD.g2, setv, tstF, truF, trueD, andT, orT, notT, andE, orE, notE, iteE, getE, newDF, dispF, dispL, seqI, rngI, callF, callM, frzL, pkS, immD, immL, mutF, noSlot, tyD, slF, partF, nameG, tupG, consG, nilG, subG, wipeE, unw, noOwn, yesT, PyData.plain, PyData.plainAll, PyData.depth, PyData.depthAll, bodyFF, argE, fin0, nxF, retN, forF, tupD, lstD, turnF]
  have s2 : setF 3 (cF (.int 0)) [some (.list (names.map .str), .sh), some (.list (as.map encP), .sh), some (.dict [], .ow), none, none, none, none, none, none] = some (.nx, lbE names as [] 0 none none none) := by simp [seqF, setF, retF, exprF, ifF, asgF, augF, augS, parF, opF, opFA, consO, nilO, ofE, varO, varE, mvE, cF, derefs, deref, PD.g1, PD.g2, setv, tstF, truF, trueD, andT, orT, notT, andE, orE, notE, iteE, getE, newDF, dispF, dispL, seqI, rngI, callF, callM, frzL, pkS, immD, immL, mutF, noSlot, tyD, slF, partF, nameG, tupG, consG, nilG, subG, wipeE, unw, noOwn, yesT, PyData.plain, PyData.plainAll, PyData.depth, PyData.depthAll, bodyFF, argE, fin0, nxF, retN, forF, tupD, lstD, turnF, lbE]
  have lc : lcL [5] (nameG 5) yesT _law_labels_e4 ((sortS names).map .str) (lbE names as out (-1) fr' none y') = some ((sortS names).map fun n => encRow (rowR out n), lbE names as out (-1) fr' none y') := by
    rw [lcL_map PyData.str (fun n => some (encRow (rowR out n))) (sortS names) fun n _ => ?_, filterMap_all]
    cases hh : getR out n with
    | none => simp [_law_labels_e4, lbE, seqF, setF, retF, exprF, ifF, asgF, augF, augS, parF, opF, opFA, consO, nilO, ofE, varO, varE, mvE, cF, derefs, deref, PD.g1, PD.g2, setv, tstF, truF, trueD, andT, orT, notT, andE, orE, notE, iteE, getE, newDF, dispF, dispL, seqI, rngI, callF, callM, frzL, pkS, immD, immL, mutF, noSlot, tyD, slF, partF, nameG, tupG, consG, nilG, subG, wipeE, unw, noOwn, yesT, PyData.plain, PyData.plainAll, PyData.depth, PyData.depthAll, bodyFF, argE, fin0, nxF, retN, forF, tupD, lstD, turnF, look_enc, hh, keyD, negD, addD, size63, encRow, rowR, Lb.s]
    | some q => simp [_law_labels_e4, lbE, seqF, setF, retF, exprF, ifF, asgF, augF, augS, parF, opF, opFA, consO, nilO, ofE, varO, varE, mvE, cF, derefs, deref, PD.g1, PD.g2, setv, tstF, truF, trueD, andT, orT, notT, andE, orE, notE, iteE, getE, newDF, dispF, dispL, seqI, rngI, callF, callM, frzL, pkS, immD, immL, mutF, noSlot, tyD, slF, partF, nameG, tupG, consG, nilG, subG, wipeE, unw, noOwn, yesT, PyData.plain, PyData.plainAll, PyData.depth, PyData.depthAll, bodyFF, argE, fin0, nxF, retN, forF, tupD, lstD, turnF, look_enc, hh, keyD, negD, addD, encQ, size63, encRow, rowR]
  have hsl : (sortS names).length ≤ sizeLine := size63 (by rw [(sortS_perm names).length_eq]; exact hl)
  have no : noOwn (lbE names as out (-1) fr' x' y') [5] = true := by cases x' <;> simp [lbE, seqF, setF, retF, exprF, ifF, asgF, augF, augS, parF, opF, opFA, consO, nilO, ofE, varO, varE, mvE, cF, derefs, deref, PD.g1, PD.g2, setv, tstF, truF, trueD, andT, orT, notT, andE, orE, notE, iteE, getE, newDF, dispF, dispL, seqI, rngI, callF, callM, frzL, pkS, immD, immL, mutF, noSlot, tyD, slF, partF, nameG, tupG, consG, nilG, subG, wipeE, unw, noOwn, yesT, PyData.plain, PyData.plainAll, PyData.depth, PyData.depthAll, bodyFF, argE, fin0, nxF, retN, forF, tupD, lstD, turnF]
  have wi : wipeE (lbE names as out (-1) fr' x' y') [5] = lbE names as out (-1) fr' none y' := by cases x' <;> simp [lbE, seqF, setF, retF, exprF, ifF, asgF, augF, augS, parF, opF, opFA, consO, nilO, ofE, varO, varE, mvE, cF, derefs, deref, PD.g1, PD.g2, setv, tstF, truF, trueD, andT, orT, notT, andE, orE, notE, iteE, getE, newDF, dispF, dispL, seqI, rngI, callF, callM, frzL, pkS, immD, immL, mutF, noSlot, tyD, slF, partF, nameG, tupG, consG, nilG, subG, wipeE, unw, noOwn, yesT, PyData.plain, PyData.plainAll, PyData.depth, PyData.depthAll, bodyFF, argE, fin0, nxF, retN, forF, tupD, lstD, turnF]
  have h2 : seqI (opF (consO (varO 0) nilO) (PD.g1 sortD)) (lbE names as out (-1) fr' x' y') = some ((sortS names).map .str, lbE names as out (-1) fr' x' y') := by
    simp [-List.map_map, lbE, seqF, setF, retF, exprF, ifF, asgF, augF, augS, parF, opF, opFA, consO, nilO, ofE, varO, varE, mvE, cF, derefs, deref, PD.g1, PD.g2, setv, tstF, truF, trueD, andT, orT, notT, andE, orE, notE, iteE, getE, newDF, dispF, dispL, seqI, rngI, callF, callM, frzL, pkS, immD, immL, mutF, noSlot, tyD, slF, partF, nameG, tupG, consG, nilG, subG, wipeE, unw, noOwn, yesT, PyData.plain, PyData.plainAll, PyData.depth, PyData.depthAll, bodyFF, argE, fin0, nxF, retN, forF, tupD, lstD, turnF, sortD, strsD_map, hl]
  have h3 : lcF [5] (seqI (opF (consO (varO 0) nilO) (PD.g1 sortD))) (nameG 5) yesT _law_labels_e4 (lbE names as out (-1) fr' x' y') = some (.list ((sortS names).map fun n => encRow (rowR out n)), true, unw (lbE names as out (-1) fr' x' y') (lbE names as out (-1) fr' none y') [5]) := by
    simp only [lcF, h2, List.length_map, hsl, no, wi, lc, and_self, if_true]
  unfold _law_labels_F bodyFF _law_labels_B
  rw [show (9 - [PyData.list (names.map .str), PyData.list (as.map encP)].length) = 7 from rfl, h0]
  simp only [seqF, s1, s2, h1, retF, opF, consO, nilO, ofE, h3, derefs, deref, PD.g1, tupleD, fin0]
end K13

/-! K13G: what the judge answers. -/
namespace K13
open PySem PD

section
variable {α : Type} [DecidableEq α]
/-- the row of an attacker -/
def rkIs (ks : List (Row α)) (L : Lb) (r : Int) (o : α) : Bool := match getR ks o with
  | some q => decide (q.1 = L) && decide (q.2 < r)
  | none => false
def setl (ks : List (Row α)) (os : List α) (l : Lb) (r : Int) : Bool := match l with
  | .st => decide (0 ≤ r) && os.all (rkIs ks .fa r)
  | .fa => decide (0 ≤ r) && os.any (rkIs ks .st r)
  | .op => decide (r = -1) && (!(os.any fun o => decide (labR ks o = .st)) && os.any fun o => decide (labR ks o = .op))
end
def isE (ks : List (Row Str)) (os : List Str) (q : Lb × Int) (y : Option D) : Ev :=
  [some (.dict (ks.map encKV), .sh), some (.list (os.map .str), .sh), some (encQ q, .sh), y.map fun d => (d, .ow), some (.str q.1.s, .sh), some (.int q.2, .sh), none]
theorem is_lc1 {ks : List (Row Str)} {os : List Str} {q : Lb × Int} {y : Option D} : ∀ (l : List Str), (∀ o ∈ l, (getR ks o).isSome = true) → lcL [6] (nameG 6) yesT is_settled_e1 (l.map .str) (isE ks os q y) = some (l.map fun o => .str (labR ks o).s, isE ks os q y) := fun l h => by
  rw [lcL_map PyData.str (fun o => some (.str (labR ks o).s)) l fun o ho => ?_, filterMap_all]
  have := h o ho
  cases hh : getR ks o with
  | none => rw [hh] at this; cases this
  | some q => simp [is_settled_e1, isE, seqF, setF, retF, exprF, ifF, asgF, augF, augS, parF, opF, opFA, consO, nilO, ofE, varO, varE, mvE, cF, derefs, deref, PD.g1, PD.g2, setv, tstF, truF, trueD, andT, orT, notT, andE, orE, notE, iteE, getE, newDF, dispF, dispL, seqI, rngI, callF, callM, frzL, pkS, immD, immL, mutF, noSlot, tyD, slF, partF, nameG, tupG, consG, nilG, subG, wipeE, unw, noOwn, yesT, PyData.plain, PyData.plainAll, PyData.depth, PyData.depthAll, bodyFF, argE, fin0, nxF, retN, forF, tupD, lstD, turnF, look_enc, hh, labR, keyD, ixD, at0, encQ]
theorem is_lc2 {ks : List (Row Str)} {os : List Str} {q : Lb × Int} {y : Option D} : ∀ (l : List Str), (∀ o ∈ l, (getR ks o).isSome = true) → lcL [6] (nameG 6) yesT is_settled_e2 (l.map .str) (isE ks os q y) = some (l.map fun o => .bool (rkIs ks .fa q.2 o), isE ks os q y) := fun l h => by
  rw [lcL_map PyData.str (fun o => some (.bool (rkIs ks .fa q.2 o))) l fun o ho => ?_, filterMap_all]
  have := h o ho
  cases hh : getR ks o with
  | none => rw [hh] at this; cases this
  | some p =>
    have e1 : decide (p.1.s = s_falls) = decide (p.1 = .fa) := by
      rw [decide_eq_decide]
      exact lb_inj (b := .fa)
    by_cases c : p.1 = .fa
    · simp [is_settled_e2, isE, seqF, setF, retF, exprF, ifF, asgF, augF, augS, parF, opF, opFA, consO, nilO, ofE, varO, varE, mvE, cF, derefs, deref, PD.g1, PD.g2, setv, tstF, truF, trueD, andT, orT, notT, andE, orE, notE, iteE, getE, newDF, dispF, dispL, seqI, rngI, callF, callM, frzL, pkS, immD, immL, mutF, noSlot, tyD, slF, partF, nameG, tupG, consG, nilG, subG, wipeE, unw, noOwn, yesT, PyData.plain, PyData.plainAll, PyData.depth, PyData.depthAll, bodyFF, argE, fin0, nxF, retN, forF, tupD, lstD, turnF, look_enc, hh, rkIs, keyD, ixD, at0, at1, encQ, eqD, eqv_str, c, Lb.s, ltD]
    · simp [is_settled_e2, isE, seqF, setF, retF, exprF, ifF, asgF, augF, augS, parF, opF, opFA, consO, nilO, ofE, varO, varE, mvE, cF, derefs, deref, PD.g1, PD.g2, setv, tstF, truF, trueD, andT, orT, notT, andE, orE, notE, iteE, getE, newDF, dispF, dispL, seqI, rngI, callF, callM, frzL, pkS, immD, immL, mutF, noSlot, tyD, slF, partF, nameG, tupG, consG, nilG, subG, wipeE, unw, noOwn, yesT, PyData.plain, PyData.plainAll, PyData.depth, PyData.depthAll, bodyFF, argE, fin0, nxF, retN, forF, tupD, lstD, turnF, look_enc, hh, rkIs, keyD, ixD, at0, at1, encQ, eqD, eqv_str, e1, c, ltD]
theorem is_lc3 {ks : List (Row Str)} {os : List Str} {q : Lb × Int} {y : Option D} : ∀ (l : List Str), (∀ o ∈ l, (getR ks o).isSome = true) → lcL [6] (nameG 6) yesT is_settled_e3 (l.map .str) (isE ks os q y) = some (l.map fun o => .bool (rkIs ks .st q.2 o), isE ks os q y) := fun l h => by
  rw [lcL_map PyData.str (fun o => some (.bool (rkIs ks .st q.2 o))) l fun o ho => ?_, filterMap_all]
  have := h o ho
  cases hh : getR ks o with
  | none => rw [hh] at this; cases this
  | some p =>
    have e1 : decide (p.1.s = s_stands) = decide (p.1 = .st) := by
      rw [decide_eq_decide]
      exact lb_inj (b := .st)
    by_cases c : p.1 = .st
    · simp [is_settled_e3, isE, seqF, setF, retF, exprF, ifF, asgF, augF, augS, parF, opF, opFA, consO, nilO, ofE, varO, varE, mvE, cF, derefs, deref, PD.g1, PD.g2, setv, tstF, truF, trueD, andT, orT, notT, andE, orE, notE, iteE, getE, newDF, dispF, dispL, seqI, rngI, callF, callM, frzL, pkS, immD, immL, mutF, noSlot, tyD, slF, partF, nameG, tupG, consG, nilG, subG, wipeE, unw, noOwn, yesT, PyData.plain, PyData.plainAll, PyData.depth, PyData.depthAll, bodyFF, argE, fin0, nxF, retN, forF, tupD, lstD, turnF, look_enc, hh, rkIs, keyD, ixD, at0, at1, encQ, eqD, eqv_str, c, Lb.s, ltD]
    · simp [is_settled_e3, isE, seqF, setF, retF, exprF, ifF, asgF, augF, augS, parF, opF, opFA, consO, nilO, ofE, varO, varE, mvE, cF, derefs, deref, PD.g1, PD.g2, setv, tstF, truF, trueD, andT, orT, notT, andE, orE, notE, iteE, getE, newDF, dispF, dispL, seqI, rngI, callF, callM, frzL, pkS, immD, immL, mutF, noSlot, tyD, slF, partF, nameG, tupG, consG, nilG, subG, wipeE, unw, noOwn, yesT, PyData.plain, PyData.plainAll, PyData.depth, PyData.depthAll, bodyFF, argE, fin0, nxF, retN, forF, tupD, lstD, turnF, look_enc, hh, rkIs, keyD, ixD, at0, at1, encQ, eqD, eqv_str, e1, c, ltD]
theorem bool_in (b : Bool) (l : List Bool) : inD (.bool b) (.list (l.map .bool)) = some (.bool (l.any fun x => decide (x = b)), false) := by
  have h1 : PyData.plainAll (l.map PyData.bool) = true := by
    induction l with
    | nil => rfl
    | cons x r ih => simpa [PyData.plainAll, PyData.plain] using ih
  have h2 : ((l.map PyData.bool).any fun y => PyData.eqv y (.bool b)) = l.any fun x => decide (x = b) := by
    rw [List.any_map]
    exact any_cong fun x _ => by simp [eqv_bool]
  simp [inD, h1, h2, PyData.plain, PyData.depth]
theorem lab_in (ks : List (Row Str)) (l : List Str) (L : Lb) : inD (.str L.s) (.list (l.map fun o => PyData.str (labR ks o).s)) = some (.bool (l.any fun o => decide (labR ks o = L)), false) := by
  have h1 : PyData.plainAll (l.map fun o => PyData.str (labR ks o).s) = true := by
    induction l with
    | nil => rfl
    | cons x r ih => simpa [PyData.plainAll, PyData.plain] using ih
  have h2 : ((l.map fun o => PyData.str (labR ks o).s).any fun y => PyData.eqv y (.str L.s)) = l.any fun o => decide (labR ks o = L) := by
    rw [List.any_map]
    congr 1
    funext x
    simp [eqv_str, lb_inj]
  simp [inD, h1, h2, PyData.plain, PyData.depth]
theorem not_all {α : Type} (p : α → Bool) (l : List α) : (!(l.map p).any fun x => decide (x = false)) = l.all p := by
  induction l with
  | nil => rfl
  | cons a r ih =>
    rw [List.map_cons, List.any_cons, List.all_cons, Bool.not_or, ih]
    cases p a <;> rfl
theorem any_true {α : Type} (p : α → Bool) (l : List α) : ((l.map p).any fun x => decide (x = true)) = l.any p := by
  induction l with
  | nil => rfl
  | cons a r ih =>
    rw [List.map_cons, List.any_cons, List.any_cons, ih]
    cases p a <;> rfl
theorem settled_spec {ks : List (Row Str)} {os : List Str} (q : Lb × Int) (ho : ∀ o ∈ os, (getR ks o).isSome = true) (hl : os.length < 64) : is_settled_F [.dict (ks.map encKV), .list (os.map .str), encQ q] = some (.bool (setl ks os q.1 q.2), false, .none) := by
  have h0 : argE false [PyData.dict (ks.map encKV), PyData.list (os.map .str), encQ q] ++ List.replicate 4 none = [some (.dict (ks.map encKV), .sh), some (.list (os.map .str), .sh), some (encQ q, .sh), none, none, none, none] := rfl
  have s1 : asgF (varE 2) (tupG 2 (consG (nameG 4) (consG (nameG 5) nilG))) [some (.dict (ks.map encKV), .sh), some (.list (os.map .str), .sh), some (encQ q, .sh), none, none, none, none] = some (.nx, isE ks os q none) := by simp [seqF, setF, retF, exprF, ifF, asgF, augF, augS, parF, opF, opFA, consO, nilO, ofE, varO, varE, mvE, cF, derefs, deref, PD.g1, PD.g2, setv, tstF, truF, trueD, andT, orT, notT, andE, orE, notE, iteE, getE, newDF, dispF, dispL, seqI, rngI, callF, callM, frzL, pkS, immD, immL, mutF, noSlot, tyD, slF, partF, nameG, tupG, consG, nilG, subG, wipeE, unw, noOwn, yesT, PyData.plain, PyData.plainAll, PyData.depth, PyData.depthAll, bodyFF, argE, fin0, nxF, retN, forF, tupD, lstD, turnF, isE, encQ]
  have sq : ∀ y : Option D, seqI (varE 1) (isE ks os q y) = some (os.map .str, isE ks os q y) := fun y => by simp [seqF, setF, retF, exprF, ifF, asgF, augF, augS, parF, opF, opFA, consO, nilO, ofE, varO, varE, mvE, cF, derefs, deref, PD.g1, PD.g2, setv, tstF, truF, trueD, andT, orT, notT, andE, orE, notE, iteE, getE, newDF, dispF, dispL, seqI, rngI, callF, callM, frzL, pkS, immD, immL, mutF, noSlot, tyD, slF, partF, nameG, tupG, consG, nilG, subG, wipeE, unw, noOwn, yesT, PyData.plain, PyData.plainAll, PyData.depth, PyData.depthAll, bodyFF, argE, fin0, nxF, retN, forF, tupD, lstD, turnF, isE]
  have no : ∀ y : Option D, noOwn (isE ks os q y) [6] = true := fun y => by simp [seqF, setF, retF, exprF, ifF, asgF, augF, augS, parF, opF, opFA, consO, nilO, ofE, varO, varE, mvE, cF, derefs, deref, PD.g1, PD.g2, setv, tstF, truF, trueD, andT, orT, notT, andE, orE, notE, iteE, getE, newDF, dispF, dispL, seqI, rngI, callF, callM, frzL, pkS, immD, immL, mutF, noSlot, tyD, slF, partF, nameG, tupG, consG, nilG, subG, wipeE, unw, noOwn, yesT, PyData.plain, PyData.plainAll, PyData.depth, PyData.depthAll, bodyFF, argE, fin0, nxF, retN, forF, tupD, lstD, turnF, isE]
  have wi : ∀ y : Option D, wipeE (isE ks os q y) [6] = isE ks os q y := fun y => by simp [seqF, setF, retF, exprF, ifF, asgF, augF, augS, parF, opF, opFA, consO, nilO, ofE, varO, varE, mvE, cF, derefs, deref, PD.g1, PD.g2, setv, tstF, truF, trueD, andT, orT, notT, andE, orE, notE, iteE, getE, newDF, dispF, dispL, seqI, rngI, callF, callM, frzL, pkS, immD, immL, mutF, noSlot, tyD, slF, partF, nameG, tupG, consG, nilG, subG, wipeE, unw, noOwn, yesT, PyData.plain, PyData.plainAll, PyData.depth, PyData.depthAll, bodyFF, argE, fin0, nxF, retN, forF, tupD, lstD, turnF, isE]
  have un : ∀ y : Option D, unw (isE ks os q y) (isE ks os q y) [6] = isE ks os q y := fun y => by simp [seqF, setF, retF, exprF, ifF, asgF, augF, augS, parF, opF, opFA, consO, nilO, ofE, varO, varE, mvE, cF, derefs, deref, PD.g1, PD.g2, setv, tstF, truF, trueD, andT, orT, notT, andE, orE, notE, iteE, getE, newDF, dispF, dispL, seqI, rngI, callF, callM, frzL, pkS, immD, immL, mutF, noSlot, tyD, slF, partF, nameG, tupG, consG, nilG, subG, wipeE, unw, noOwn, yesT, PyData.plain, PyData.plainAll, PyData.depth, PyData.depthAll, bodyFF, argE, fin0, nxF, retN, forF, tupD, lstD, turnF, isE]
  have l1 : lcF [6] (seqI (varE 1)) (nameG 6) yesT is_settled_e1 (isE ks os q none) = some (.list (os.map fun o => .str (labR ks o).s), true, isE ks os q none) := by
    simp only [lcF, sq, List.length_map, size63 hl, no, wi, is_lc1 os ho, un, and_self, if_true]
  have l2 : ∀ y, lcF [6] (seqI (varE 1)) (nameG 6) yesT is_settled_e2 (isE ks os q y) = some (.list ((os.map (rkIs ks .fa q.2)).map .bool), true, isE ks os q y) := fun y => by
    simp only [lcF, sq, List.length_map, size63 hl, no, wi, is_lc2 os ho, un, and_self, if_true, List.map_map]
    rfl
  have l3 : ∀ y, lcF [6] (seqI (varE 1)) (nameG 6) yesT is_settled_e3 (isE ks os q y) = some (.list ((os.map (rkIs ks .st q.2)).map .bool), true, isE ks os q y) := fun y => by
    simp only [lcF, sq, List.length_map, size63 hl, no, wi, is_lc3 os ho, un, and_self, if_true, List.map_map]
    rfl
  have s2 : setF 3 (lcF [6] (seqI (varE 1)) (nameG 6) yesT is_settled_e1) (isE ks os q none) = some (.nx, isE ks os q (some (.list (os.map fun o => .str (labR ks o).s)))) := by
    simp only [setF, l1]
    simp [seqF, setF, retF, exprF, ifF, asgF, augF, augS, parF, opF, opFA, consO, nilO, ofE, varO, varE, mvE, cF, derefs, deref, PD.g1, PD.g2, setv, tstF, truF, trueD, andT, orT, notT, andE, orE, notE, iteE, getE, newDF, dispF, dispL, seqI, rngI, callF, callM, frzL, pkS, immD, immL, mutF, noSlot, tyD, slF, partF, nameG, tupG, consG, nilG, subG, wipeE, unw, noOwn, yesT, PyData.plain, PyData.plainAll, PyData.depth, PyData.depthAll, bodyFF, argE, fin0, nxF, retN, forF, tupD, lstD, turnF, isE]
  generalize hy : (some (.list (os.map fun o => .str (labR ks o).s)) : Option D) = y at s2
  have e1 : decide (q.1.s = s_stands) = decide (q.1 = .st) := by
    rw [decide_eq_decide]
    exact lb_inj (b := .st)
  have e2 : decide (q.1.s = s_falls) = decide (q.1 = .fa) := by
    rw [decide_eq_decide]
    exact lb_inj (b := .fa)
  have t1 : tstF (opF (consO (varO 4) (consO (ofE (cF (.str s_stands))) nilO)) (PD.g2 eqD)) (isE ks os q y) = some (decide (q.1 = .st), isE ks os q y) := by simp [seqF, setF, retF, exprF, ifF, asgF, augF, augS, parF, opF, opFA, consO, nilO, ofE, varO, varE, mvE, cF, derefs, deref, PD.g1, PD.g2, setv, tstF, truF, trueD, andT, orT, notT, andE, orE, notE, iteE, getE, newDF, dispF, dispL, seqI, rngI, callF, callM, frzL, pkS, immD, immL, mutF, noSlot, tyD, slF, partF, nameG, tupG, consG, nilG, subG, wipeE, unw, noOwn, yesT, PyData.plain, PyData.plainAll, PyData.depth, PyData.depthAll, bodyFF, argE, fin0, nxF, retN, forF, tupD, lstD, turnF, isE, eqD, eqv_str, e1]
  have t2 : tstF (opF (consO (varO 4) (consO (ofE (cF (.str s_falls))) nilO)) (PD.g2 eqD)) (isE ks os q y) = some (decide (q.1 = .fa), isE ks os q y) := by simp [seqF, setF, retF, exprF, ifF, asgF, augF, augS, parF, opF, opFA, consO, nilO, ofE, varO, varE, mvE, cF, derefs, deref, PD.g1, PD.g2, setv, tstF, truF, trueD, andT, orT, notT, andE, orE, notE, iteE, getE, newDF, dispF, dispL, seqI, rngI, callF, callM, frzL, pkS, immD, immL, mutF, noSlot, tyD, slF, partF, nameG, tupG, consG, nilG, subG, wipeE, unw, noOwn, yesT, PyData.plain, PyData.plainAll, PyData.depth, PyData.depthAll, bodyFF, argE, fin0, nxF, retN, forF, tupD, lstD, turnF, isE, eqD, eqv_str, e2]
  have t3 : opF (consO (varO 5) (consO (ofE (cF (.int 0))) nilO)) (PD.g2 geD) (isE ks os q y) = some (.bool (decide (0 ≤ q.2)), false, isE ks os q y) := by simp [seqF, setF, retF, exprF, ifF, asgF, augF, augS, parF, opF, opFA, consO, nilO, ofE, varO, varE, mvE, cF, derefs, deref, PD.g1, PD.g2, setv, tstF, truF, trueD, andT, orT, notT, andE, orE, notE, iteE, getE, newDF, dispF, dispL, seqI, rngI, callF, callM, frzL, pkS, immD, immL, mutF, noSlot, tyD, slF, partF, nameG, tupG, consG, nilG, subG, wipeE, unw, noOwn, yesT, PyData.plain, PyData.plainAll, PyData.depth, PyData.depthAll, bodyFF, argE, fin0, nxF, retN, forF, tupD, lstD, turnF, isE, geD]
  have t4 : opF (consO (ofE (cF (.bool false))) (consO (ofE (lcF [6] (seqI (varE 1)) (nameG 6) yesT is_settled_e2)) nilO)) (PD.g2 ninD) (isE ks os q y) = some (.bool (os.all (rkIs ks .fa q.2)), false, isE ks os q y) := by
    simp only [opF, consO, ofE, l2, cF, nilO, derefs, deref, PD.g2, ninD, bool_in, not_all]
  have t5 : opF (consO (ofE (cF (.bool true))) (consO (ofE (lcF [6] (seqI (varE 1)) (nameG 6) yesT is_settled_e3)) nilO)) (PD.g2 inD) (isE ks os q y) = some (.bool (os.any (rkIs ks .st q.2)), false, isE ks os q y) := by
    simp only [opF, consO, ofE, l3, cF, nilO, derefs, deref, PD.g2, bool_in, any_true]
  have t6 : opF (consO (varO 5) (consO (ofE (opF (consO (ofE (cF (.int 1))) nilO) (PD.g1 negD))) nilO)) (PD.g2 eqD) (isE ks os q y) = some (.bool (decide (q.2 = -1)), false, isE ks os q y) := by simp [seqF, setF, retF, exprF, ifF, asgF, augF, augS, parF, opF, opFA, consO, nilO, ofE, varO, varE, mvE, cF, derefs, deref, PD.g1, PD.g2, setv, tstF, truF, trueD, andT, orT, notT, andE, orE, notE, iteE, getE, newDF, dispF, dispL, seqI, rngI, callF, callM, frzL, pkS, immD, immL, mutF, noSlot, tyD, slF, partF, nameG, tupG, consG, nilG, subG, wipeE, unw, noOwn, yesT, PyData.plain, PyData.plainAll, PyData.depth, PyData.depthAll, bodyFF, argE, fin0, nxF, retN, forF, tupD, lstD, turnF, isE, negD, eqD, eqv_int]
  have t7 : opF (consO (ofE (cF (.str s_stands))) (consO (varO 3) nilO)) (PD.g2 ninD) (isE ks os q y) = some (.bool (!os.any fun o => decide (labR ks o = .st)), false, isE ks os q y) := by
    subst hy
    have z := lab_in ks os .st
    simp only [Lb.s] at z
    simp [-List.map_map, seqF, setF, retF, exprF, ifF, asgF, augF, augS, parF, opF, opFA, consO, nilO, ofE, varO, varE, mvE, cF, derefs, deref, PD.g1, PD.g2, setv, tstF, truF, trueD, andT, orT, notT, andE, orE, notE, iteE, getE, newDF, dispF, dispL, seqI, rngI, callF, callM, frzL, pkS, immD, immL, mutF, noSlot, tyD, slF, partF, nameG, tupG, consG, nilG, subG, wipeE, unw, noOwn, yesT, PyData.plain, PyData.plainAll, PyData.depth, PyData.depthAll, bodyFF, argE, fin0, nxF, retN, forF, tupD, lstD, turnF, isE, ninD]
    simp only [Lb.s] at *
    rw [z]
  have t8 : opF (consO (ofE (cF (.str s_open))) (consO (varO 3) nilO)) (PD.g2 inD) (isE ks os q y) = some (.bool (os.any fun o => decide (labR ks o = .op)), false, isE ks os q y) := by
    subst hy
    have z := lab_in ks os .op
    simp only [Lb.s] at z
    simp [-List.map_map, seqF, setF, retF, exprF, ifF, asgF, augF, augS, parF, opF, opFA, consO, nilO, ofE, varO, varE, mvE, cF, derefs, deref, PD.g1, PD.g2, setv, tstF, truF, trueD, andT, orT, notT, andE, orE, notE, iteE, getE, newDF, dispF, dispL, seqI, rngI, callF, callM, frzL, pkS, immD, immL, mutF, noSlot, tyD, slF, partF, nameG, tupG, consG, nilG, subG, wipeE, unw, noOwn, yesT, PyData.plain, PyData.plainAll, PyData.depth, PyData.depthAll, bodyFF, argE, fin0, nxF, retN, forF, tupD, lstD, turnF, isE]
    simp only [Lb.s] at *
    rw [z]
  unfold is_settled_F bodyFF is_settled_B
  rw [show (7 - [PyData.dict (ks.map encKV), PyData.list (os.map .str), encQ q].length) = 4 from rfl, h0]
  obtain ⟨l, r⟩ := q
  simp only at t1 t2 t3 t4 t5 t6 t7 t8
  cases l with
  | st =>
    simp only [eq_self, decide_true] at t1
    cases c : decide (0 ≤ r) <;> simp only [c] at t3 <;> simp only [seqF, s1, s2, ifF, t1, retF, andE, t3, t4, fin0, setl, c, Bool.false_and, Bool.true_and]
  | fa =>
    simp only [eq_self, decide_true, reduceCtorEq, decide_false] at t1 t2
    cases c : decide (0 ≤ r) <;> simp only [c] at t3 <;> simp only [seqF, s1, s2, ifF, t1, t2, nxF, retF, andE, t3, t5, fin0, setl, c, Bool.false_and, Bool.true_and]
  | op =>
    simp only [reduceCtorEq, decide_false] at t1 t2
    cases c : decide (r = -1) <;> cases c2 : (os.any fun o => decide (labR ks o = .st)) <;> simp only [c] at t6 <;> simp only [c2, Bool.not_false, Bool.not_true] at t7 <;>
      simp only [seqF, s1, s2, ifF, t1, t2, nxF, retF, andE, t6, t7, t8, fin0, setl, c, c2, Bool.false_and, Bool.true_and, Bool.not_false, Bool.not_true]
end K13

/-! K13H: judge_stands. -/
namespace K13
open PySem PD

def rowT (p : Row Str) : List D := [.str p.1, .str p.2.1.s, .int p.2.2]
theorem rowT_map (rows : List (Row Str)) : (rows.map rowT).map PyData.tuple = rows.map encRow := by
  rw [List.map_map]; rfl
def jE (names : List Str) (as : List (Str × Str)) (ts : List (List D)) (kn : Option (List (Row Str))) (x5 x6 x7 x8 x9 : Option D) : Ev :=
  [some (.list (names.map .str), .sh), some (.list (as.map encP), .sh), some (.tuple (ts.map .tuple), .sh), kn.map fun l => (.dict (l.map encKV), .ow), x5.map fun d => (d, .sh), x6.map fun d => (d, .sh), x7.map fun d => (d, .sh), x8.map fun d => (d, .sh), x9.map fun d => (d, .sh)]
section
variable {names : List Str} {as : List (Str × Str)} {ts : List (List D)}
theorem j_lc1 {x8 : Option D} : lcL [7] (nameG 7) yesT judge_stands_e1 (ts.map .tuple) (jE names as ts none none none none none none) = some (ts.map fun t => .bool (decide (t.length = 3)), jE names as ts none none none none none none) := by
  rw [lcL_map PyData.tuple (fun t => some (.bool (decide (t.length = 3)))) ts fun t _ => ?_, filterMap_all]
  have e : decide ((t.length : Int) = 3) = decide (t.length = 3) := by
    rw [decide_eq_decide]
    omega
  simp [judge_stands_e1, jE, seqF, setF, retF, exprF, ifF, asgF, augF, augS, parF, opF, opFA, consO, nilO, ofE, varO, varE, mvE, cF, derefs, deref, PD.g1, PD.g2, setv, tstF, truF, trueD, andT, orT, notT, andE, orE, notE, iteE, getE, newDF, dispF, dispL, seqI, rngI, callF, callM, frzL, pkS, immD, immL, mutF, noSlot, tyD, slF, partF, nameG, tupG, consG, nilG, subG, wipeE, unw, noOwn, yesT, PyData.plain, PyData.plainAll, PyData.depth, PyData.depthAll, bodyFF, argE, fin0, nxF, retN, forF, tupD, lstD, turnF, isiD, isTn, tnD, lenD, eqD, eqv_int, e]
theorem j_start : argE false [PyData.list (names.map .str), PyData.list (as.map encP), PyData.tuple (ts.map .tuple)] ++ List.replicate 6 none = jE names as ts none none none none none none := rfl
/-- the first test -/
theorem j_first (hl : ts.length < 64) : orT (notT (truF (ofE (opF (consO (varO 2) nilO) (PD.g1 (isiD .tuple)))))) (tstF (opF (consO (ofE (cF (.bool false))) (consO (ofE (lcF [7] (seqI (varE 2)) (nameG 7) yesT judge_stands_e1)) nilO)) (PD.g2 inD))) (jE names as ts none none none none none none) = some (!ts.all fun t => decide (t.length = 3), jE names as ts none none none none none none) := by
  have a : notT (truF (ofE (opF (consO (varO 2) nilO) (PD.g1 (isiD .tuple))))) (jE names as ts none none none none none none) = some (false, jE names as ts none none none none none none) := by
    simp [jE, seqF, setF, retF, exprF, ifF, asgF, augF, augS, parF, opF, opFA, consO, nilO, ofE, varO, varE, mvE, cF, derefs, deref, PD.g1, PD.g2, setv, tstF, truF, trueD, andT, orT, notT, andE, orE, notE, iteE, getE, newDF, dispF, dispL, seqI, rngI, callF, callM, frzL, pkS, immD, immL, mutF, noSlot, tyD, slF, partF, nameG, tupG, consG, nilG, subG, wipeE, unw, noOwn, yesT, PyData.plain, PyData.plainAll, PyData.depth, PyData.depthAll, bodyFF, argE, fin0, nxF, retN, forF, tupD, lstD, turnF, isiD, isTn, tnD]
  have sq : seqI (varE 2) (jE names as ts none none none none none none) = some (ts.map .tuple, jE names as ts none none none none none none) := by simp [jE, seqF, setF, retF, exprF, ifF, asgF, augF, augS, parF, opF, opFA, consO, nilO, ofE, varO, varE, mvE, cF, derefs, deref, PD.g1, PD.g2, setv, tstF, truF, trueD, andT, orT, notT, andE, orE, notE, iteE, getE, newDF, dispF, dispL, seqI, rngI, callF, callM, frzL, pkS, immD, immL, mutF, noSlot, tyD, slF, partF, nameG, tupG, consG, nilG, subG, wipeE, unw, noOwn, yesT, PyData.plain, PyData.plainAll, PyData.depth, PyData.depthAll, bodyFF, argE, fin0, nxF, retN, forF, tupD, lstD, turnF]
  have no : noOwn (jE names as ts none none none none none none) [7] = true := by simp [jE, seqF, setF, retF, exprF, ifF, asgF, augF, augS, parF, opF, opFA, consO, nilO, ofE, varO, varE, mvE, cF, derefs, deref, PD.g1, PD.g2, setv, tstF, truF, trueD, andT, orT, notT, andE, orE, notE, iteE, getE, newDF, dispF, dispL, seqI, rngI, callF, callM, frzL, pkS, immD, immL, mutF, noSlot, tyD, slF, partF, nameG, tupG, consG, nilG, subG, wipeE, unw, noOwn, yesT, PyData.plain, PyData.plainAll, PyData.depth, PyData.depthAll, bodyFF, argE, fin0, nxF, retN, forF, tupD, lstD, turnF]
  have wi : wipeE (jE names as ts none none none none none none) [7] = jE names as ts none none none none none none := by simp [jE, seqF, setF, retF, exprF, ifF, asgF, augF, augS, parF, opF, opFA, consO, nilO, ofE, varO, varE, mvE, cF, derefs, deref, PD.g1, PD.g2, setv, tstF, truF, trueD, andT, orT, notT, andE, orE, notE, iteE, getE, newDF, dispF, dispL, seqI, rngI, callF, callM, frzL, pkS, immD, immL, mutF, noSlot, tyD, slF, partF, nameG, tupG, consG, nilG, subG, wipeE, unw, noOwn, yesT, PyData.plain, PyData.plainAll, PyData.depth, PyData.depthAll, bodyFF, argE, fin0, nxF, retN, forF, tupD, lstD, turnF]
  have un : unw (jE names as ts none none none none none none) (jE names as ts none none none none none none) [7] = jE names as ts none none none none none none := by simp [jE, seqF, setF, retF, exprF, ifF, asgF, augF, augS, parF, opF, opFA, consO, nilO, ofE, varO, varE, mvE, cF, derefs, deref, PD.g1, PD.g2, setv, tstF, truF, trueD, andT, orT, notT, andE, orE, notE, iteE, getE, newDF, dispF, dispL, seqI, rngI, callF, callM, frzL, pkS, immD, immL, mutF, noSlot, tyD, slF, partF, nameG, tupG, consG, nilG, subG, wipeE, unw, noOwn, yesT, PyData.plain, PyData.plainAll, PyData.depth, PyData.depthAll, bodyFF, argE, fin0, nxF, retN, forF, tupD, lstD, turnF]
  have l : lcF [7] (seqI (varE 2)) (nameG 7) yesT judge_stands_e1 (jE names as ts none none none none none none) = some (.list ((ts.map fun t => decide (t.length = 3)).map .bool), true, jE names as ts none none none none none none) := by
    simp only [lcF, sq, List.length_map, size63 hl, no, wi, j_lc1 (x8 := none), un, and_self, if_true, List.map_map]
    rfl
  have m := not_all (fun t : List D => decide (t.length = 3)) ts
  have m2 : ((ts.map fun t => decide (t.length = 3)).any fun x => decide (x = false)) = !ts.all fun t => decide (t.length = 3) := by
    rw [← m, Bool.not_not]
  simp only [orT, a, tstF, opF, consO, ofE, cF, l, nilO, derefs, deref, PD.g2, bool_in, m2]
theorem judge_bad (hl : ts.length < 64) (h : (ts.all fun t => decide (t.length = 3)) = false) : judge_stands_F [.list (names.map .str), .list (as.map encP), .tuple (ts.map .tuple)] = some (.bool false, false, .none) := by
  unfold judge_stands_F bodyFF judge_stands_B
  rw [show (9 - [PyData.list (names.map .str), PyData.list (as.map encP), PyData.tuple (ts.map .tuple)].length) = 6 from rfl, j_start]
  simp only [seqF, ifF, j_first hl, h, Bool.not_false, retF, cF, fin0]
theorem eqv_strs : ∀ xs ys : List Str, PyData.eqvAll (xs.map .str) (ys.map .str) = decide (xs = ys)
  | [], [] => rfl
  | [], _ :: _ => rfl
  | _ :: _, [] => rfl
  | x :: r, y :: t => by
    simp only [List.map_cons, PyData.eqvAll, eqv_str, eqv_strs r t]
    rw [Bool.eq_iff_iff]
    simp
theorem ne_strs (xs ys : List Str) : neD (.list (xs.map .str)) (.list (ys.map .str)) = some (.bool (!decide (xs = ys)), false) := by
  have e : PyData.eqv (.list (xs.map .str)) (.list (ys.map .str)) = decide (xs = ys) := by
    rw [← eqv_strs]
    simp [PyData.eqv]
  simp [-List.map_map, neD, PyData.plain, plain_strs, depth_strs, PyData.depth, e]
variable {rows : List (Row Str)}
theorem j_lc2 : lcL [4, 8] (tupG 3 (consG (nameG 4) (consG (nameG 8) (consG (nameG 8) nilG)))) yesT judge_stands_e2 (rows.map encRow) (jE names as (rows.map rowT) none none none none none none) = some ((rows.map (·.1)).map .str, jE names as (rows.map rowT) none none none none none none) := by
  rw [lcL_map encRow (fun p => some (.str p.1)) rows fun p _ => ?_, filterMap_all]
  · simp
  · simp [judge_stands_e2, jE, seqF, setF, retF, exprF, ifF, asgF, augF, augS, parF, opF, opFA, consO, nilO, ofE, varO, varE, mvE, cF, derefs, deref, PD.g1, PD.g2, setv, tstF, truF, trueD, andT, orT, notT, andE, orE, notE, iteE, getE, newDF, dispF, dispL, seqI, rngI, callF, callM, frzL, pkS, immD, immL, mutF, noSlot, tyD, slF, partF, nameG, tupG, consG, nilG, subG, wipeE, unw, noOwn, yesT, PyData.plain, PyData.plainAll, PyData.depth, PyData.depthAll, bodyFF, argE, fin0, nxF, retN, forF, tupD, lstD, turnF, encRow]
/-- the second test -/
theorem j_second (hl : rows.length < 64) (hn : names.length < 64) : tstF (opF (consO (ofE (lcF [4, 8] (seqI (varE 2)) (tupG 3 (consG (nameG 4) (consG (nameG 8) (consG (nameG 8) nilG)))) yesT judge_stands_e2)) (consO (ofE (opF (consO (varO 0) nilO) (PD.g1 sortD))) nilO)) (PD.g2 neD)) (jE names as (rows.map rowT) none none none none none none) = some (!decide (rows.map (·.1) = sortS names), jE names as (rows.map rowT) none none none none none none) := by
  have sq : seqI (varE 2) (jE names as (rows.map rowT) none none none none none none) = some (rows.map encRow, jE names as (rows.map rowT) none none none none none none) := by
    rw [← rowT_map]
    simp [-List.map_map, jE, seqF, setF, retF, exprF, ifF, asgF, augF, augS, parF, opF, opFA, consO, nilO, ofE, varO, varE, mvE, cF, derefs, deref, PD.g1, PD.g2, setv, tstF, truF, trueD, andT, orT, notT, andE, orE, notE, iteE, getE, newDF, dispF, dispL, seqI, rngI, callF, callM, frzL, pkS, immD, immL, mutF, noSlot, tyD, slF, partF, nameG, tupG, consG, nilG, subG, wipeE, unw, noOwn, yesT, PyData.plain, PyData.plainAll, PyData.depth, PyData.depthAll, bodyFF, argE, fin0, nxF, retN, forF, tupD, lstD, turnF]
  have no : noOwn (jE names as (rows.map rowT) none none none none none none) [4, 8] = true := by simp [jE, seqF, setF, retF, exprF, ifF, asgF, augF, augS, parF, opF, opFA, consO, nilO, ofE, varO, varE, mvE, cF, derefs, deref, PD.g1, PD.g2, setv, tstF, truF, trueD, andT, orT, notT, andE, orE, notE, iteE, getE, newDF, dispF, dispL, seqI, rngI, callF, callM, frzL, pkS, immD, immL, mutF, noSlot, tyD, slF, partF, nameG, tupG, consG, nilG, subG, wipeE, unw, noOwn, yesT, PyData.plain, PyData.plainAll, PyData.depth, PyData.depthAll, bodyFF, argE, fin0, nxF, retN, forF, tupD, lstD, turnF]
  have wi : wipeE (jE names as (rows.map rowT) none none none none none none) [4, 8] = jE names as (rows.map rowT) none none none none none none := by simp [jE, seqF, setF, retF, exprF, ifF, asgF, augF, augS, parF, opF, opFA, consO, nilO, ofE, varO, varE, mvE, cF, derefs, deref, PD.g1, PD.g2, setv, tstF, truF, trueD, andT, orT, notT, andE, orE, notE, iteE, getE, newDF, dispF, dispL, seqI, rngI, callF, callM, frzL, pkS, immD, immL, mutF, noSlot, tyD, slF, partF, nameG, tupG, consG, nilG, subG, wipeE, unw, noOwn, yesT, PyData.plain, PyData.plainAll, PyData.depth, PyData.depthAll, bodyFF, argE, fin0, nxF, retN, forF, tupD, lstD, turnF]
  have un : unw (jE names as (rows.map rowT) none none none none none none) (jE names as (rows.map rowT) none none none none none none) [4, 8] = jE names as (rows.map rowT) none none none none none none := by simp [jE, seqF, setF, retF, exprF, ifF, asgF, augF, augS, parF, opF, opFA, consO, nilO, ofE, varO, varE, mvE, cF, derefs, deref, PD.g1, PD.g2, setv, tstF, truF, trueD, andT, orT, notT, andE, orE, notE, iteE, getE, newDF, dispF, dispL, seqI, rngI, callF, callM, frzL, pkS, immD, immL, mutF, noSlot, tyD, slF, partF, nameG, tupG, consG, nilG, subG, wipeE, unw, noOwn, yesT, PyData.plain, PyData.plainAll, PyData.depth, PyData.depthAll, bodyFF, argE, fin0, nxF, retN, forF, tupD, lstD, turnF]
  have l : lcF [4, 8] (seqI (varE 2)) (tupG 3 (consG (nameG 4) (consG (nameG 8) (consG (nameG 8) nilG)))) yesT judge_stands_e2 (jE names as (rows.map rowT) none none none none none none) = some (.list ((rows.map (·.1)).map .str), true, jE names as (rows.map rowT) none none none none none none) := by
    simp only [lcF, sq, List.length_map, size63 hl, no, wi, j_lc2, un, and_self, if_true]
  have so : opF (consO (varO 0) nilO) (PD.g1 sortD) (jE names as (rows.map rowT) none none none none none none) = some (.list ((sortS names).map .str), true, jE names as (rows.map rowT) none none none none none none) := by
    simp [-List.map_map, jE, seqF, setF, retF, exprF, ifF, asgF, augF, augS, parF, opF, opFA, consO, nilO, ofE, varO, varE, mvE, cF, derefs, deref, PD.g1, PD.g2, setv, tstF, truF, trueD, andT, orT, notT, andE, orE, notE, iteE, getE, newDF, dispF, dispL, seqI, rngI, callF, callM, frzL, pkS, immD, immL, mutF, noSlot, tyD, slF, partF, nameG, tupG, consG, nilG, subG, wipeE, unw, noOwn, yesT, PyData.plain, PyData.plainAll, PyData.depth, PyData.depthAll, bodyFF, argE, fin0, nxF, retN, forF, tupD, lstD, turnF, sortD, strsD_map, hn]
  simp only [tstF, opF, consO, ofE, l, nilO]
  simp only [opF, consO, nilO] at so
  simp only [so, derefs, deref, PD.g2, ne_strs]
theorem tri_all : ((rows.map rowT).all fun t => decide (t.length = 3)) = true := by
  rw [List.all_map]
  exact List.all_eq_true.mpr fun p _ => rfl
theorem judge_names (hl : rows.length < 64) (hn : names.length < 64) (h : rows.map (·.1) ≠ sortS names) : judge_stands_F [.list (names.map .str), .list (as.map encP), .tuple (rows.map encRow)] = some (.bool false, false, .none) := by
  unfold judge_stands_F bodyFF judge_stands_B
  rw [← rowT_map, show (9 - [PyData.list (names.map .str), PyData.list (as.map encP), PyData.tuple ((rows.map rowT).map .tuple)].length) = 6 from rfl, j_start]
  simp only [seqF, ifF, j_first (ts := rows.map rowT) (by rw [List.length_map]; exact hl), tri_all, Bool.not_true, nxF, j_second hl hn, decide_eq_false h, Bool.not_false, retF, cF, fin0]
/-- known, while it is walked -/
def jK (names : List Str) (as : List (Str × Str)) (ts : List (List D)) (kn : List (Row Str)) (x5 x6 x7 : Option D) : Ev :=
  [some (.list (names.map .str), .sh), some (.list (as.map encP), .sh), some (.tuple (ts.map .tuple), .sh), some (.dict (kn.map encKV), .sh), x5.map fun d => (d, .sh), x6.map fun d => (d, .sh), x7.map fun d => (d, .sh), none, none]
theorem lab_labels (L : Lb) : ninD (.str L.s) c_LABELS = some (.bool false, false) := by
  cases L <;> simp [ninD, inD, c_LABELS, PyData.plain, PyData.plainAll, PyData.depth, PyData.depthAll, eqv_str, Lb.s]
theorem j_turn {kn : List (Row Str)} {x5 x6 x7 : Option D} (p : Row Str) (hg : getR kn p.1 = none) (hl : kn.length < 64) :
    ∃ y5 y6 y7, (match tupG 3 (consG (nameG 4) (consG (nameG 5) (consG (nameG 6) nilG))) (encRow p) (jE names as ts (some kn) x5 x6 x7 none none) with
      | some e1 => judge_stands_b1 e1
      | none => none) = some (.nx, jE names as ts (some (kn ++ [p])) y5 y6 y7 none none) := by
  have h1 : tupG 3 (consG (nameG 4) (consG (nameG 5) (consG (nameG 6) nilG))) (encRow p) (jE names as ts (some kn) x5 x6 x7 none none) = some (jE names as ts (some kn) (some (.str p.1)) (some (.str p.2.1.s)) (some (.int p.2.2)) none none) := by
    cases x5 <;> cases x6 <;> cases x7 <;> simp [jE, seqF, setF, retF, exprF, ifF, asgF, augF, augS, parF, opF, opFA, consO, nilO, ofE, varO, varE, mvE, cF, derefs, deref, PD.g1, PD.g2, setv, tstF, truF, trueD, andT, orT, notT, andE, orE, notE, iteE, getE, newDF, dispF, dispL, seqI, rngI, callF, callM, frzL, pkS, immD, immL, mutF, noSlot, tyD, slF, partF, nameG, tupG, consG, nilG, subG, wipeE, unw, noOwn, yesT, PyData.plain, PyData.plainAll, PyData.depth, PyData.depthAll, bodyFF, argE, fin0, nxF, retN, forF, tupD, lstD, turnF, encRow]
  refine ⟨some (.str p.1), some (.str p.2.1.s), some (.int p.2.2), ?_⟩
  rw [h1]
  show judge_stands_b1 _ = _
  unfold judge_stands_b1
  have hs : kn.length < sizeLine := by rw [sizeLine_eq]; omega
  have p1 : putP (kn.map encKV) (.str p.1) (.tuple [.str p.2.1.s, .int p.2.2]) = (kn ++ [p]).map encKV := put_enc (q := p.2) hg
  simp [-List.map_map, -List.map_append, jE, seqF, setF, retF, exprF, ifF, asgF, augF, augS, parF, opF, opFA, consO, nilO, ofE, varO, varE, mvE, cF, derefs, deref, PD.g1, PD.g2, setv, tstF, truF, trueD, andT, orT, notT, andE, orE, notE, iteE, getE, newDF, dispF, dispL, seqI, rngI, callF, callM, frzL, pkS, immD, immL, mutF, noSlot, tyD, slF, partF, nameG, tupG, consG, nilG, subG, wipeE, unw, noOwn, yesT, PyData.plain, PyData.plainAll, PyData.depth, PyData.depthAll, bodyFF, argE, fin0, nxF, retN, forF, tupD, lstD, turnF, lab_labels, isiD, isTn, tnD, size63, putD, keyD, hs, p1]
theorem j_loop : ∀ (rs kn : List (Row Str)) (x5 x6 x7 : Option D), (rs.map (·.1)).Nodup → (∀ p ∈ rs, getR kn p.1 = none) → kn.length + rs.length ≤ 64 →
    ∃ y5 y6 y7, forL (tupG 3 (consG (nameG 4) (consG (nameG 5) (consG (nameG 6) nilG)))) judge_stands_b1 (rs.map encRow) (jE names as ts (some kn) x5 x6 x7 none none) = some (.nx, jE names as ts (some (kn ++ rs)) y5 y6 y7 none none)
  | [], kn, x5, x6, x7, _, _, _ => ⟨x5, x6, x7, by simp [forL]⟩
  | p :: rs, kn, x5, x6, x7, hn, hg, hl => by
    rw [List.map_cons] at hn
    obtain ⟨n1, n2⟩ := List.nodup_cons.mp hn
    rw [List.length_cons] at hl
    obtain ⟨y5, y6, y7, h1⟩ := j_turn (names := names) (as := as) (ts := ts) (x5 := x5) (x6 := x6) (x7 := x7) p (hg p List.mem_cons_self) (by omega)
    obtain ⟨z5, z6, z7, h2⟩ := j_loop rs (kn ++ [p]) y5 y6 y7 n2 (fun q hq => by
      rw [getR_app, hg q (List.mem_cons_of_mem _ hq)]
      simp only [getR]
      rw [if_neg fun (e : p.1 = q.1) => n1 (by rw [e]; exact List.mem_map_of_mem hq)]) (by simp; omega)
    refine ⟨z5, z6, z7, ?_⟩
    rw [List.append_assoc] at h2
    simp only [List.map_cons, forL]
    split at h1
    · rename_i e1 k1
      simp only [k1, h1, h2]
      rfl
    · cases h1
theorem getR_mem {fs : List (Row Str)} (hn : (fs.map (·.1)).Nodup) {p : Row Str} (hp : p ∈ fs) : getR fs p.1 = some p.2 := by
  induction fs with
  | nil => cases hp
  | cons q r ih =>
    rw [List.map_cons] at hn
    obtain ⟨n1, n2⟩ := List.nodup_cons.mp hn
    simp only [getR]
    rcases List.mem_cons.mp hp with rfl | hp
    · rw [if_pos rfl]
    · rw [if_neg fun (e : q.1 = p.1) => n1 (by rw [e]; exact List.mem_map_of_mem hp)]
      exact ih n2 hp
theorem getR_of_name {fs : List (Row Str)} {n : Str} (h : n ∈ fs.map (·.1)) : (getR fs n).isSome = true := by
  cases q : getR fs n with
  | some _ => rfl
  | none =>
    obtain ⟨p, hp, e⟩ := List.mem_map.mp h
    exact absurd e (getR_none.mp q p hp)
theorem j_lc3 {x6 x7 : Option D} (ha : as.length < 64) (hn : (rows.map (·.1)).Nodup) (has : ∀ p ∈ as, p.1 ∈ rows.map (·.1)) : lcL [4] (nameG 4) yesT judge_stands_e3 (rows.map fun p => .str p.1) (jK names as ts rows none x6 x7) = some (rows.map fun p => .bool (setl rows (att as p.1) p.2.1 p.2.2), jK names as ts rows none x6 x7) := by
  rw [lcL_map (fun p : Row Str => PyData.str p.1) (fun p => some (.bool (setl rows (att as p.1) p.2.1 p.2.2))) rows fun p hp => ?_, filterMap_all]
  have g := getR_mem hn hp
  have ho : ∀ o ∈ att as p.1, (getR rows o).isSome = true := fun o h => getR_of_name (has _ (att_mem.mp h))
  have sp := settled_spec p.2 ho (Nat.lt_of_le_of_lt att_len ha)
  have h1 : nameG 4 (.str p.1) (jK names as ts rows none x6 x7) = some (jK names as ts rows (some (.str p.1)) x6 x7) := by simp [jK, seqF, setF, retF, exprF, ifF, asgF, augF, augS, parF, opF, opFA, consO, nilO, ofE, varO, varE, mvE, cF, derefs, deref, PD.g1, PD.g2, setv, tstF, truF, trueD, andT, orT, notT, andE, orE, notE, iteE, getE, newDF, dispF, dispL, seqI, rngI, callF, callM, frzL, pkS, immD, immL, mutF, noSlot, tyD, slF, partF, nameG, tupG, consG, nilG, subG, wipeE, unw, noOwn, yesT, PyData.plain, PyData.plainAll, PyData.depth, PyData.depthAll, bodyFF, argE, fin0, nxF, retN, forF, tupD, lstD, turnF]
  have h2 : callF attackers_F [] (consO (varO 1) (consO (varO 4) nilO)) (jK names as ts rows (some (.str p.1)) x6 x7) = some (.list ((att as p.1).map .str), true, jK names as ts rows (some (.str p.1)) x6 x7) := by
    simp [-List.map_map, jK, seqF, setF, retF, exprF, ifF, asgF, augF, augS, parF, opF, opFA, consO, nilO, ofE, varO, varE, mvE, cF, derefs, deref, PD.g1, PD.g2, setv, tstF, truF, trueD, andT, orT, notT, andE, orE, notE, iteE, getE, newDF, dispF, dispL, seqI, rngI, callF, callM, frzL, pkS, immD, immL, mutF, noSlot, tyD, slF, partF, nameG, tupG, consG, nilG, subG, wipeE, unw, noOwn, yesT, PyData.plain, PyData.plainAll, PyData.depth, PyData.depthAll, bodyFF, argE, fin0, nxF, retN, forF, tupD, lstD, turnF, attackers_spec as p.1 ha]
  have h3 : opF (consO (varO 3) (consO (varO 4) nilO)) (PD.g2 ixD) (jK names as ts rows (some (.str p.1)) x6 x7) = some (encQ p.2, false, jK names as ts rows (some (.str p.1)) x6 x7) := by
    simp [-List.map_map, jK, seqF, setF, retF, exprF, ifF, asgF, augF, augS, parF, opF, opFA, consO, nilO, ofE, varO, varE, mvE, cF, derefs, deref, PD.g1, PD.g2, setv, tstF, truF, trueD, andT, orT, notT, andE, orE, notE, iteE, getE, newDF, dispF, dispL, seqI, rngI, callF, callM, frzL, pkS, immD, immL, mutF, noSlot, tyD, slF, partF, nameG, tupG, consG, nilG, subG, wipeE, unw, noOwn, yesT, PyData.plain, PyData.plainAll, PyData.depth, PyData.depthAll, bodyFF, argE, fin0, nxF, retN, forF, tupD, lstD, turnF, ixD, keyD, look_enc, g]
  have h4 : varO 3 (jK names as ts rows (some (.str p.1)) x6 x7) = some (.slot 3, jK names as ts rows (some (.str p.1)) x6 x7) := by simp [jK, seqF, setF, retF, exprF, ifF, asgF, augF, augS, parF, opF, opFA, consO, nilO, ofE, varO, varE, mvE, cF, derefs, deref, PD.g1, PD.g2, setv, tstF, truF, trueD, andT, orT, notT, andE, orE, notE, iteE, getE, newDF, dispF, dispL, seqI, rngI, callF, callM, frzL, pkS, immD, immL, mutF, noSlot, tyD, slF, partF, nameG, tupG, consG, nilG, subG, wipeE, unw, noOwn, yesT, PyData.plain, PyData.plainAll, PyData.depth, PyData.depthAll, bodyFF, argE, fin0, nxF, retN, forF, tupD, lstD, turnF]
  have h5 : derefs (jK names as ts rows (some (.str p.1)) x6 x7) [.slot 3, .val (.list ((att as p.1).map .str)), .val (encQ p.2)] = some [.dict (rows.map encKV), .list ((att as p.1).map .str), encQ p.2] := by
    simp [-List.map_map, jK, seqF, setF, retF, exprF, ifF, asgF, augF, augS, parF, opF, opFA, consO, nilO, ofE, varO, varE, mvE, cF, derefs, deref, PD.g1, PD.g2, setv, tstF, truF, trueD, andT, orT, notT, andE, orE, notE, iteE, getE, newDF, dispF, dispL, seqI, rngI, callF, callM, frzL, pkS, immD, immL, mutF, noSlot, tyD, slF, partF, nameG, tupG, consG, nilG, subG, wipeE, unw, noOwn, yesT, PyData.plain, PyData.plainAll, PyData.depth, PyData.depthAll, bodyFF, argE, fin0, nxF, retN, forF, tupD, lstD, turnF]
  have h6 : pkS (jK names as ts rows (some (.str p.1)) x6 x7) [.slot 3, .val (.list ((att as p.1).map .str)), .val (encQ p.2)] = [] := by
    simp [-List.map_map, jK, seqF, setF, retF, exprF, ifF, asgF, augF, augS, parF, opF, opFA, consO, nilO, ofE, varO, varE, mvE, cF, derefs, deref, PD.g1, PD.g2, setv, tstF, truF, trueD, andT, orT, notT, andE, orE, notE, iteE, getE, newDF, dispF, dispL, seqI, rngI, callF, callM, frzL, pkS, immD, immL, mutF, noSlot, tyD, slF, partF, nameG, tupG, consG, nilG, subG, wipeE, unw, noOwn, yesT, PyData.plain, PyData.plainAll, PyData.depth, PyData.depthAll, bodyFF, argE, fin0, nxF, retN, forF, tupD, lstD, turnF]
  have h7 : judge_stands_e3 (jK names as ts rows (some (.str p.1)) x6 x7) = some (.bool (setl rows (att as p.1) p.2.1 p.2.2), false, jK names as ts rows (some (.str p.1)) x6 x7) := by
    exact callF_eq (consO_eq h4 (consO_eq (ofE_eq h2) (consO_eq (ofE_eq h3) nilO_eq))) h5 sp h6
  simp only [turnF, h1, yesT, h7]
  simp [jK, seqF, setF, retF, exprF, ifF, asgF, augF, augS, parF, opF, opFA, consO, nilO, ofE, varO, varE, mvE, cF, derefs, deref, PD.g1, PD.g2, setv, tstF, truF, trueD, andT, orT, notT, andE, orE, notE, iteE, getE, newDF, dispF, dispL, seqI, rngI, callF, callM, frzL, pkS, immD, immL, mutF, noSlot, tyD, slF, partF, nameG, tupG, consG, nilG, subG, wipeE, unw, noOwn, yesT, PyData.plain, PyData.plainAll, PyData.depth, PyData.depthAll, bodyFF, argE, fin0, nxF, retN, forF, tupD, lstD, turnF]
/-- the judge of rows -/
theorem judge_spec (ha : as.length < 64) (hn : names.Nodup) (hl : names.length < 64) (hr : rows.map (·.1) = sortS names) (has : ∀ p ∈ as, p.1 ∈ names) : judge_stands_F [.list (names.map .str), .list (as.map encP), .tuple (rows.map encRow)] = some (.bool (rows.all fun p => setl rows (att as p.1) p.2.1 p.2.2), false, .none) := by
  have hnr : (rows.map (·.1)).Nodup := by rw [hr]; exact (sortS_perm names).nodup_iff.mpr hn
  have hlr : rows.length < 64 := by
    have := congrArg List.length hr
    rw [List.length_map, (sortS_perm names).length_eq] at this
    omega
  have hasr : ∀ p ∈ as, p.1 ∈ rows.map (·.1) := fun p hp => by
    rw [hr]
    exact (sortS_perm names).mem_iff.mpr (has p hp)
  have s3 : setF 3 newDF (jE names as (rows.map rowT) none none none none none none) = some (.nx, jE names as (rows.map rowT) (some []) none none none none none) := by simp [jE, seqF, setF, retF, exprF, ifF, asgF, augF, augS, parF, opF, opFA, consO, nilO, ofE, varO, varE, mvE, cF, derefs, deref, PD.g1, PD.g2, setv, tstF, truF, trueD, andT, orT, notT, andE, orE, notE, iteE, getE, newDF, dispF, dispL, seqI, rngI, callF, callM, frzL, pkS, immD, immL, mutF, noSlot, tyD, slF, partF, nameG, tupG, consG, nilG, subG, wipeE, unw, noOwn, yesT, PyData.plain, PyData.plainAll, PyData.depth, PyData.depthAll, bodyFF, argE, fin0, nxF, retN, forF, tupD, lstD, turnF]
  have s4 : seqI (varE 2) (jE names as (rows.map rowT) (some []) none none none none none) = some (rows.map encRow, jE names as (rows.map rowT) (some []) none none none none none) := by
    rw [← rowT_map]
    simp [-List.map_map, jE, seqF, setF, retF, exprF, ifF, asgF, augF, augS, parF, opF, opFA, consO, nilO, ofE, varO, varE, mvE, cF, derefs, deref, PD.g1, PD.g2, setv, tstF, truF, trueD, andT, orT, notT, andE, orE, notE, iteE, getE, newDF, dispF, dispL, seqI, rngI, callF, callM, frzL, pkS, immD, immL, mutF, noSlot, tyD, slF, partF, nameG, tupG, consG, nilG, subG, wipeE, unw, noOwn, yesT, PyData.plain, PyData.plainAll, PyData.depth, PyData.depthAll, bodyFF, argE, fin0, nxF, retN, forF, tupD, lstD, turnF]
  obtain ⟨y5, y6, y7, s5⟩ := j_loop (names := names) (as := as) (ts := rows.map rowT) rows [] none none none hnr (fun _ _ => rfl) (by simp; omega)
  rw [List.nil_append] at s5
  have d : dictAt 3 (jE names as (rows.map rowT) (some rows) y5 y6 y7 none none) = some (rows.map encKV, jK names as (rows.map rowT) rows y5 y6 y7) := by simp [dictAt, jE, jK]
  have no : noOwn (jK names as (rows.map rowT) rows y5 y6 y7) [4] = true := by cases y5 <;> simp [jK, seqF, setF, retF, exprF, ifF, asgF, augF, augS, parF, opF, opFA, consO, nilO, ofE, varO, varE, mvE, cF, derefs, deref, PD.g1, PD.g2, setv, tstF, truF, trueD, andT, orT, notT, andE, orE, notE, iteE, getE, newDF, dispF, dispL, seqI, rngI, callF, callM, frzL, pkS, immD, immL, mutF, noSlot, tyD, slF, partF, nameG, tupG, consG, nilG, subG, wipeE, unw, noOwn, yesT, PyData.plain, PyData.plainAll, PyData.depth, PyData.depthAll, bodyFF, argE, fin0, nxF, retN, forF, tupD, lstD, turnF]
  have wi : wipeE (jK names as (rows.map rowT) rows y5 y6 y7) [4] = jK names as (rows.map rowT) rows none y6 y7 := by simp [jK, seqF, setF, retF, exprF, ifF, asgF, augF, augS, parF, opF, opFA, consO, nilO, ofE, varO, varE, mvE, cF, derefs, deref, PD.g1, PD.g2, setv, tstF, truF, trueD, andT, orT, notT, andE, orE, notE, iteE, getE, newDF, dispF, dispL, seqI, rngI, callF, callM, frzL, pkS, immD, immL, mutF, noSlot, tyD, slF, partF, nameG, tupG, consG, nilG, subG, wipeE, unw, noOwn, yesT, PyData.plain, PyData.plainAll, PyData.depth, PyData.depthAll, bodyFF, argE, fin0, nxF, retN, forF, tupD, lstD, turnF]
  have ko : keysOf (rows.map encKV) = rows.map fun p => .str p.1 := by
    unfold keysOf
    rw [List.map_map]; rfl
  have s6 : lcDF [4] 3 keysOf (nameG 4) yesT judge_stands_e3 (jE names as (rows.map rowT) (some rows) y5 y6 y7 none none) = some (.list ((rows.map fun p => setl rows (att as p.1) p.2.1 p.2.2).map .bool), true, unw (jK names as (rows.map rowT) rows y5 y6 y7) (jK names as (rows.map rowT) rows none y6 y7) [4]) := by
    simp only [lcDF, d, ko, List.length_map, size63 hlr, no, wi, j_lc3 ha hnr hasr, and_self, if_true, List.map_map]
    rfl
  have m := not_all (fun p : Row Str => setl rows (att as p.1) p.2.1 p.2.2) rows
  unfold judge_stands_F bodyFF judge_stands_B
  rw [← rowT_map, show (9 - [PyData.list (names.map .str), PyData.list (as.map encP), PyData.tuple ((rows.map rowT).map .tuple)].length) = 6 from rfl, j_start]
  simp only [seqF, ifF, j_first (ts := rows.map rowT) (by rw [List.length_map]; exact hlr), tri_all, Bool.not_true, nxF, j_second hlr hl, hr, decide_true, s3, forF, s4, s5, retF, opF, consO, ofE, cF, s6, nilO, derefs, deref, PD.g2, ninD, bool_in, m, fin0]
end
end K13

/-! K13N: the draws. -/
namespace K13
open PySem PD

def encS (cs : List Int) (i : Nat) (b s : Int) : D := .list [.list (cs.map .int), .int i, .int b, .int s]
def nxE (cs : List Int) (i : Nat) (b s lim : Int) (x2 x3 : Option D) : Ev := [some (encS cs i b s, .br), some (.int lim, .sh), x2.map fun d => (d, .sh), x3.map fun d => (d, .sh)]
theorem next_first {cs : List Int} {i : Nat} {b s lim : Int} : ∃ i' b' s' x2, (ifF (andT (tstF (opF (consO (ofE (opF (consO (varO 0) (consO (ofE (cF (.int 2))) nilO)) (PD.g2 ixD))) (consO (ofE (cF (.int 0))) nilO)) (PD.g2 eqD))) (tstF (opF (consO (ofE (opF (consO (varO 0) (consO (ofE (cF (.int 1))) nilO)) (PD.g2 ixD))) (consO (ofE (opF (consO (ofE (opF (consO (varO 0) (consO (ofE (cF (.int 0))) nilO)) (PD.g2 ixD))) (nilO)) (PD.g1 lenD))) nilO)) (PD.g2 ltD)))) (seqF (setF 2 (opF (consO (ofE (opF (consO (varO 0) (consO (ofE (cF (.int 0))) nilO)) (PD.g2 ixD))) (consO (ofE (opF (consO (varO 0) (consO (ofE (cF (.int 1))) nilO)) (PD.g2 ixD))) nilO)) (PD.g2 ixD)))
    (seqF (augS 0 (ofE (cF (.int 1))) (ofE (cF (.int 1))) iaddD)
    (ifF (tstF (opF (consO (varO 2) (consO (ofE (opF (consO (ofE (cF (.int 10))) (consO (ofE (cF (.int 18))) nilO)) (PD.g2 powD))) nilO)) (PD.g2 geD))) (asgF (varE 2) (subG 0 (ofE (cF (.int 2))))) (asgF (opF (consO (ofE (opF (consO (ofE (opF (consO (ofE (opF (consO (ofE (opF (consO (ofE (opF (consO (varO 0) (consO (ofE (cF (.int 3))) nilO)) (PD.g2 ixD))) (consO (ofE (cF (.int 48271))) nilO)) (PD.g2 mulD))) (consO (ofE (opF (consO (ofE (opF (consO (varO 2) (nilO)) (PD.g1 intD))) (consO (ofE (cF (.int 2147483647))) nilO)) (PD.g2 modD))) nilO)) (PD.g2 addD))) (consO (ofE (cF (.int 7))) nilO)) (PD.g2 addD))) (nilO)) (PD.g1 intD))) (consO (ofE (cF (.int 2147483647))) nilO)) (PD.g2 modD)) (subG 0 (ofE (cF (.int 3)))))))) (nxF)) (nxE cs i b s lim none none) = some (.nx, nxE cs i' b' s' lim x2 none) := by
  by_cases c1 : b = 0
  · by_cases c2 : i < cs.length
    · have g1 : L2.atI (cs.map PyData.int) (i : Int) = some (.int cs[i]) := L2.atI_nat (by simp [c2])
      by_cases c3 : (1000000000000000000 : Int) ≤ cs[i]
      · refine ⟨i + 1, cs[i], s, some (.int cs[i]), ?_⟩
        simp [nxE, encS, seqF, setF, retF, exprF, ifF, asgF, augF, augS, parF, opF, opFA, consO, nilO, ofE, varO, varE, mvE, cF, derefs, deref, PD.g1, PD.g2, setv, tstF, truF, trueD, andT, orT, notT, andE, orE, notE, iteE, getE, newDF, dispF, dispL, seqI, rngI, callF, callM, frzL, pkS, immD, immL, mutF, noSlot, tyD, slF, partF, nameG, tupG, consG, nilG, subG, wipeE, unw, noOwn, yesT, PyData.plain, PyData.plainAll, PyData.depth, PyData.depthAll, bodyFF, argE, fin0, nxF, retN, forF, tupD, lstD, turnF, ixD, at0, at1, at2, at3, eqD, eqv_int, lenD, ltD, geD, powD, c1, c2, c3, g1, gixD, iaddD, putD, L2.ixN]
      · refine ⟨i + 1, b, (s * 48271 + cs[i] % 2147483647 + 7) % 2147483647, some (.int cs[i]), ?_⟩
        simp [nxE, encS, seqF, setF, retF, exprF, ifF, asgF, augF, augS, parF, opF, opFA, consO, nilO, ofE, varO, varE, mvE, cF, derefs, deref, PD.g1, PD.g2, setv, tstF, truF, trueD, andT, orT, notT, andE, orE, notE, iteE, getE, newDF, dispF, dispL, seqI, rngI, callF, callM, frzL, pkS, immD, immL, mutF, noSlot, tyD, slF, partF, nameG, tupG, consG, nilG, subG, wipeE, unw, noOwn, yesT, PyData.plain, PyData.plainAll, PyData.depth, PyData.depthAll, bodyFF, argE, fin0, nxF, retN, forF, tupD, lstD, turnF, ixD, at0, at1, at2, at3, eqD, eqv_int, lenD, ltD, geD, powD, c1, c2, c3, g1, gixD, iaddD, putD, L2.ixN, mulD, modD, intD, addD]
    · refine ⟨i, b, s, none, ?_⟩
      simp [nxE, encS, seqF, setF, retF, exprF, ifF, asgF, augF, augS, parF, opF, opFA, consO, nilO, ofE, varO, varE, mvE, cF, derefs, deref, PD.g1, PD.g2, setv, tstF, truF, trueD, andT, orT, notT, andE, orE, notE, iteE, getE, newDF, dispF, dispL, seqI, rngI, callF, callM, frzL, pkS, immD, immL, mutF, noSlot, tyD, slF, partF, nameG, tupG, consG, nilG, subG, wipeE, unw, noOwn, yesT, PyData.plain, PyData.plainAll, PyData.depth, PyData.depthAll, bodyFF, argE, fin0, nxF, retN, forF, tupD, lstD, turnF, ixD, at0, at1, at2, at3, eqD, eqv_int, lenD, ltD, c1, c2]
  · refine ⟨i, b, s, none, ?_⟩
    simp [nxE, encS, seqF, setF, retF, exprF, ifF, asgF, augF, augS, parF, opF, opFA, consO, nilO, ofE, varO, varE, mvE, cF, derefs, deref, PD.g1, PD.g2, setv, tstF, truF, trueD, andT, orT, notT, andE, orE, notE, iteE, getE, newDF, dispF, dispL, seqI, rngI, callF, callM, frzL, pkS, immD, immL, mutF, noSlot, tyD, slF, partF, nameG, tupG, consG, nilG, subG, wipeE, unw, noOwn, yesT, PyData.plain, PyData.plainAll, PyData.depth, PyData.depthAll, bodyFF, argE, fin0, nxF, retN, forF, tupD, lstD, turnF, ixD, at0, at1, at2, at3, eqD, eqv_int, c1]
theorem next_spec {cs : List Int} {i : Nat} {b s lim : Int} (h0 : 0 < lim) (h1 : lim < 1073741824) : ∃ v i' b' s', 0 ≤ v ∧ v < lim ∧ _law_next_F [encS cs i b s, .int lim] = some (.int v, false, encS cs i' b' s') := by
  obtain ⟨i', b', s', x2, f⟩ := next_first (cs := cs) (i := i) (b := b) (s := s) (lim := lim)
  have e0 : argE true [encS cs i b s, .int lim] ++ List.replicate (4 - [encS cs i b s, .int lim].length) none = nxE cs i b s lim none none := rfl
  by_cases c : 0 < b'
  · refine ⟨b' % lim, i', b' / lim, s', Int.emod_nonneg _ (by omega), Int.emod_lt_of_pos _ h0, ?_⟩
    unfold _law_next_F bodyFF _law_next_B
    rw [e0, seqF_eq f]
    cases x2 <;> simp [nxE, encS, seqF, setF, retF, exprF, ifF, asgF, augF, augS, parF, opF, opFA, consO, nilO, ofE, varO, varE, mvE, cF, derefs, deref, PD.g1, PD.g2, setv, tstF, truF, trueD, andT, orT, notT, andE, orE, notE, iteE, getE, newDF, dispF, dispL, seqI, rngI, callF, callM, frzL, pkS, immD, immL, mutF, noSlot, tyD, slF, partF, nameG, tupG, consG, nilG, subG, wipeE, unw, noOwn, yesT, PyData.plain, PyData.plainAll, PyData.depth, PyData.depthAll, bodyFF, argE, fin0, nxF, retN, forF, tupD, lstD, turnF, ixD, at0, at1, at2, at3, gtD, c, intD, modD, h0, h1, fdivD, putD, L2.ixN]
  · refine ⟨(s' * 69621 + 12345) % 2147483647 / 7 % lim, i', b', (s' * 69621 + 12345) % 2147483647, Int.emod_nonneg _ (by omega), Int.emod_lt_of_pos _ h0, ?_⟩
    unfold _law_next_F bodyFF _law_next_B
    rw [e0, seqF_eq f]
    cases x2 <;> simp [nxE, encS, seqF, setF, retF, exprF, ifF, asgF, augF, augS, parF, opF, opFA, consO, nilO, ofE, varO, varE, mvE, cF, derefs, deref, PD.g1, PD.g2, setv, tstF, truF, trueD, andT, orT, notT, andE, orE, notE, iteE, getE, newDF, dispF, dispL, seqI, rngI, callF, callM, frzL, pkS, immD, immL, mutF, noSlot, tyD, slF, partF, nameG, tupG, consG, nilG, subG, wipeE, unw, noOwn, yesT, PyData.plain, PyData.plainAll, PyData.depth, PyData.depthAll, bodyFF, argE, fin0, nxF, retN, forF, tupD, lstD, turnF, ixD, at0, at1, at2, at3, gtD, c, intD, modD, h0, h1, fdivD, putD, L2.ixN, mulD, addD]
end K13

/-! K13O: rows in a drawn order. -/
namespace K13
open PySem PD

def swE (cs : List Int) (i : Nat) (b s : Int) (rows left found : List D) : Ev := [some (encS cs i b s, .br), some (.list rows, .sh), some (.list left, .ow), some (.list found, .ow)]
theorem perm_erase {α : Type} : ∀ {l : List α} {n : Nat} {y : α}, l[n]? = some y → l.Perm (y :: l.eraseIdx n)
  | [], _, _, h => by simp at h
  | x :: r, 0, y, h => by cases h; exact .refl _
  | x :: r, n + 1, y, h => ((perm_erase (l := r) (n := n) h).cons x).trans (.swap y x _)
theorem swap_turn {cs : List Int} {i : Nat} {b s : Int} {rows left found : List D} (hl : left ≠ []) (hz : left.length < 64) (hf : found.length < 64) :
    ∃ i' b' s' left' y, left.Perm (y :: left') ∧ _law_swapped_b1 (swE cs i b s rows left found) = some (.nx, swE cs i' b' s' rows left' (found ++ [y])) := by
  have hp : 0 < left.length := List.length_pos_iff.mpr hl
  obtain ⟨v, i', b', s', h0, h1, h2⟩ := next_spec (cs := cs) (i := i) (b := b) (s := s) (lim := (left.length : Int)) (by omega) (by omega)
  have hv : v.toNat < left.length := by omega
  have hy : left[v.toNat]? = some left[v.toNat] := List.getElem?_eq_getElem hv
  refine ⟨i', b', s', left.eraseIdx v.toNat, left[v.toNat], perm_erase hy, ?_⟩
  have a1 : callM _law_next_F (consO (varO 0) (consO (ofE (opF (consO (varO 2) (nilO)) (PD.g1 lenD))) (nilO))) (swE cs i b s rows left found) = some (.int v, false, swE cs i' b' s' rows left found) := by
    refine (callM_eq (o := .br) (c := encS cs i b s) (ds := [.int left.length]) (c' := encS cs i' b' s') (os := [.val (.int left.length)]) (i := 0) (e1 := swE cs i b s rows left found) ?_ rfl rfl (by decide) rfl h2).trans rfl
    simp [swE, seqF, setF, retF, exprF, ifF, asgF, augF, augS, parF, opF, opFA, consO, nilO, ofE, varO, varE, mvE, cF, derefs, deref, PD.g1, PD.g2, setv, tstF, truF, trueD, andT, orT, notT, andE, orE, notE, iteE, getE, newDF, dispF, dispL, seqI, rngI, callF, callM, frzL, pkS, immD, immL, mutF, noSlot, tyD, slF, partF, nameG, tupG, consG, nilG, subG, wipeE, unw, noOwn, yesT, PyData.plain, PyData.plainAll, PyData.depth, PyData.depthAll, bodyFF, argE, fin0, nxF, retN, forF, tupD, lstD, turnF, lenD]
  have ix : L2.ixN left.length v = some v.toNat := by
    unfold L2.ixN
    rw [if_pos h0, if_pos h1]
  have a2 : mutF "list" 2 (consO (ofE (callM _law_next_F (consO (varO 0) (consO (ofE (opF (consO (varO 2) (nilO)) (PD.g1 lenD))) (nilO))))) (nilO)) popM true (swE cs i b s rows left found) = some (left[v.toNat], false, swE cs i' b' s' rows (left.eraseIdx v.toNat) found) := by
    have fl : consO (ofE (callM _law_next_F (consO (varO 0) (consO (ofE (opF (consO (varO 2) (nilO)) (PD.g1 lenD))) (nilO))))) nilO (swE cs i b s rows left found) = some ([.val (.int v)], swE cs i' b' s' rows left found) := consO_eq (ofE_eq a1) nilO_eq
    unfold mutF
    simp only [fl]
    simp [swE, seqF, setF, retF, exprF, ifF, asgF, augF, augS, parF, opF, opFA, consO, nilO, ofE, varO, varE, mvE, cF, derefs, deref, PD.g1, PD.g2, setv, tstF, truF, trueD, andT, orT, notT, andE, orE, notE, iteE, getE, newDF, dispF, dispL, seqI, rngI, callF, callM, frzL, pkS, immD, immL, mutF, noSlot, tyD, slF, partF, nameG, tupG, consG, nilG, subG, wipeE, unw, noOwn, yesT, PyData.plain, PyData.plainAll, PyData.depth, PyData.depthAll, bodyFF, argE, fin0, nxF, retN, forF, tupD, lstD, turnF, popM, ix, hy]
  have hfz : found.length < sizeLine := by rw [sizeLine_eq]; omega
  unfold _law_swapped_b1
  have fl : consO (ofE (mutF "list" 2 (consO (ofE (callM _law_next_F (consO (varO 0) (consO (ofE (opF (consO (varO 2) (nilO)) (PD.g1 lenD))) (nilO))))) (nilO)) popM true)) nilO (swE cs i b s rows left found) = some ([.val left[v.toNat]], swE cs i' b' s' rows (left.eraseIdx v.toNat) found) := consO_eq (ofE_eq a2) nilO_eq
  unfold exprF
  have a3 : mutF "list" 3 (consO (ofE (mutF "list" 2 (consO (ofE (callM _law_next_F (consO (varO 0) (consO (ofE (opF (consO (varO 2) (nilO)) (PD.g1 lenD))) (nilO))))) (nilO)) popM true)) (nilO)) appendM true (swE cs i b s rows left found) = some (.none, false, swE cs i' b' s' rows (left.eraseIdx v.toNat) (found ++ [left[v.toNat]])) := by
    exact mutF_eq (c0 := .list found) (i := 3) (o0 := .ow) (c := .list found) (o := .ow) (c' := .list (found ++ [left[v.toNat]])) (ds := [left[v.toNat]]) rfl (by decide) rfl fl (fun _ => rfl) (fun z => nomatch z) rfl (by decide) rfl (by simp [appendM, hfz])
  simp only [a3]
theorem plain_perm {xs ys : List D} (h : ∀ y ∈ ys, y ∈ xs) (p : PyData.plainAll xs = true) : PyData.plainAll ys = true := by
  have mem : ∀ {l : List D}, PyData.plainAll l = true ↔ ∀ y ∈ l, y.plain = true := fun {l} => by
    induction l with
    | nil => simp [PyData.plainAll]
    | cons x r ih => simp [PyData.plainAll, ih]
  exact mem.mpr fun y hy => mem.mp p y (h y hy)
theorem depth_perm {xs ys : List D} {n : Nat} (h : ∀ y ∈ ys, y ∈ xs) (p : PyData.depthAll xs ≤ n) : PyData.depthAll ys ≤ n := by
  have mem : ∀ {l : List D}, PyData.depthAll l ≤ n ↔ ∀ y ∈ l, y.depth ≤ n := fun {l} => by
    induction l with
    | nil => simp [PyData.depthAll]
    | cons x r ih => simp [PyData.depthAll, ih, Nat.max_le]
  exact mem.mpr fun y hy => mem.mp p y (h y hy)
theorem swap_while {cs : List Int} {rows : List D} : ∀ (k i : Nat) (b s : Int) (left found : List D), PyData.plainAll left = true → PyData.depthAll left ≤ 50 → left.length < k → left.length + found.length < 64 →
    ∃ i' b' s' out, out.Perm (found ++ left) ∧ whileL (tstF (opF (consO (varO 2) (consO (ofE (opFA (nilO) lstD)) nilO)) (PD.g2 neD))) _law_swapped_b1 k (swE cs i b s rows left found) = some (.nx, swE cs i' b' s' rows [] out)
  | 0, _, _, _, _, _, _, _, h, _ => absurd h (Nat.not_lt_zero _)
  | k + 1, i, b, s, left, found, hp, hd, hk, hl => by
    have e : PyData.eqv (.list left) (.list []) = left.isEmpty := eqv_nil left
    have dp : (PyData.list left).depth ≤ 60 := by
      simp only [PyData.depth]
      omega
    have t : tstF (opF (consO (varO 2) (consO (ofE (opFA (nilO) lstD)) nilO)) (PD.g2 neD)) (swE cs i b s rows left found) = some (!left.isEmpty, swE cs i b s rows left found) := by
      have n1 : neD (.list left) (.list []) = some (.bool (!left.isEmpty), false) := by
        unfold neD
        rw [e, if_pos (by simp [PyData.plain, PyData.plainAll, hp, dp])]
      simp [swE, seqF, setF, retF, exprF, ifF, asgF, augF, augS, parF, opF, opFA, consO, nilO, ofE, varO, varE, mvE, cF, derefs, deref, PD.g1, PD.g2, setv, tstF, truF, trueD, andT, orT, notT, andE, orE, notE, iteE, getE, newDF, dispF, dispL, seqI, rngI, callF, callM, frzL, pkS, immD, immL, mutF, noSlot, tyD, slF, partF, nameG, tupG, consG, nilG, subG, wipeE, unw, noOwn, yesT, PyData.plain, PyData.plainAll, PyData.depth, PyData.depthAll, bodyFF, argE, fin0, nxF, retN, forF, tupD, lstD, turnF, n1]
    cases left with
    | nil =>
      exact ⟨i, b, s, found, by simp, while_stop t⟩
    | cons x r =>
      obtain ⟨i1, b1, s1, left', y, p1, h1⟩ := swap_turn (cs := cs) (i := i) (b := b) (s := s) (rows := rows) (left := x :: r) (found := found) (by simp) (by omega) (by omega)
      have hm : ∀ z ∈ left', z ∈ x :: r := fun z hz => p1.mem_iff.mpr (List.mem_cons_of_mem _ hz)
      have hlen := p1.length_eq
      rw [List.length_cons (a := y)] at hlen
      obtain ⟨i2, b2, s2, out, p2, h2⟩ := swap_while (rows := rows) (cs := cs) k i1 b1 s1 left' (found ++ [y]) (plain_perm hm hp) (depth_perm hm hd) (by omega) (by rw [List.length_append, List.length_singleton]; omega)
      refine ⟨i2, b2, s2, out, p2.trans ?_, (while_go t (.inl h1)).trans h2⟩
      rw [List.append_assoc]
      exact (List.Perm.append_left found p1).symm
theorem swap_spec {cs : List Int} {i : Nat} {b s : Int} {rows : List D} (hp : PyData.plainAll rows = true) (hd : PyData.depthAll rows ≤ 50) (hl : rows.length < 64) :
    ∃ i' b' s' out, out.Perm rows ∧ _law_swapped_F [encS cs i b s, .list rows] = some (.list out, true, encS cs i' b' s') := by
  obtain ⟨i', b', s', out, p, h⟩ := swap_while (cs := cs) (rows := rows) 64 i b s rows [] hp hd hl (by simpa using hl)
  refine ⟨i', b', s', out, by simpa using p, ?_⟩
  have e0 : argE true [encS cs i b s, .list rows] ++ List.replicate (4 - [encS cs i b s, .list rows].length) none = [some (encS cs i b s, .br), some (.list rows, .sh), none, none] := rfl
  have s1 : setF 2 (opF (consO (varO 1) (nilO)) (PD.g1 listD)) [some (encS cs i b s, .br), some (.list rows, .sh), none, none] = some (.nx, [some (encS cs i b s, .br), some (.list rows, .sh), some (.list rows, .ow), none]) := by simp [seqF, setF, retF, exprF, ifF, asgF, augF, augS, parF, opF, opFA, consO, nilO, ofE, varO, varE, mvE, cF, derefs, deref, PD.g1, PD.g2, setv, tstF, truF, trueD, andT, orT, notT, andE, orE, notE, iteE, getE, newDF, dispF, dispL, seqI, rngI, callF, callM, frzL, pkS, immD, immL, mutF, noSlot, tyD, slF, partF, nameG, tupG, consG, nilG, subG, wipeE, unw, noOwn, yesT, PyData.plain, PyData.plainAll, PyData.depth, PyData.depthAll, bodyFF, argE, fin0, nxF, retN, forF, tupD, lstD, turnF, listD]
  have s2 : setF 3 (opFA (nilO) lstD) [some (encS cs i b s, .br), some (.list rows, .sh), some (.list rows, .ow), none] = some (.nx, swE cs i b s rows rows []) := by simp [seqF, setF, retF, exprF, ifF, asgF, augF, augS, parF, opF, opFA, consO, nilO, ofE, varO, varE, mvE, cF, derefs, deref, PD.g1, PD.g2, setv, tstF, truF, trueD, andT, orT, notT, andE, orE, notE, iteE, getE, newDF, dispF, dispL, seqI, rngI, callF, callM, frzL, pkS, immD, immL, mutF, noSlot, tyD, slF, partF, nameG, tupG, consG, nilG, subG, wipeE, unw, noOwn, yesT, PyData.plain, PyData.plainAll, PyData.depth, PyData.depthAll, bodyFF, argE, fin0, nxF, retN, forF, tupD, lstD, turnF, swE]
  unfold _law_swapped_F bodyFF _law_swapped_B
  rw [e0, seqF_eq s1, seqF_eq s2, seqF_eq h]
  simp [swE, seqF, setF, retF, exprF, ifF, asgF, augF, augS, parF, opF, opFA, consO, nilO, ofE, varO, varE, mvE, cF, derefs, deref, PD.g1, PD.g2, setv, tstF, truF, trueD, andT, orT, notT, andE, orE, notE, iteE, getE, newDF, dispF, dispL, seqI, rngI, callF, callM, frzL, pkS, immD, immL, mutF, noSlot, tyD, slF, partF, nameG, tupG, consG, nilG, subG, wipeE, unw, noOwn, yesT, PyData.plain, PyData.plainAll, PyData.depth, PyData.depthAll, bodyFF, argE, fin0, nxF, retN, forF, tupD, lstD, turnF]
end K13

/-! K13Q: rows do not mind the order; names as numbers; all the chains and rings, looked at. -/
namespace K13
open PySem PD

section
variable {α : Type} [DecidableEq α]
theorem labR_congr {fs fs' : List (Row α)} (h : ∀ n, getR fs n = getR fs' n) (n : α) : labR fs n = labR fs' n := by
  unfold labR
  rw [h n]
theorem any_set {as as' : List α} (h : ∀ p, p ∈ as ↔ p ∈ as') (f g : α → Bool) (e : ∀ p, f p = g p) : as.any f = as'.any g := by
  rw [Bool.eq_iff_iff, List.any_eq_true, List.any_eq_true]
  exact ⟨fun ⟨p, h1, h2⟩ => ⟨p, (h p).mp h1, (e p) ▸ h2⟩, fun ⟨p, h1, h2⟩ => ⟨p, (h p).mpr h1, (e p).symm ▸ h2⟩⟩
theorem all_set {as as' : List α} (h : ∀ p, p ∈ as ↔ p ∈ as') (f g : α → Bool) (e : ∀ p, f p = g p) : as.all f = as'.all g := by
  rw [Bool.eq_iff_iff, List.all_eq_true, List.all_eq_true]
  exact ⟨fun z p hp => (e p) ▸ z p ((h p).mpr hp), fun z p hp => (e p).symm ▸ z p ((h p).mp hp)⟩
theorem turnR_congr {as as' : List (α × α)} {fs fs' : List (Row α)} (ha : ∀ p, p ∈ as ↔ p ∈ as') (h : ∀ n, getR fs n = getR fs' n) (r : Int) (n : α) : turnR as fs r n = turnR as' fs' r n := by
  have hh : ∀ L, hit as fs n L = hit as' fs' n L := fun L => any_set ha _ _ fun p => by rw [labR_congr h]
  unfold turnR
  rw [h n, hh, hh]
theorem getR_some {fs : List (Row α)} (hn : (fs.map (·.1)).Nodup) {n : α} {q : Lb × Int} : getR fs n = some q ↔ (n, q) ∈ fs := by
  induction fs with
  | nil => simp [getR]
  | cons p r ih =>
    rw [List.map_cons] at hn
    obtain ⟨n1, n2⟩ := List.nodup_cons.mp hn
    obtain ⟨a, b⟩ := p
    simp only [getR]
    split
    · rename_i e
      have e : a = n := e
      subst e
      constructor
      · rintro ⟨⟩; exact List.mem_cons_self
      · intro h
        rcases List.mem_cons.mp h with h | h
        · cases h; rfl
        · exact absurd (List.mem_map_of_mem (f := (·.1)) h) n1
    · rename_i e
      rw [ih n2, List.mem_cons]
      exact ⟨.inr, fun h => h.elim (fun h => by cases h; exact absurd rfl e) id⟩
theorem getR_perm {gs gs' : List (Row α)} (p : gs.Perm gs') (hn : (gs.map (·.1)).Nodup) (n : α) : getR gs n = getR gs' n := by
  have hn' : (gs'.map (·.1)).Nodup := (p.map _).nodup_iff.mp hn
  cases h : getR gs n with
  | some q => exact ((getR_some hn').mpr (p.mem_iff.mp ((getR_some hn).mp h))).symm
  | none =>
    cases h' : getR gs' n with
    | none => rfl
    | some q =>
      rw [(getR_some hn).mpr (p.mem_iff.mpr ((getR_some hn').mp h'))] at h
      cases h
theorem runR_congr {as as' : List (α × α)} {names names' : List α} (ha : ∀ p, p ∈ as ↔ p ∈ as') (pn : names.Perm names') (hn : names.Nodup) : ∀ (k : Nat) (fs fs' : List (Row α)) (r : Int) (out : List (Row α)), (∀ n, getR fs n = getR fs' n) → runR as names k fs r = some out → ∃ out', runR as' names' k fs' r = some out' ∧ ∀ n, getR out n = getR out' n
  | 0, _, _, _, _, _, h => by cases h
  | k + 1, fs, fs', r, out, hf, h => by
    have e1 : freshR as' fs' r names' = names'.filterMap (turnR as fs r) := by
      unfold freshR
      congr 1
      funext n
      exact (turnR_congr ha hf r n).symm
    have p1 : (freshR as fs r names).Perm (freshR as' fs' r names') := by
      rw [e1]
      exact pn.filterMap _
    have e2 : (freshR as' fs' r names').isEmpty = (freshR as fs r names).isEmpty := by
      have := p1.length_eq
      rw [Bool.eq_iff_iff, List.isEmpty_iff_length_eq_zero, List.isEmpty_iff_length_eq_zero, this]
    unfold runR at h ⊢
    rw [e2]
    split at h
    · rename_i c
      rw [if_pos c]
      cases k with
      | zero => cases h
      | succ k => cases h; exact ⟨fs', rfl, hf⟩
    · rename_i c
      rw [if_neg c]
      exact runR_congr ha pn hn k _ _ (r + 1) out (fun n => by
        rw [getR_app, getR_app, hf n, getR_perm p1 (fresh_nodup hn) n]) h
theorem setl_congr {ks ks' : List (Row α)} {os os' : List α} (hk : ∀ n, getR ks n = getR ks' n) (ho : ∀ p, p ∈ os ↔ p ∈ os') (l : Lb) (r : Int) : setl ks os l r = setl ks' os' l r := by
  have rk : ∀ L r o, rkIs ks L r o = rkIs ks' L r o := fun L r o => by
    unfold rkIs
    rw [hk o]
  cases l with
  | st => simp only [setl]; rw [all_set ho _ _ (rk .fa r)]
  | fa => simp only [setl]; rw [any_set ho _ _ (rk .st r)]
  | op =>
    simp only [setl]
    rw [any_set ho _ _ fun o => by rw [labR_congr hk o], any_set (as := os) ho _ (fun o => decide (labR ks' o = .op)) fun o => by rw [labR_congr hk o]]
end
/-! ### names as numbers -/
section
variable {α β : Type} [DecidableEq α] [DecidableEq β] (f : α → β) (inj : ∀ a b, f a = f b → a = b)
def mR (p : Row α) : Row β := (f p.1, p.2)
def mP (p : α × α) : β × β := (f p.1, f p.2)
include inj
theorem getR_map (n : α) : ∀ fs : List (Row α), getR (fs.map (mR f)) (f n) = getR fs n
  | [] => rfl
  | p :: r => by
    simp only [List.map_cons, getR, mR, getR_map n r]
    by_cases e : p.1 = n
    · rw [if_pos e, if_pos (by rw [e])]
    · rw [if_neg e, if_neg fun z => e (inj _ _ z)]
theorem labR_map (fs : List (Row α)) (n : α) : labR (fs.map (mR f)) (f n) = labR fs n := by
  unfold labR
  rw [getR_map f inj]
theorem hit_map (as : List (α × α)) (fs : List (Row α)) (n : α) (L : Lb) : hit (as.map (mP f)) (fs.map (mR f)) (f n) L = hit as fs n L := by
  unfold hit
  rw [List.any_map]
  refine any_cong fun p _ => ?_
  show (decide (f p.2 = f n) && decide (labR (fs.map (mR f)) (f p.1) = L)) = _
  rw [labR_map f inj]
  congr 1
  rw [decide_eq_decide]
  exact ⟨inj _ _, fun e => by rw [e]⟩
theorem turnR_map (as : List (α × α)) (fs : List (Row α)) (r : Int) (n : α) : turnR (as.map (mP f)) (fs.map (mR f)) r (f n) = (turnR as fs r n).map (mR f) := by
  unfold turnR
  rw [getR_map f inj, hit_map f inj, hit_map f inj]
  split
  · rfl
  · split
    · rfl
    · split <;> rfl
theorem freshR_map (as : List (α × α)) (fs : List (Row α)) (r : Int) (names : List α) : freshR (as.map (mP f)) (fs.map (mR f)) r (names.map f) = (freshR as fs r names).map (mR f) := by
  unfold freshR
  rw [List.filterMap_map, List.map_filterMap]
  congr 1
  funext n
  exact turnR_map f inj as fs r n
theorem runR_map (as : List (α × α)) (names : List α) : ∀ (k : Nat) (fs : List (Row α)) (r : Int), runR (as.map (mP f)) (names.map f) k (fs.map (mR f)) r = (runR as names k fs r).map fun o => o.map (mR f)
  | 0, _, _ => rfl
  | k + 1, fs, r => by
    unfold runR
    rw [freshR_map f inj, ← List.map_append, runR_map as names k, List.isEmpty_map]
    split
    · cases k <;> rfl
    · rfl
theorem rowR_map (fs : List (Row α)) (n : α) : rowR (fs.map (mR f)) (f n) = mR f (rowR fs n) := by
  unfold rowR
  rw [getR_map f inj]
  cases getR fs n <;> rfl
theorem setl_map (ks : List (Row α)) (os : List α) (l : Lb) (r : Int) : setl (ks.map (mR f)) (os.map f) l r = setl ks os l r := by
  have rk : ∀ L r o, rkIs (ks.map (mR f)) L r (f o) = rkIs ks L r o := fun L r o => by
    unfold rkIs
    rw [getR_map f inj]
  have lb := labR_map f inj ks
  cases l with
  | st =>
    simp only [setl, List.all_map]
    congr 1
    exact congrArg (fun g => List.all os g) (funext fun o => rk .fa r o)
  | fa =>
    simp only [setl, List.any_map]
    congr 1
    exact congrArg (fun g => List.any os g) (funext fun o => rk .st r o)
  | op =>
    simp only [setl, List.any_map]
    have e : ∀ L, (fun o => decide (labR (ks.map (mR f)) o = L)) ∘ f = fun o => decide (labR ks o = L) := fun L => funext fun o => by
      show decide (labR (ks.map (mR f)) (f o) = L) = _
      rw [lb]
    rw [e, e]
end
end K13

/-! K13R: all the chains and rings, looked at one by one. -/
namespace K13
open PySem PD

def nm (i : Nat) : Str := if i < 8 then ⟨#[99, 48 + i]⟩ else if i < 14 then ⟨#[114, 40 + i]⟩ else ⟨#[106 + i]⟩
theorem nm_inj (i j : Nat) (h : nm i = nm j) : i = j := by
  by_cases h1 : i < 8 <;> by_cases h2 : i < 14 <;> by_cases h3 : j < 8 <;> by_cases h4 : j < 14 <;> simp [nm, h1, h2, h3, h4] at h <;> omega
theorem nm_lt {i j : Nat} (h : i < j) : ltS (nm i) (nm j) := by
  unfold ltS
  by_cases h1 : i < 8 <;> by_cases h2 : i < 14 <;> by_cases h3 : j < 8 <;> by_cases h4 : j < 14 <;> simp [nm, h1, h2, h3, h4, Spec.ltCps] <;> omega
def chN (l : Nat) : List Nat := List.range l
def rgN (a : Nat) : List Nat := (List.range a).map fun i => 8 + i
def lkN (l : Nat) : List (Nat × Nat) := (List.range (l - 1)).map fun i => (i, i + 1)
def s0N (a : Nat) : List (Nat × Nat) := (List.range (a - 1)).map fun i => (8 + i, 8 + (i + 1))
def stN (a : Nat) : List (Nat × Nat) := s0N a ++ [(8 + (a - 1), 8)]
def exN (a : Nat) : List (Nat × Nat) := [(8 + (a - 1), 14), (0, 14), (15, 15), (15, 16)]
def n0N (l a : Nat) : List Nat := chN l ++ rgN a
def n1N (l a : Nat) : List Nat := n0N l a ++ [14, 15, 16]
def attN (as : List (Nat × Nat)) (n : Nat) : List Nat := (as.filter fun p => decide (p.2 = n)).map (·.1)
def alt (i : Nat) : Lb := if i % 2 = 0 then .st else .fa
def tla (i : Nat) : Lb := if i % 2 = 0 then .fa else .st
def flipL : Lb → Lb
  | .st => .fa
  | .fa => .st
  | .op => .fa
def bents (q : Lb × Int) : List (Lb × Int) := [(flipL q.1, q.2), (.op, -1), (q.1, if q.1 = .op then 0 else -1)]
def openAll (o : List (Row Nat)) (ns : List Nat) : Bool := ns.all fun n => decide (getR o n = none)
def chkA (l a : Nat) : Bool := match runR (lkN l ++ stN a) (n0N l a) 64 [] 0 with
  | some o => (List.range l).all (fun i => decide (getR o i = some (alt i, (i : Int)))) && openAll o (rgN a)
  | none => false
def chkB (l a : Nat) : Bool := match runR (lkN l ++ stN a ++ [(l - 1, 8)]) (n0N l a) 64 [] 0 with
  | some o => if l % 2 = 1 then (List.range a).all fun i => decide (getR o (8 + i) = some (tla i, (l + i : Int))) else openAll o (rgN a)
  | none => false
def chkC (l a : Nat) : Bool := match runR (lkN l ++ stN a ++ [(8, 0)]) (n0N l a) 64 [] 0 with
  | some o => openAll o (n0N l a)
  | none => false
def bentsBad (as : List (Nat × Nat)) (rows : List (Row Nat)) : List (Row Nat) → Nat → Bool
  | [], _ => true
  | p :: r, i => ((bents p.2).all fun q => decide (q = p.2) || !setl (rows.set i (p.1, q)) (attN as p.1) q.1 q.2) && bentsBad as rows r (i + 1)
def chkD (l a k : Nat) : Bool := match runR (lkN l ++ stN a ++ (exN a).take k) (n1N l a) 64 [] 0 with
  | some o => ((n1N l a).map (rowR o)).all (fun p => setl ((n1N l a).map (rowR o)) (attN (lkN l ++ stN a ++ (exN a).take k) p.1) p.2.1 p.2.2) && bentsBad (lkN l ++ stN a ++ (exN a).take k) ((n1N l a).map (rowR o)) ((n1N l a).map (rowR o)) 0
  | none => false
end K13

/-! K13T: the look at all of them. -/
namespace K13
open PySem PD
theorem chk_abc : ((List.range 8).all fun l => (List.range 6).all fun a => chkA (l + 1) (a + 1) && chkB (l + 1) (a + 1) && chkC (l + 1) (a + 1)) = true := by decide +kernel
theorem chk_d : ((List.range 8).all fun l => (List.range 6).all fun a => (List.range 5).all fun k => chkD (l + 1) (a + 1) k) = true := by decide +kernel
end K13

/-! K13U: stands, the law's labels and the judge, of numbered names. -/
namespace K13
open PySem PD

def encN (p : Row Nat) : D := encRow (mR nm p)
theorem sorted_nm {ns : List Nat} {names : List Str} (hp : ns.Pairwise (· < ·)) (pn : names.Perm (ns.map nm)) : sortS names = ns.map nm :=
  sorted_uniq (sortS_sorted names) (List.pairwise_map.mpr (hp.imp fun h => ltS_leS (nm_lt h))) ((sortS_perm names).trans pn)
theorem nodup_nm {ns : List Nat} (hp : ns.Pairwise (· < ·)) : (ns.map nm).Nodup := List.pairwise_map.mpr (hp.imp fun {a b} (h : a < b) (e : nm a = nm b) => Nat.ne_of_lt h (nm_inj a b e))
section
variable {ns : List Nat} {asN : List (Nat × Nat)} {o : List (Row Nat)} {names : List Str} {as : List (Str × Str)}
theorem run_nm (h : runR asN ns 64 [] 0 = some o) (hp : ns.Pairwise (· < ·)) (ha : ∀ p, p ∈ as ↔ p ∈ asN.map (mP nm)) {names' : List Str} (pn : names'.Perm (ns.map nm)) : ∃ o', runR as names' 64 [] 0 = some o' ∧ ∀ n, rowR o' (nm n) = mR nm (rowR o n) := by
  have h1 : runR (asN.map (mP nm)) (ns.map nm) 64 [] 0 = some (o.map (mR nm)) := by
    have z := runR_map nm nm_inj asN ns 64 [] 0
    rw [h] at z
    exact z
  obtain ⟨o', h2, h3⟩ := runR_congr (as' := as) (names' := names') (fun p => (ha p).symm) pn.symm (nodup_nm hp) 64 [] [] 0 _ (fun _ => rfl) h1
  refine ⟨o', h2, fun n => ?_⟩
  rw [← rowR_map nm nm_inj]
  unfold rowR
  rw [h3]
theorem stands_nm (h : runR asN ns 64 [] 0 = some o) (hp : ns.Pairwise (· < ·)) (hl : ns.length < 64) (pn : names.Perm (ns.map nm)) (ha : ∀ p, p ∈ as ↔ p ∈ asN.map (mP nm)) (hal : as.length < 64) :
    stands_F [.list (names.map .str), .list (as.map encP)] = some (.tuple ((ns.map (rowR o)).map encN), false, .none) := by
  have hs := sorted_nm hp pn
  obtain ⟨o', h1, h2⟩ := run_nm h hp ha (names' := sortS names) (by rw [hs])
  have hn : names.Nodup := pn.nodup_iff.mpr (nodup_nm hp)
  have hnl : names.length < 64 := by rw [pn.length_eq, List.length_map]; exact hl
  rw [stands_spec hal hn hnl h1, hs, List.map_map, List.map_map]
  congr 2
  congr 1
  refine List.map_congr_left fun n _ => ?_
  show encRow (rowR o' (nm n)) = encRow (mR nm (rowR o n))
  rw [h2]
theorem labels_nm (h : runR asN ns 64 [] 0 = some o) (hp : ns.Pairwise (· < ·)) (hl : ns.length < 64) (pn : names.Perm (ns.map nm)) (ha : ∀ p, p ∈ as ↔ p ∈ asN.map (mP nm)) (hal : as.length < 64) :
    _law_labels_F [.list (names.map .str), .list (as.map encP)] = some (.tuple ((ns.map (rowR o)).map encN), false, .none) := by
  have hs := sorted_nm hp pn
  obtain ⟨o', h1, h2⟩ := run_nm h hp ha (names' := names) pn
  have hn : names.Nodup := pn.nodup_iff.mpr (nodup_nm hp)
  have hnl : names.length < 64 := by rw [pn.length_eq, List.length_map]; exact hl
  rw [labels_spec hal hn hnl h1, hs, List.map_map, List.map_map]
  congr 2
  congr 1
  refine List.map_congr_left fun n _ => ?_
  show encRow (rowR o' (nm n)) = encRow (mR nm (rowR o n))
  rw [h2]
theorem att_nm (ha : ∀ p, p ∈ as ↔ p ∈ asN.map (mP nm)) (n : Nat) (z : Str) : z ∈ att as (nm n) ↔ z ∈ (attN asN n).map nm := by
  rw [att_mem, ha]
  unfold attN
  rw [List.map_map, List.mem_map, List.mem_map]
  constructor
  · rintro ⟨p, h1, h2⟩
    have e1 : nm p.1 = z := congrArg (·.1) h2
    have e2 : nm p.2 = nm n := congrArg (·.2) h2
    exact ⟨p, List.mem_filter.mpr ⟨h1, by simp [nm_inj _ _ e2]⟩, e1⟩
  · rintro ⟨p, h1, h2⟩
    obtain ⟨h3, h4⟩ := List.mem_filter.mp h1
    have h4 : p.2 = n := by simpa using h4
    exact ⟨p, h3, Prod.ext h2 (by show nm p.2 = nm n; rw [h4])⟩
theorem judge_nm {rows : List (Row Nat)} (hr : rows.map (·.1) = ns) (hp : ns.Pairwise (· < ·)) (hl : ns.length < 64) (pn : names.Perm (ns.map nm)) (ha : ∀ p, p ∈ as ↔ p ∈ asN.map (mP nm)) (hal : as.length < 64) (has : ∀ p ∈ asN, p.1 ∈ ns) :
    judge_stands_F [.list (names.map .str), .list (as.map encP), .tuple (rows.map encN)] = some (.bool (rows.all fun p => setl rows (attN asN p.1) p.2.1 p.2.2), false, .none) := by
  have hs := sorted_nm hp pn
  have hn : names.Nodup := pn.nodup_iff.mpr (nodup_nm hp)
  have hnl : names.length < 64 := by rw [pn.length_eq, List.length_map]; exact hl
  have e : rows.map encN = (rows.map (mR nm)).map encRow := by rw [List.map_map]; rfl
  have hk : (rows.map (mR nm)).map (·.1) = sortS names := by
    rw [hs, ← hr, List.map_map, List.map_map]; rfl
  rw [e, judge_spec hal hn hnl hk fun p hp' => ?_]
  · congr 2
    rw [List.all_map]
    congr 1
    refine congrArg (fun g => List.all rows g) (funext fun p => ?_)
    show setl (rows.map (mR nm)) (att as (nm p.1)) p.2.1 p.2.2 = setl rows (attN asN p.1) p.2.1 p.2.2
    rw [← setl_map nm nm_inj]
    exact setl_congr (fun _ => rfl) (att_nm ha p.1) _ _
  · obtain ⟨q, h1, rfl⟩ := List.mem_map.mp ((ha p).mp hp')
    exact pn.mem_iff.mpr (List.mem_map_of_mem (has q h1))
theorem judge_nm_no {rows : List (Row Nat)} (hr : rows.map (·.1) ≠ ns) (hp : ns.Pairwise (· < ·)) (hl : ns.length < 64) (hrl : rows.length < 64) (pn : names.Perm (ns.map nm)) :
    judge_stands_F [.list (names.map .str), .list (as.map encP), .tuple (rows.map encN)] = some (.bool false, false, .none) := by
  have hs := sorted_nm hp pn
  have hnl : names.length < 64 := by rw [pn.length_eq, List.length_map]; exact hl
  have e : rows.map encN = (rows.map (mR nm)).map encRow := by rw [List.map_map]; rfl
  rw [e]
  refine judge_names (by rw [List.length_map]; exact hrl) hnl fun z => hr ?_
  rw [hs, List.map_map] at z
  have inj : ∀ {xs ys : List Nat}, xs.map nm = ys.map nm → xs = ys := fun {xs} => by
    induction xs with
    | nil => intro ys h; cases ys with
      | nil => rfl
      | cons => cases h
    | cons x r ih => intro ys h; cases ys with
      | nil => cases h
      | cons y t =>
        rw [List.map_cons, List.map_cons] at h
        injection h with h1 h2
        rw [nm_inj _ _ h1, ih h2]
  refine inj ?_
  rw [← z, List.map_map]
  rfl
end
end K13

/-! K13V: the law's frame. -/
namespace K13
open PySem PD

structure Fx (e : Ev) : Prop where
  len : e.length = 24
  nb : ∀ (i : Nat) (d : D), e[i]? ≠ some (some (d, Ow.br))
  cv : ∀ (i : Nat) (d : D), 18 ≤ i → i ≤ 22 → e[i]? ≠ some (some (d, Ow.ow))
  st : ∃ cs i b s, e[1]? = some (some (encS cs i b s, Ow.ow))
abbrev At (e : Ev) (i : Nat) (d : D) (o : Ow) : Prop := e[i]? = some (some (d, o))
abbrev Only (ws : List Nat) (e e' : Ev) : Prop := ∀ j : Nat, j ∉ ws → e'[j]? = e[j]?
theorem only_refl {e : Ev} {ws : List Nat} : Only ws e e := fun _ _ => rfl
theorem Only.trans {a b c : Ev} {ws vs us : List Nat} (h : Only ws a b) (k : Only vs b c) (s : ∀ j, j ∉ us → j ∉ ws ∧ j ∉ vs) : Only us a c := fun j hj => (k j (s j hj).2).trans (h j (s j hj).1)
theorem set_at {e : Ev} {i : Nat} {x : Option (D × Ow)} (h : i < e.length) : (e.set i x)[i]? = some x := List.getElem?_set_self h
theorem set_ne {e : Ev} {i j : Nat} {x : Option (D × Ow)} (h : j ≠ i) : (e.set i x)[j]? = e[j]? := List.getElem?_set_ne (Ne.symm h)
theorem only_set {e : Ev} {i : Nat} {x : Option (D × Ow)} : Only [i] e (e.set i x) := fun j hj => set_ne (by simpa using hj)
theorem Fx.put {e : Ev} (F : Fx e) {i : Nat} {d : D} {o : Ow} (h1 : i ≠ 1) (hb : o ≠ .br) (hc : o = .ow → i < 18 ∨ 22 < i) : Fx (e.set i (some (d, o))) := by
  refine ⟨by rw [List.length_set]; exact F.len, fun j d' => ?_, fun j d' l u => ?_, ?_⟩
  · by_cases e1 : j = i
    · subst e1
      intro z
      by_cases hl : j < e.length
      · rw [set_at hl] at z
        cases z
        exact hb rfl
      · rw [List.getElem?_eq_none (by rw [List.length_set]; omega)] at z
        cases z
    · rw [set_ne e1]; exact F.nb j d'
  · by_cases e1 : j = i
    · subst e1
      intro z
      by_cases hl : j < e.length
      · rw [set_at hl] at z
        cases z
        have := hc rfl
        omega
      · rw [List.getElem?_eq_none (by rw [List.length_set]; omega)] at z
        cases z
    · rw [set_ne e1]; exact F.cv j d' l u
  · obtain ⟨cs, k, b, s, h⟩ := F.st
    exact ⟨cs, k, b, s, by rw [set_ne (Ne.symm h1)]; exact h⟩
theorem Fx.stt {e : Ev} (F : Fx e) (cs : List Int) (i : Nat) (b s : Int) : Fx (e.set 1 (some (encS cs i b s, .ow))) := by
  have hl : 1 < e.length := by rw [F.len]; omega
  refine ⟨by rw [List.length_set]; exact F.len, fun j d' => ?_, fun j d' l u => ?_, cs, i, b, s, set_at hl⟩
  · by_cases e1 : j = 1
    · subst e1
      rw [set_at hl]
      intro z; cases z
    · rw [set_ne e1]; exact F.nb j d'
  · rw [set_ne (by omega)]; exact F.cv j d' l u
theorem Fx.setv {e : Ev} (F : Fx e) {i : Nat} (d : D) (fr : Bool) (hi : i < 24) : setv i d fr e = some (e.set i (some (d, if fr then .ow else .sh))) := by
  have hl : i < e.length := by rw [F.len]; exact hi
  have h := List.getElem?_eq_getElem hl
  cases q : e[i] with
  | none => simp only [PD.setv, h, q]
  | some p =>
    obtain ⟨d', o⟩ := p
    have nb := F.nb i d'
    rw [h, q] at nb
    cases o with
    | sh => simp only [PD.setv, h, q]
    | ow => simp only [PD.setv, h, q]
    | br => exact absurd rfl nb
theorem varO_at {e : Ev} {i : Nat} {d : D} {o : Ow} (h : At e i d o) : varO i e = some (.slot i, e) := by
  simp only [varO, h]
theorem deref_at {e : Ev} {i : Nat} {d : D} {o : Ow} (h : At e i d o) : deref e (.slot i) = some d := by
  simp only [deref, h]
theorem varE_sh {e : Ev} {i : Nat} {d : D} (h : At e i d .sh) : varE i e = some (d, false, e) := by
  simp only [varE, h]
theorem derefs_nil {e : Ev} : derefs e [] = some [] := rfl
theorem derefs_cons {e : Ev} {o : Opd} {os : List Opd} {d : D} {ds : List D} (h : deref e o = some d) (k : derefs e os = some ds) : derefs e (o :: os) = some (d :: ds) := by
  simp only [derefs, h, k]
theorem deref_val {e : Ev} {d : D} : deref e (.val d) = some d := rfl
theorem cF_eq {e : Ev} {d : D} : cF d e = some (d, false, e) := rfl
theorem callF_imm {F : FF} {dds : List D} {fl : OLF} {e e1 : Ev} {os : List Opd} {ds : List D} {d d0 : D} (h : fl e = some (os, e1)) (k : derefs e1 os = some ds) (q : F (ds ++ dds) = some (d, false, d0)) (im : immD d = true) : callF F dds fl e = some (d, false, e1) := by
  simp only [callF, h, k, q, im, if_true]
  split <;> rfl
/-- a draw -/
theorem draw {e : Ev} (F : Fx e) {f : OF} {lim : Int} (hf : f e = some (.val (.int lim), e)) (h0 : 0 < lim) (h1 : lim < 1073741824) : ∃ v e', 0 ≤ v ∧ v < lim ∧ callM _law_next_F (consO (varO 1) (consO f nilO)) e = some (.int v, false, e') ∧ Fx e' ∧ Only [1] e e' := by
  obtain ⟨cs, i, b, s, h⟩ := F.st
  obtain ⟨v, i', b', s', v0, v1, h2⟩ := next_spec (cs := cs) (i := i) (b := b) (s := s) h0 h1
  exact ⟨v, _, v0, v1, callM_eq (c := encS cs i b s) (o := .ow) (consO_eq (varO_at h) (consO_eq hf nilO_eq)) rfl h (by decide) (derefs_cons deref_val derefs_nil) h2, F.stt cs i' b' s', only_set⟩
/-- rows in a drawn order -/
theorem mixed {e : Ev} (F : Fx e) {f : OF} {rows : List D} (hf : f e = some (.val (.list rows), e)) (hp : PyData.plainAll rows = true) (hd : PyData.depthAll rows ≤ 50) (hl : rows.length < 64) : ∃ out e', out.Perm rows ∧ callM _law_swapped_F (consO (varO 1) (consO f nilO)) e = some (.list out, true, e') ∧ Fx e' ∧ Only [1] e e' := by
  obtain ⟨cs, i, b, s, h⟩ := F.st
  obtain ⟨i', b', s', out, p, h2⟩ := swap_spec (cs := cs) (i := i) (b := b) (s := s) hp hd hl
  exact ⟨out, _, p, callM_eq (c := encS cs i b s) (o := .ow) (consO_eq (varO_at h) (consO_eq hf nilO_eq)) rfl h (by decide) (derefs_cons deref_val derefs_nil) h2, F.stt cs i' b' s', only_set⟩
theorem tupD_eq {ds : List D} (h : ds.length < 64) : tupD ds = some (.tuple ds, false) := by
  unfold tupD
  rw [if_pos (size63 h)]
theorem lstD_eq {ds : List D} (h : ds.length < 64) : lstD ds = some (.list ds, true) := by
  unfold lstD
  rw [if_pos (size63 h)]
theorem addL_eq {xs ys : List D} (h : xs.length + ys.length < 64) : addD (.list xs) (.list ys) = some (.list (xs ++ ys), true) := by
  unfold addD
  simp only [if_pos (size63 h)]
theorem addT_eq {xs ys : List D} (h : xs.length + ys.length < 64) : addD (.tuple xs) (.tuple ys) = some (.tuple (xs ++ ys), false) := by
  unfold addD
  simp only [if_pos (size63 h)]
/-! ### the chains -/
def dNm (ns : List Nat) : List D := (ns.map nm).map .str
def dPr (ps : List (Nat × Nat)) : List D := (ps.map (mP nm)).map encP
theorem chain_c : ∀ l : Nat, l < 8 → _law_chain_F [.str s_c, .int ((l + 1 : Nat) : Int)] = some (.tuple [.list (dNm (chN (l + 1))), .list (dPr (lkN (l + 1)))], false, .none)
  | 0, _ => by kernel_rfl
  | 1, _ => by kernel_rfl
  | 2, _ => by kernel_rfl
  | 3, _ => by kernel_rfl
  | 4, _ => by kernel_rfl
  | 5, _ => by kernel_rfl
  | 6, _ => by kernel_rfl
  | 7, _ => by kernel_rfl
  | n + 8, h => absurd h (by omega)
theorem chain_r : ∀ a : Nat, a < 6 → _law_chain_F [.str s_r, .int ((a + 1 : Nat) : Int)] = some (.tuple [.list (dNm (rgN (a + 1))), .list (dPr (s0N (a + 1)))], false, .none)
  | 0, _ => by kernel_rfl
  | 1, _ => by kernel_rfl
  | 2, _ => by kernel_rfl
  | 3, _ => by kernel_rfl
  | 4, _ => by kernel_rfl
  | 5, _ => by kernel_rfl
  | n + 6, h => absurd h (by omega)
theorem known_c : ∀ l : Nat, l < 8 → _law_known_chain_F [.str s_c, .int ((l + 1 : Nat) : Int)] = some (.list ((List.range (l + 1)).map fun i => .tuple [.str (nm i), .str (alt i).s, .int (i : Int)]), true, .none)
  | 0, _ => by kernel_rfl
  | 1, _ => by kernel_rfl
  | 2, _ => by kernel_rfl
  | 3, _ => by kernel_rfl
  | 4, _ => by kernel_rfl
  | 5, _ => by kernel_rfl
  | 6, _ => by kernel_rfl
  | 7, _ => by kernel_rfl
  | n + 8, h => absurd h (by omega)
end K13

/-! K13W: a turn of the law, up to the ring. -/
namespace K13
open PySem PD

structure Ph (e : Ev) (l a : Nat) : Prop where
  fx : Fx e
  hl : l < 8
  ha : a < 6
  a12 : At e 12 (.int ((l + 1 : Nat) : Int)) .sh
  a13 : At e 13 (.int ((a + 1 : Nat) : Int)) .sh
  a14 : At e 14 (.list (dNm (chN (l + 1)))) .sh
  a15 : At e 15 (.list (dPr (lkN (l + 1)))) .sh
  a16 : At e 16 (.list (dNm (rgN (a + 1)))) .sh
  a3 : At e 3 (.list (dPr (stN (a + 1)))) .ow
theorem Ph.keep {e e' : Ev} {l a : Nat} {ws : List Nat} (h : Ph e l a) (F : Fx e') (o : Only ws e e') (w : 12 ∉ ws ∧ 13 ∉ ws ∧ 14 ∉ ws ∧ 15 ∉ ws ∧ 16 ∉ ws ∧ 3 ∉ ws) : Ph e' l a :=
  ⟨F, h.hl, h.ha, (o 12 w.1).trans h.a12, (o 13 w.2.1).trans h.a13, (o 14 w.2.2.1).trans h.a14, (o 15 w.2.2.2.1).trans h.a15, (o 16 w.2.2.2.2.1).trans h.a16, (o 3 w.2.2.2.2.2).trans h.a3⟩
theorem ring_last : ∀ a : Nat, a < 6 → L2.atI (dNm (rgN (a + 1))) (-1) = some (.str (nm (8 + a)))
  | 0, _ => rfl
  | 1, _ => rfl
  | 2, _ => rfl
  | 3, _ => rfl
  | 4, _ => rfl
  | 5, _ => rfl
  | n + 6, h => absurd h (by omega)
theorem chain_last : ∀ l : Nat, l < 8 → L2.atI (dNm (chN (l + 1))) (-1) = some (.str (nm l))
  | 0, _ => rfl
  | 1, _ => rfl
  | 2, _ => rfl
  | 3, _ => rfl
  | 4, _ => rfl
  | 5, _ => rfl
  | 6, _ => rfl
  | 7, _ => rfl
  | n + 8, h => absurd h (by omega)
theorem ring_first {a : Nat} : L2.atI (dNm (rgN (a + 1))) 0 = some (.str (nm 8)) := L2.atI_nat (j := 0) (by
  unfold dNm rgN
  rw [List.range_succ_eq_map]
  rfl)
theorem chain_first {l : Nat} : L2.atI (dNm (chN (l + 1))) 0 = some (.str (nm 0)) := L2.atI_nat (j := 0) (by
  unfold dNm chN
  rw [List.range_succ_eq_map]
  rfl)
theorem dPr_app (xs ys : List (Nat × Nat)) : dPr (xs ++ ys) = dPr xs ++ dPr ys := by
  unfold dPr
  rw [List.map_append, List.map_append]
theorem dNm_app (xs ys : List Nat) : dNm (xs ++ ys) = dNm xs ++ dNm ys := by
  unfold dNm
  rw [List.map_append, List.map_append]
theorem dPr_len (xs : List (Nat × Nat)) : (dPr xs).length = xs.length := by unfold dPr; rw [List.length_map, List.length_map]
theorem dNm_len (xs : List Nat) : (dNm xs).length = xs.length := by unfold dNm; rw [List.length_map, List.length_map]
theorem pair2 {e : Ev} (F : Fx e) {i j : Nat} {d c : D} (hi : i < 24) (hj : j < 24) (ni : i ≠ 1) (nj : j ≠ 1) (ij : j ≠ i) : ∃ e', tupG 2 (consG (nameG i) (consG (nameG j) nilG)) (.tuple [d, c]) e = some e' ∧ Fx e' ∧ At e' i d .sh ∧ At e' j c .sh ∧ Only [i, j] e e' := by
  have F1 : Fx (e.set i (some (d, .sh))) := F.put ni (by decide) (fun z => nomatch z)
  refine ⟨(e.set i (some (d, .sh))).set j (some (c, .sh)), ?_, F1.put nj (by decide) (fun z => nomatch z), ?_, ?_, ?_⟩
  · simp [tupG, consG, nameG, nilG, F.setv d false hi, F1.setv c false hj]
  · show _ = _
    rw [set_ne (Ne.symm ij), set_at (by rw [F.len]; exact hi)]
  · exact set_at (by rw [F1.len]; exact hj)
  · exact only_set.trans only_set fun k hk => ⟨fun z => hk (by rw [List.mem_singleton.mp z]; simp), fun z => hk (by rw [List.mem_singleton.mp z]; simp)⟩
theorem turn_head {e : Ev} (F : Fx e) (G : SF) : ∃ e' l a, Ph e' l a ∧ seqF law_s2 (seqF law_s3 (seqF law_s4 (seqF law_s5 G))) e = G e' := by
  -- the sizes
  obtain ⟨v, e1, v0, v1, h1, F1, o1⟩ := draw F (f := ofE (cF (.int 8))) (lim := 8) rfl (by decide) (by decide)
  obtain ⟨w, e2, w0, w1, h2, F2, o2⟩ := draw F1 (f := ofE (cF (.int 6))) (lim := 6) rfl (by decide) (by decide)
  obtain ⟨l, rfl⟩ : ∃ l : Nat, v = (l : Int) := ⟨v.toNat, by omega⟩
  obtain ⟨a, rfl⟩ : ∃ a : Nat, w = (a : Int) := ⟨w.toNat, by omega⟩
  obtain ⟨e3, h3, F3, b12, b13, o3⟩ := pair2 F2 (i := 12) (j := 13) (d := .int (1 + (l : Int))) (c := .int (1 + (a : Int))) (by decide) (by decide) (by decide) (by decide) (by decide)
  have x1 : opF (consO (ofE (cF (.int 1))) (consO (ofE (callM _law_next_F (consO (varO 1) (consO (ofE (cF (.int 8))) (nilO))))) nilO)) (PD.g2 addD) e = some (.int (1 + (l : Int)), false, e1) := opF_eq (consO_eq (ofE_eq cF_eq) (consO_eq (ofE_eq h1) nilO_eq)) (derefs_cons deref_val (derefs_cons deref_val derefs_nil)) rfl
  have x2 : opF (consO (ofE (cF (.int 1))) (consO (ofE (callM _law_next_F (consO (varO 1) (consO (ofE (cF (.int 6))) (nilO))))) nilO)) (PD.g2 addD) e1 = some (.int (1 + (a : Int)), false, e2) := opF_eq (consO_eq (ofE_eq cF_eq) (consO_eq (ofE_eq h2) nilO_eq)) (derefs_cons deref_val (derefs_cons deref_val derefs_nil)) rfl
  have t2 : law_s2 e = some (.nx, e3) := asgF_eq (opFA_eq (consO_eq (ofE_eq x1) (consO_eq (ofE_eq x2) nilO_eq)) rfl (derefs_cons deref_val (derefs_cons deref_val derefs_nil)) (tupD_eq (show (2 : Nat) < 64 by decide))) h3
  have c12 : At e3 12 (.int ((l + 1 : Nat) : Int)) .sh := by
    rw [show ((l + 1 : Nat) : Int) = 1 + (l : Int) by omega]
    exact b12
  have c13 : At e3 13 (.int ((a + 1 : Nat) : Int)) .sh := by
    rw [show ((a + 1 : Nat) : Int) = 1 + (a : Int) by omega]
    exact b13
  -- the chain
  have hl : l < 8 := by omega
  have ha : a < 6 := by omega
  obtain ⟨e4, h4, F4, b14, b15, o4⟩ := pair2 F3 (i := 14) (j := 15) (d := .list (dNm (chN (l + 1)))) (c := .list (dPr (lkN (l + 1)))) (by decide) (by decide) (by decide) (by decide) (by decide)
  have t3 : law_s3 e3 = some (.nx, e4) := asgF_eq (callF_eq (consO_eq (ofE_eq cF_eq) (consO_eq (varO_at c12) nilO_eq)) (derefs_cons deref_val (derefs_cons (deref_at c12) derefs_nil)) (chain_c l hl) (by simp [pkS, c12])) h4
  have d13 : At e4 13 (.int ((a + 1 : Nat) : Int)) .sh := (o4 13 (by decide)).trans c13
  obtain ⟨e5, h5, F5, b16, b3, o5⟩ := pair2 F4 (i := 16) (j := 3) (d := .list (dNm (rgN (a + 1)))) (c := .list (dPr (s0N (a + 1)))) (by decide) (by decide) (by decide) (by decide) (by decide)
  have t4 : law_s4 e4 = some (.nx, e5) := asgF_eq (callF_eq (consO_eq (ofE_eq cF_eq) (consO_eq (varO_at d13) nilO_eq)) (derefs_cons deref_val (derefs_cons (deref_at d13) derefs_nil)) (chain_r a ha) (by simp [pkS, d13])) h5
  -- the ring is closed
  have st : dPr (stN (a + 1)) = dPr (s0N (a + 1)) ++ [.tuple [.str (nm (8 + a)), .str (nm 8)]] := by
    unfold stN
    rw [dPr_app]
    rfl
  have sl : (s0N (a + 1)).length = a := by simp [s0N]
  have sz : (dPr (s0N (a + 1))).length + 1 ≤ sizeLine := by rw [dPr_len, sl]; exact size63 (by omega)
  have f5 : opF (consO (varO 3) (consO (ofE (opFA (consO (ofE (opFA (consO (ofE (opF (consO (varO 16) (consO (ofE (opF (consO (ofE (cF (.int 1))) nilO) (PD.g1 negD))) nilO)) (PD.g2 ixD))) (consO (ofE (opF (consO (varO 16) (consO (ofE (cF (.int 0))) nilO)) (PD.g2 ixD))) (nilO))) tupD)) (nilO)) lstD)) nilO)) (PD.g2 addD) e5 = some (.list (dPr (stN (a + 1))), true, e5) := by
    have b16 : e5[16]? = some (some (.list (dNm (rgN (a + 1))), .sh)) := b16
    have b3 : e5[3]? = some (some (.list (dPr (s0N (a + 1))), .sh)) := b3
    simp [seqF, setF, retF, exprF, ifF, asgF, augF, augS, parF, opF, opFA, consO, nilO, ofE, varO, varE, mvE, cF, derefs, deref, PD.g1, PD.g2, setv, tstF, truF, trueD, andT, orT, notT, andE, orE, notE, iteE, getE, newDF, dispF, dispL, seqI, rngI, callF, callM, frzL, pkS, immD, immL, mutF, noSlot, tyD, slF, partF, nameG, tupG, consG, nilG, subG, wipeE, unw, noOwn, yesT, PyData.plain, PyData.plainAll, PyData.depth, PyData.depthAll, bodyFF, argE, fin0, nxF, retN, forF, tupD, lstD, turnF, b16, b3, negD, ixD, ring_last a ha, ring_first, size63, addD, st, sz]
  have t5 : law_s5 e5 = some (.nx, e5.set 3 (some (.list (dPr (stN (a + 1))), .ow))) := setF_eq f5 (F5.setv _ true (by decide))
  refine ⟨_, l, a, ⟨F5.put (by decide) (by decide) (fun _ => .inl (by decide)), hl, ha, ?_, ?_, ?_, ?_, ?_, set_at (by rw [F5.len]; decide)⟩, by rw [seqF_eq t2, seqF_eq t3, seqF_eq t4, seqF_eq t5]⟩
  · exact (set_ne (by decide)).trans ((o5 12 (by decide)).trans ((o4 12 (by decide)).trans c12))
  · exact (set_ne (by decide)).trans ((o5 13 (by decide)).trans d13)
  · exact (set_ne (by decide)).trans ((o5 14 (by decide)).trans b14)
  · exact (set_ne (by decide)).trans ((o5 15 (by decide)).trans b15)
  · exact (set_ne (by decide)).trans b16
end K13

/-! K13X: the law's comprehensions, its calls of stands. -/
namespace K13
open PySem PD

theorem wipe_in {e : Ev} {j : Nat} : ∀ {vs : List Nat}, j ∈ vs → j < e.length → (wipeE e vs)[j]? = some none
  | v :: vs, h, hl => by
    unfold wipeE
    by_cases c : j = v
    · subst c
      exact set_at (by rw [wipeE_length]; exact hl)
    · rw [set_ne c]
      exact wipe_in ((List.mem_cons.mp h).resolve_left c) hl
theorem wipe_ext {e e' : Ev} {vs : List Nat} (hl : e'.length = e.length) (h : ∀ j, j ∉ vs → e'[j]? = e[j]?) : wipeE e' vs = wipeE e vs := by
  refine List.ext_getElem? fun j => ?_
  by_cases c : j ∈ vs
  · by_cases b : j < e.length
    · rw [wipe_in c b, wipe_in c (by rw [hl]; exact b)]
    · rw [List.getElem?_eq_none (by rw [wipeE_length]; omega), List.getElem?_eq_none (by rw [wipeE_length]; omega)]
  · rw [wipeE_out c, wipeE_out c, h j c]
theorem unw_ext {e : Ev} : ∀ {vs : List Nat} {x : Ev}, x.length = e.length → (∀ j, j ∉ vs → x[j]? = e[j]?) → unw e x vs = e
  | [], x, hl, h => List.ext_getElem? fun j => h j (by simp)
  | v :: vs, x, hl, h => by
    unfold unw
    refine List.ext_getElem? fun j => ?_
    by_cases c : j = v
    · subst c
      by_cases b : j < e.length
      · rw [set_at (by rw [unw_length]; omega), List.getD_eq_getElem?_getD, List.getElem?_eq_getElem b]
        rfl
      · rw [List.getElem?_eq_none (by rw [List.length_set, unw_length]; omega), List.getElem?_eq_none (by omega)]
    · rw [set_ne c]
      have z := unw_ext (e := e) (vs := vs) (x := (x.set v (e.getD v none))) (by rw [List.length_set]; exact hl) fun k hk => by
        by_cases c2 : k = v
        · subst c2
          by_cases b : k < e.length
          · rw [set_at (by omega), List.getD_eq_getElem?_getD, List.getElem?_eq_getElem b]
            rfl
          · rw [List.getElem?_eq_none (by rw [List.length_set]; omega), List.getElem?_eq_none (by omega)]
        · rw [set_ne c2]
          exact h k (by simp [c2, hk])
      have z2 : (unw e x vs)[j]? = (unw e (x.set v (e.getD v none)) vs)[j]? := by
        have : ∀ (us : List Nat), (unw e x us)[j]? = (unw e (x.set v (e.getD v none)) us)[j]? := fun us => by
          induction us with
          | nil => exact (set_ne c).symm
          | cons u us ih =>
            unfold unw
            by_cases c3 : j = u
            · subst c3
              by_cases b : j < e.length
              · rw [set_at (by rw [unw_length]; omega), set_at (by rw [unw_length, List.length_set]; omega)]
              · rw [List.getElem?_eq_none (by rw [List.length_set, unw_length]; omega), List.getElem?_eq_none (by rw [List.length_set, unw_length, List.length_set]; omega)]
            · rw [set_ne c3, set_ne c3, ih]
        exact this vs
      rw [z2, z]
theorem no_own {e : Ev} (F : Fx e) : ∀ {vs : List Nat}, (∀ v ∈ vs, 18 ≤ v ∧ v ≤ 22) → noOwn e vs = true
  | [], _ => rfl
  | v :: vs, h => by
    have ih := no_own F (vs := vs) fun u hu => h u (List.mem_cons_of_mem _ hu)
    obtain ⟨h1, h2⟩ := h v List.mem_cons_self
    have hl : v < e.length := by rw [F.len]; omega
    have g := List.getElem?_eq_getElem hl
    simp only [noOwn, ih, Bool.and_true]
    cases q : e[v] with
    | none => simp only [g, q]
    | some p =>
      obtain ⟨d, o⟩ := p
      have b := F.nb v d
      have c := F.cv v d h1 h2
      rw [g, q] at b c
      cases o with
      | sh => simp only [g, q]
      | ow => exact absurd rfl c
      | br => exact absurd rfl b
/-- a comprehension of the law's -/
theorem lc_law {e e' : Ev} (F : Fx e') {vs : List Nat} (hv : ∀ v ∈ vs, 18 ≤ v ∧ v ≤ 22) {s : IF} {g : GF} {t : TF} {f : EF} {α : Type} (c : α → D) (φ : α → Option D) {as : List α} (hs : s e = some (as.map c, e')) (hl : as.length < 64) (h : ∀ a ∈ as, turnF vs g t f (c a) (wipeE e' vs) = some (φ a, wipeE e' vs)) :
    lcF vs s g t f e = some (.list (as.filterMap φ), true, e') := by
  rw [lcF_eq hs (by rw [List.length_map]; exact size63 hl) (no_own F hv) (lcL_map c φ as h), unw_ext (by rw [wipeE_length]) fun j hj => wipeE_out hj]
/-- one name in a turn -/
theorem name1 {e : Ev} (F : Fx e) {v : Nat} (hv : v < 24) (d : D) : ∃ w : Ev, nameG v d (wipeE e [v]) = some w ∧ At w v d .sh ∧ (∀ j, j ≠ v → w[j]? = e[j]?) ∧ wipeE w [v] = wipeE e [v] := by
  have hl : v < e.length := by rw [F.len]; exact hv
  have g : (wipeE e [v])[v]? = some none := wipe_in (by simp) hl
  refine ⟨(wipeE e [v]).set v (some (d, .sh)), by simp only [nameG, PD.setv, g, Bool.false_eq_true, if_false], set_at (by rw [wipeE_length]; exact hl), fun j hj => by rw [set_ne hj, wipeE_out (by simpa using hj)], wipe_ext (by rw [List.length_set, wipeE_length]) fun j hj => ?_⟩
  have hj : j ≠ v := by simpa using hj
  rw [set_ne hj, wipeE_out (by simpa using hj)]
/-- three of them -/
theorem name3 {e : Ev} (F : Fx e) (a b c : D) : ∃ w : Ev, tupG 3 (consG (nameG 20) (consG (nameG 21) (consG (nameG 22) nilG))) (.tuple [a, b, c]) (wipeE e [20, 21, 22]) = some w ∧ At w 20 a .sh ∧ At w 21 b .sh ∧ At w 22 c .sh ∧ (∀ j, j ∉ [20, 21, 22] → w[j]? = e[j]?) ∧ wipeE w [20, 21, 22] = wipeE e [20, 21, 22] := by
  have hl : e.length = 24 := F.len
  have g0 : (wipeE e [20, 21, 22])[20]? = some none := wipe_in (by simp) (by omega)
  have g1 : (wipeE e [20, 21, 22])[21]? = some none := wipe_in (by simp) (by omega)
  have g2 : (wipeE e [20, 21, 22])[22]? = some none := wipe_in (by simp) (by omega)
  generalize hw : wipeE e [20, 21, 22] = W at *
  have wl : W.length = 24 := by rw [← hw, wipeE_length, hl]
  refine ⟨((W.set 20 (some (a, .sh))).set 21 (some (b, .sh))).set 22 (some (c, .sh)), ?_, ?_, ?_, ?_, fun j hj => ?_, ?_⟩
  · have k1 : (W.set 20 (some (a, Ow.sh)))[21]? = some none := by rw [set_ne (by decide), g1]
    have k2 : ((W.set 20 (some (a, Ow.sh))).set 21 (some (b, Ow.sh)))[22]? = some none := by rw [set_ne (by decide), set_ne (by decide), g2]
    simp [tupG, consG, nameG, nilG, PD.setv, g0, k1, k2]
  · show _ = _
    rw [set_ne (by decide), set_ne (by decide), set_at (by omega)]
  · show _ = _
    rw [set_ne (by decide), set_at (by rw [List.length_set]; omega)]
  · exact set_at (by rw [List.length_set, List.length_set]; omega)
  · simp only [List.mem_cons, List.not_mem_nil, or_false, not_or] at hj
    rw [set_ne hj.2.2, set_ne hj.2.1, set_ne hj.1, ← hw, wipeE_out (by simp [hj])]
  · rw [← hw]
    refine wipe_ext (by rw [List.length_set, List.length_set, List.length_set, wipeE_length]) fun j hj => ?_
    have hj' := hj
    simp only [List.mem_cons, List.not_mem_nil, or_false, not_or] at hj
    rw [set_ne hj.2.2, set_ne hj.2.1, set_ne hj.1, wipeE_out hj']
/-! ### drawn orders of pairs -/
theorem plain_pr : ∀ ps : List (Nat × Nat), PyData.plainAll (dPr ps) = true
  | [] => rfl
  | p :: r => by simpa [dPr, PyData.plainAll, PyData.plain, encP, mP] using plain_pr r
theorem depth_pr : ∀ ps : List (Nat × Nat), PyData.depthAll (dPr ps) ≤ 50
  | [] => by decide
  | p :: r => by
    have := depth_pr r
    simp [dPr, PyData.depthAll, PyData.depth, encP, mP] at this ⊢
    omega
theorem perm_enc {α β : Type} {c : α → β} {out : List β} {xs : List α} (p : out.Perm (xs.map c)) : ∃ ys : List α, ys.Perm xs ∧ out = ys.map c := by
  have pr : Paired (fun d x => d = c x) (xs.map c) xs := by
    induction xs generalizing out with
    | nil => exact .nil
    | cons x r ih => exact .cons rfl (ih (.refl _))
  obtain ⟨ys, h1, h2⟩ := paired_perm p pr
  refine ⟨ys, h1, ?_⟩
  clear p pr h1
  induction h2 with
  | nil => rfl
  | cons e _ ih => rw [List.map_cons, e, ih]
/-! ### what was looked at -/
theorem got_abc {l a : Nat} (hl : l < 8) (ha : a < 6) : chkA (l + 1) (a + 1) = true ∧ chkB (l + 1) (a + 1) = true ∧ chkC (l + 1) (a + 1) = true := by
  have z := List.all_eq_true.mp (List.all_eq_true.mp chk_abc l (List.mem_range.mpr hl)) a (List.mem_range.mpr ha)
  simp only [Bool.and_eq_true] at z
  exact ⟨z.1.1, z.1.2, z.2⟩
theorem got_d {l a k : Nat} (hl : l < 8) (ha : a < 6) (hk : k < 5) : chkD (l + 1) (a + 1) k = true :=
  List.all_eq_true.mp (List.all_eq_true.mp (List.all_eq_true.mp chk_d l (List.mem_range.mpr hl)) a (List.mem_range.mpr ha)) k (List.mem_range.mpr hk)
theorem chk_names : ((List.range 8).all fun l => (List.range 6).all fun a => decide ((n0N (l + 1) (a + 1)).Pairwise (· < ·)) && decide ((n1N (l + 1) (a + 1)).Pairwise (· < ·))) = true := by decide +kernel
theorem pair0 {l a : Nat} (hl : l < 8) (ha : a < 6) : (n0N (l + 1) (a + 1)).Pairwise (· < ·) ∧ (n1N (l + 1) (a + 1)).Pairwise (· < ·) := by
  have z := List.all_eq_true.mp (List.all_eq_true.mp chk_names l (List.mem_range.mpr hl)) a (List.mem_range.mpr ha)
  simp only [Bool.and_eq_true, decide_eq_true_eq] at z
  exact z
theorem len0 {l a : Nat} : (n0N (l + 1) (a + 1)).length = l + a + 2 := by
  simp [n0N, chN, rgN]
  omega
theorem lenA {l a : Nat} : (lkN (l + 1) ++ stN (a + 1)).length = l + a + 1 := by
  simp [lkN, stN, s0N]
  omega
theorem imm_rows : ∀ rows : List (Row Nat), immL (rows.map encN) = true
  | [] => rfl
  | p :: r => by simpa [immL, immD, encN, encRow, mR] using imm_rows r
end K13

/-! K13Y: the chain and the ring by themselves. -/
namespace K13
open PySem PD

/-- the labels of these numbered names -/
def rws (o : List (Row Nat)) (ns : List Nat) : List (Row Nat) := ns.map (rowR o)
def dRows (rows : List (Row Nat)) : D := .dict ((rows.map (mR nm)).map encKV)
theorem rws_keys (o : List (Row Nat)) (ns : List Nat) : (rws o ns).map (·.1) = ns := by
  unfold rws
  rw [List.map_map]
  conv => rhs; rw [← List.map_id ns]
  refine List.map_congr_left fun n _ => ?_
  show (rowR o n).1 = n
  unfold rowR
  split <;> rfl
theorem getR_rws (o : List (Row Nat)) {ns : List Nat} {n : Nat} (h : n ∈ ns) : getR (rws o ns) n = some (rowR o n).2 := by
  have key : ∀ m, (rowR o m).1 = m := fun m => by unfold rowR; split <;> rfl
  induction ns with
  | nil => cases h
  | cons m r ih =>
    show (if (rowR o m).1 = n then some (rowR o m).2 else getR (rws o r) n) = _
    by_cases e : m = n
    · subst e
      rw [if_pos (key m)]
    · rw [if_neg (by rw [key]; exact e)]
      rcases List.mem_cons.mp h with h | h
      · exact absurd h.symm e
      · exact ih h
theorem look_rws (o : List (Row Nat)) {ns : List Nat} {n : Nat} (h : n ∈ ns) : lookD (((rws o ns).map (mR nm)).map encKV) (.str (nm n)) = some (encQ (rowR o n).2) := by
  rw [look_enc, getR_map nm nm_inj, getR_rws o h]
  rfl
/-- a turn of the comprehension that makes the dict -/
theorem dict_turn {e : Ev} (F : Fx e) (p : Row Nat) : turnF [20, 21, 22] (tupG 3 (consG (nameG 20) (consG (nameG 21) (consG (nameG 22) nilG)))) yesT law_e1 (encN p) (wipeE e [20, 21, 22]) = some (some (.tuple [.str (nm p.1), encQ p.2]), wipeE e [20, 21, 22]) := by
  obtain ⟨w, h1, w20, w21, w22, _, h2⟩ := name3 F (.str (nm p.1)) (.str p.2.1.s) (.int p.2.2)
  have w20 : w[20]? = some (some (.str (nm p.1), .sh)) := w20
  have w21 : w[21]? = some (some (.str p.2.1.s, .sh)) := w21
  have w22 : w[22]? = some (some (.int p.2.2, .sh)) := w22
  have h3 : law_e1 w = some (.tuple [.str (nm p.1), encQ p.2], false, w) := by
    simp [law_e1, seqF, setF, retF, exprF, ifF, asgF, augF, augS, parF, opF, opFA, consO, nilO, ofE, varO, varE, mvE, cF, derefs, deref, PD.g1, PD.g2, setv, tstF, truF, trueD, andT, orT, notT, andE, orE, notE, iteE, getE, newDF, dispF, dispL, seqI, rngI, callF, callM, frzL, pkS, immD, immL, mutF, noSlot, tyD, slF, partF, nameG, tupG, consG, nilG, subG, wipeE, unw, noOwn, yesT, PyData.plain, PyData.plainAll, PyData.depth, PyData.depthAll, bodyFF, argE, fin0, nxF, retN, forF, tupD, lstD, turnF, w20, w21, w22, size63, encQ]
  unfold turnF
  rw [show tupG 3 (consG (nameG 20) (consG (nameG 21) (consG (nameG 22) nilG))) (encN p) (wipeE e [20, 21, 22]) = some w from h1]
  simp only [yesT, h3, h2]
theorem pairs_rows : ∀ rows : List (Row Nat), pairsD (rows.map fun p => .tuple [.str (nm p.1), encQ p.2]) = some ((rows.map (mR nm)).map encKV)
  | [] => rfl
  | p :: r => by
    simp only [List.map_cons, pairsD, keyD, pairs_rows r]
    rfl
theorem dict_rows {rows : List (Row Nat)} (hn : (rows.map (·.1)).Nodup) : dictD (.list (rows.map fun p => .tuple [.str (nm p.1), encQ p.2])) = some (dRows rows, true) := by
  have hn' : ((rows.map (mR nm)).map (·.1)).Nodup := by
    rw [List.map_map]
    have : ((fun x : Row Str => x.1) ∘ mR nm) = nm ∘ fun x : Row Nat => x.1 := rfl
    rw [this, ← List.map_map]
    exact List.pairwise_map.mpr (hn.imp fun {a b} h e => h (nm_inj a b e))
  have m := merge_enc (fs := []) hn' fun _ _ => rfl
  simp only [List.map_nil, List.nil_append] at m
  unfold dictD
  simp only [pairs_rows, m]
  rfl
/-- both lists of names -/
theorem names0 {e : Ev} {l a : Nat} (P : Ph e l a) : opF (consO (varO 14) (consO (varO 16) nilO)) (PD.g2 addD) e = some (.list (dNm (n0N (l + 1) (a + 1))), true, e) := by
  have l1 : (dNm (chN (l + 1))).length + (dNm (rgN (a + 1))).length < 64 := by
    rw [dNm_len, dNm_len]
    have := P.hl
    have := P.ha
    simp [chN, rgN]
    omega
  refine opF_eq (consO_eq (varO_at P.a14) (consO_eq (varO_at P.a16) nilO_eq)) (derefs_cons (deref_at P.a14) (derefs_cons (deref_at P.a16) derefs_nil)) ?_
  show addD (.list (dNm (chN (l + 1)))) (.list (dNm (rgN (a + 1)))) = _
  rw [addL_eq l1, n0N, dNm_app]
/-- links + steps -/
theorem links0 {e : Ev} {l a : Nat} (P : Ph e l a) : opF (consO (varO 15) (consO (varO 3) nilO)) (PD.g2 addD) e = some (.list (dPr (lkN (l + 1) ++ stN (a + 1))), true, e) := by
  have l1 : (dPr (lkN (l + 1))).length + (dPr (stN (a + 1))).length < 64 := by
    rw [dPr_len, dPr_len]
    have := lenA (l := l) (a := a)
    have := P.hl
    have := P.ha
    rw [List.length_append] at *
    omega
  refine opF_eq (consO_eq (varO_at P.a15) (consO_eq (varO_at P.a3) nilO_eq)) (derefs_cons (deref_at P.a15) (derefs_cons (deref_at P.a3) derefs_nil)) ?_
  show addD (.list (dPr (lkN (l + 1)))) (.list (dPr (stN (a + 1)))) = _
  rw [addL_eq l1, dPr_app]
/-- stands of what stands in any order -/
theorem call_stands {e e1 : Ev} {l a : Nat} (P : Ph e l a) {f : OF} {asN : List (Nat × Nat)} {as : List (Str × Str)} {o : List (Row Nat)} (hf : f e = some (.val (.list (as.map encP)), e1)) (h : runR asN (n0N (l + 1) (a + 1)) 64 [] 0 = some o) (ha : ∀ p, p ∈ as ↔ p ∈ asN.map (mP nm)) (hal : as.length < 64) :
    callF stands_F [] (consO (ofE (opF (consO (varO 14) (consO (varO 16) nilO)) (PD.g2 addD))) (consO f nilO)) e = some (.tuple ((rws o (n0N (l + 1) (a + 1))).map encN), false, e1) := by
  have st := stands_nm (names := (n0N (l + 1) (a + 1)).map nm) h (pair0 P.hl P.ha).1 (by rw [len0]; have := P.hl; have := P.ha; omega) (.refl _) ha hal
  exact callF_eq (consO_eq (ofE_eq (names0 P)) (consO_eq hf nilO_eq)) (derefs_cons deref_val (derefs_cons deref_val derefs_nil)) st rfl
/-- .. drawn -/
theorem call_mixed {e : Ev} {l a : Nat} (P : Ph e l a) {f : OF} {asN : List (Nat × Nat)} {o : List (Row Nat)} (hf : f e = some (.val (.list (dPr asN)), e)) (h : runR asN (n0N (l + 1) (a + 1)) 64 [] 0 = some o) (hal : asN.length < 64) :
    ∃ e', Fx e' ∧ Only [1] e e' ∧ callF stands_F [] (consO (ofE (opF (consO (varO 14) (consO (varO 16) nilO)) (PD.g2 addD))) (consO (ofE (callM _law_swapped_F (consO (varO 1) (consO f nilO)))) nilO)) e = some (.tuple ((rws o (n0N (l + 1) (a + 1))).map encN), false, e') := by
  obtain ⟨out, e', p, h1, F', o'⟩ := mixed P.fx hf (plain_pr _) (depth_pr _) (by rw [dPr_len]; exact hal)
  obtain ⟨as, p2, rfl⟩ := perm_enc p
  have hl : as.length < 64 := by rw [p2.length_eq, List.length_map]; exact hal
  exact ⟨e', F', o', call_stands P (ofE_eq h1) h (fun q => p2.mem_iff) hl⟩
/-- alone -/
theorem stmt6 {e : Ev} {l a : Nat} (P : Ph e l a) : ∃ e' o, runR (lkN (l + 1) ++ stN (a + 1)) (n0N (l + 1) (a + 1)) 64 [] 0 = some o ∧ law_s6 e = some (.nx, e') ∧ Ph e' l a ∧ At e' 4 (dRows (rws o (n0N (l + 1) (a + 1)))) .ow ∧ Only [1, 4] e e' := by
  have c := (got_abc P.hl P.ha).1
  unfold chkA at c
  split at c
  · rename_i o h
    obtain ⟨e1, F1, o1, h1⟩ := call_mixed P (f := ofE (opF (consO (varO 15) (consO (varO 3) nilO)) (PD.g2 addD))) (ofE_eq (links0 P)) h (by rw [lenA]; have := P.hl; have := P.ha; omega)
    have sq : seqI (callF stands_F [] (consO (ofE (opF (consO (varO 14) (consO (varO 16) nilO)) (PD.g2 addD))) (consO (ofE (callM _law_swapped_F (consO (varO 1) (consO (ofE (opF (consO (varO 15) (consO (varO 3) nilO)) (PD.g2 addD))) nilO)))) nilO))) e = some ((rws o (n0N (l + 1) (a + 1))).map encN, e1) := seqI_tup h1
    have lz : (rws o (n0N (l + 1) (a + 1))).length < 64 := by
      unfold rws
      rw [List.length_map, len0]
      have := P.hl
      have := P.ha
      omega
    have lc := lc_law F1 (vs := [20, 21, 22]) (g := tupG 3 (consG (nameG 20) (consG (nameG 21) (consG (nameG 22) nilG)))) (t := yesT) (f := law_e1) (by decide) encN (fun p => some (.tuple [.str (nm p.1), encQ p.2])) sq lz fun p _ => dict_turn F1 p
    rw [filterMap_all] at lc
    have hn : ((rws o (n0N (l + 1) (a + 1))).map (·.1)).Nodup := by
      rw [rws_keys]
      exact (pair0 P.hl P.ha).1.imp fun h => Nat.ne_of_lt h
    have hd := opF_eq (g := PD.g1 dictD) (consO_eq (ofE_eq lc) nilO_eq) (derefs_cons deref_val derefs_nil) (dict_rows hn)
    have s6 : law_s6 e = some (.nx, e1.set 4 (some (dRows (rws o (n0N (l + 1) (a + 1))), .ow))) := setF_eq hd (F1.setv _ true (by decide))
    have F2 : Fx (e1.set 4 (some (dRows (rws o (n0N (l + 1) (a + 1))), .ow))) := F1.put (by decide) (by decide) (fun _ => .inl (by decide))
    have ol : Only [1, 4] e (e1.set 4 (some (dRows (rws o (n0N (l + 1) (a + 1))), .ow))) := o1.trans only_set fun j hj => ⟨fun z => hj (by rw [List.mem_singleton.mp z]; simp), fun z => hj (by rw [List.mem_singleton.mp z]; simp)⟩
    exact ⟨_, o, h, s6, P.keep F2 ol (by decide), set_at (by rw [F1.len]; decide), ol⟩
  · cases c
/-! a row is told apart -/
theorem eqv_tup2 (x y : Str) (i j : Int) : PyData.eqv (.tuple [.str x, .int i]) (.tuple [.str y, .int j]) = (decide (x = y) && decide (i = j)) := by
  rw [Bool.eq_iff_iff]
  simp [PyData.eqv, PyData.eqvAll]
theorem ne_q (q q' : Lb × Int) : neD (encQ q) (encQ q') = some (.bool (!decide (q = q')), false) := by
  have e : PyData.eqv (encQ q) (encQ q') = decide (q = q') := by
    unfold encQ
    rw [eqv_tup2, Bool.eq_iff_iff]
    simp only [Bool.and_eq_true, decide_eq_true_eq, lb_inj]
    exact ⟨fun h => Prod.ext h.1 h.2, fun h => by rw [h]; exact ⟨rfl, rfl⟩⟩
  have p : ∀ q : Lb × Int, (encQ q).plain = true := fun q => by simp [encQ, PyData.plain, PyData.plainAll]
  have d : (encQ q).depth ≤ 60 := by simp [encQ, PyData.depth, PyData.depthAll]
  unfold neD
  rw [e, p, p, if_pos (by simp [d])]
/-- every row fits its dict: nothing is found -/
theorem rows_fit {e : Ev} {dt : List (D × D)} {ot : Ow} (F : Fx e) {i : Nat} (hi : i ≠ 19) (h4 : At e i (.dict dt) ot) {ns : List Nat} (q : Nat → Lb × Int) (h : ∀ n ∈ ns, lookD dt (.str (nm n)) = some (encQ (q n))) : ∀ n ∈ ns,
    turnF [19] (nameG 19) (tstF (opF (consO (ofE (opF (consO (varO i) (consO (ofE (opF (consO (varO 19) (consO (ofE (cF (.int 0))) nilO)) (PD.g2 ixD))) nilO)) (PD.g2 ixD))) (consO (ofE (slF (varO 19) (some (cF (.int 1))) none sliceD)) nilO)) (PD.g2 neD))) (varE 19) (.tuple [.str (nm n), .str (q n).1.s, .int (q n).2]) (wipeE e [19]) = some (none, wipeE e [19]) := fun n hn => by
  obtain ⟨w, h1, w19, wo, h2⟩ := name1 F (v := 19) (by decide) (.tuple [.str (nm n), .str (q n).1.s, .int (q n).2])
  have w4 : w[i]? = some (some (.dict dt, ot)) := (wo i hi).trans h4
  have w19 : w[19]? = some (some (.tuple [.str (nm n), .str (q n).1.s, .int (q n).2], .sh)) := w19
  have sl : sliceD (.tuple [.str (nm n), .str (q n).1.s, .int (q n).2]) (some 1) none = some (encQ (q n), false) := by
    simp [sliceD, cutD, HT.sIx, encQ]
  have nq := ne_q (q n) (q n)
  simp only [decide_true, Bool.not_true] at nq
  have t : tstF (opF (consO (ofE (opF (consO (varO i) (consO (ofE (opF (consO (varO 19) (consO (ofE (cF (.int 0))) nilO)) (PD.g2 ixD))) nilO)) (PD.g2 ixD))) (consO (ofE (slF (varO 19) (some (cF (.int 1))) none sliceD)) nilO)) (PD.g2 neD)) w = some (false, w) := by
    simp [seqF, setF, retF, exprF, ifF, asgF, augF, augS, parF, opF, opFA, consO, nilO, ofE, varO, varE, mvE, cF, derefs, deref, PD.g1, PD.g2, setv, tstF, truF, trueD, andT, orT, notT, andE, orE, notE, iteE, getE, newDF, dispF, dispL, seqI, rngI, callF, callM, frzL, pkS, immD, immL, mutF, noSlot, tyD, slF, partF, nameG, tupG, consG, nilG, subG, wipeE, unw, noOwn, yesT, PyData.plain, PyData.plainAll, PyData.depth, PyData.depthAll, bodyFF, argE, fin0, nxF, retN, forF, tupD, lstD, turnF, w19, w4, ixD, at0, keyD, h n hn, sl, nq]
  unfold turnF
  simp only [h1, t, h2]
end K13

/-! K13Z: the tests before the drawn attacks. -/
namespace K13
open PySem PD

theorem filterMap_no {α β : Type} : ∀ l : List α, (l.filterMap fun _ => (none : Option β)) = []
  | [] => rfl
  | _ :: r => by rw [List.filterMap_cons, filterMap_no r]
theorem none_found {e e' : Ev} {f : EF} (h : f e = some (.list [], true, e')) : tstF (opF (consO (ofE f) (consO (ofE (opFA nilO lstD)) nilO)) (PD.g2 neD)) e = some (false, e') := by
  have n : neD (.list []) (.list []) = some (.bool false, false) := ne_nil []
  exact tstF_eq (opF_eq (consO_eq (ofE_eq h) (consO_eq (ofE_eq (opFA_eq nilO_eq rfl derefs_nil (lstD_eq (show (0 : Nat) < 64 by decide)))) nilO_eq)) (derefs_cons deref_val (derefs_cons deref_val derefs_nil)) n)
theorem mem_ch {l a i : Nat} (h : i < l + 1) : i ∈ n0N (l + 1) (a + 1) := List.mem_append_left _ (List.mem_range.mpr h)
theorem mem_rg {l a n : Nat} (h : n ∈ rgN (a + 1)) : n ∈ n0N (l + 1) (a + 1) := List.mem_append_right _ h
theorem rg_len {a : Nat} : (rgN (a + 1)).length = a + 1 := by simp [rgN]
/-- names that are open in a dict -/
theorem open_fit {e : Ev} {dt : List (D × D)} {ot : Ow} (F : Fx e) {ns : List Nat} (h4 : At e 4 (.dict dt) ot) (h : ∀ n ∈ ns, lookD dt (.str (nm n)) = some (encQ (.op, -1))) : ∀ n ∈ ns, turnF [20] (nameG 20) law_t2 law_e3 (.str (nm n)) (wipeE e [20]) = some (none, wipeE e [20]) := fun n hn => by
  obtain ⟨w, h1, w20, wo, h2⟩ := name1 F (v := 20) (by decide) (.str (nm n))
  have w4 : w[4]? = some (some (.dict dt, ot)) := (wo 4 (by decide)).trans h4
  have w20 : w[20]? = some (some (.str (nm n), .sh)) := w20
  have nq := ne_q (.op, -1) (.op, -1)
  simp only [decide_true, Bool.not_true, encQ, Lb.s] at nq
  have t : law_t2 w = some (false, w) := by
    simp [law_t2, seqF, setF, retF, exprF, ifF, asgF, augF, augS, parF, opF, opFA, consO, nilO, ofE, varO, varE, mvE, cF, derefs, deref, PD.g1, PD.g2, setv, tstF, truF, trueD, andT, orT, notT, andE, orE, notE, iteE, getE, newDF, dispF, dispL, seqI, rngI, callF, callM, frzL, pkS, immD, immL, mutF, noSlot, tyD, slF, partF, nameG, tupG, consG, nilG, subG, wipeE, unw, noOwn, yesT, PyData.plain, PyData.plainAll, PyData.depth, PyData.depthAll, bodyFF, argE, fin0, nxF, retN, forF, tupD, lstD, turnF, w20, w4, ixD, keyD, h n hn, negD, size63, encQ, Lb.s, nq]
  unfold turnF
  simp only [h1, t, h2]
theorem stmt7 {e : Ev} {l a : Nat} {o : List (Row Nat)} (P : Ph e l a) (h : runR (lkN (l + 1) ++ stN (a + 1)) (n0N (l + 1) (a + 1)) 64 [] 0 = some o) (a4 : At e 4 (dRows (rws o (n0N (l + 1) (a + 1)))) .ow) : law_s7 e = some (.nx, e) := by
  have c := (got_abc P.hl P.ha).1
  unfold chkA at c
  rw [h] at c
  simp only [Bool.and_eq_true, List.all_eq_true, openAll, decide_eq_true_eq] at c
  have hl := P.hl
  have ha := P.ha
  have sq : seqI (callF _law_known_chain_F [] (consO (ofE (cF (.str s_c))) (consO (varO 12) nilO))) e = some ((List.range (l + 1)).map fun i => .tuple [.str (nm i), .str (alt i).s, .int (i : Int)], e) := seqI_list (callF_eq (consO_eq (ofE_eq cF_eq) (consO_eq (varO_at P.a12) nilO_eq)) (derefs_cons deref_val (derefs_cons (deref_at P.a12) derefs_nil)) (known_c l P.hl) (by
    have := P.a12
    simp [pkS, this]))
  have lc1 := lc_law P.fx (vs := [19]) (g := nameG 19) (t := law_t1) (f := law_e2) (by decide) (fun i : Nat => PyData.tuple [.str (nm i), .str (alt i).s, .int (i : Int)]) (fun _ => none) sq (by rw [List.length_range]; omega) (rows_fit P.fx (i := 4) (by decide) a4 (fun i => (alt i, (i : Int))) fun n hn => by
    have hn := List.mem_range.mp hn
    rw [look_rws o (mem_ch hn)]
    have g := c.1 n (List.mem_range.mpr hn)
    unfold rowR
    rw [g])
  rw [filterMap_no] at lc1
  have sq2 : seqI (varE 16) e = some ((rgN (a + 1)).map fun n => .str (nm n), e) := by
    have z := seqI_list (varE_sh P.a16)
    rw [z]
    unfold dNm
    rw [List.map_map]
    rfl
  have lc2 := lc_law P.fx (vs := [20]) (g := nameG 20) (t := law_t2) (f := law_e3) (by decide) (fun n : Nat => PyData.str (nm n)) (fun _ => none) sq2 (by rw [rg_len]; omega) (open_fit P.fx a4 fun n hn => by
    rw [look_rws o (mem_rg hn)]
    have g := c.2 n hn
    unfold rowR
    rw [g])
  rw [filterMap_no] at lc2
  have t : orT (tstF (opF (consO (ofE (lcF [19] (seqI (callF _law_known_chain_F [] (consO (ofE (cF (.str s_c))) (consO (varO 12) (nilO))))) (nameG 19) (law_t1) (law_e2))) (consO (ofE (opFA (nilO) lstD)) nilO)) (PD.g2 neD))) (tstF (opF (consO (ofE (lcF [20] (seqI (varE 16)) (nameG 20) (law_t2) (law_e3))) (consO (ofE (opFA (nilO) lstD)) nilO)) (PD.g2 neD))) e = some (false, e) := by
    simp only [orT, none_found lc1, none_found lc2]
  exact (ifF_no t).trans rfl
/-- one pair more -/
theorem links_and {e : Ev} {l a x y : Nat} (P : Ph e l a) {f : OF} (hf : f e = some (.val (.list [.tuple [.str (nm x), .str (nm y)]]), e)) : opF (consO (ofE (opF (consO (varO 15) (consO (varO 3) nilO)) (PD.g2 addD))) (consO f nilO)) (PD.g2 addD) e = some (.list (dPr (lkN (l + 1) ++ stN (a + 1) ++ [(x, y)])), true, e) := by
  have hl := P.hl
  have ha := P.ha
  refine opF_eq (consO_eq (ofE_eq (links0 P)) (consO_eq hf nilO_eq)) (derefs_cons deref_val (derefs_cons deref_val derefs_nil)) ?_
  show addD (.list (dPr (lkN (l + 1) ++ stN (a + 1)))) (.list [.tuple [.str (nm x), .str (nm y)]]) = _
  rw [addL_eq (by rw [dPr_len, lenA]; simp; omega), dPr_app (lkN (l + 1) ++ stN (a + 1)) [(x, y)]]
  rfl
theorem stmt8 {e : Ev} {l a : Nat} (P : Ph e l a) : ∃ e' o, runR (lkN (l + 1) ++ stN (a + 1) ++ [(l, 8)]) (n0N (l + 1) (a + 1)) 64 [] 0 = some o ∧ law_s8 e = some (.nx, e') ∧ Ph e' l a ∧ At e' 5 (.tuple ((rws o (n0N (l + 1) (a + 1))).map encN)) .sh := by
  have c := (got_abc P.hl P.ha).2.1
  have hl := P.hl
  have ha := P.ha
  unfold chkB at c
  rw [show l + 1 - 1 = l from rfl] at c
  split at c
  · rename_i o h
    have a14 := P.a14
    have a16 := P.a16
    have hf : ofE (opFA (consO (ofE (opFA (consO (ofE (opF (consO (varO 14) (consO (ofE (opF (consO (ofE (cF (.int 1))) nilO) (PD.g1 negD))) nilO)) (PD.g2 ixD))) (consO (ofE (opF (consO (varO 16) (consO (ofE (cF (.int 0))) nilO)) (PD.g2 ixD))) (nilO))) tupD)) (nilO)) lstD) e = some (.val (.list [.tuple [.str (nm l), .str (nm 8)]]), e) := by
      simp [seqF, setF, retF, exprF, ifF, asgF, augF, augS, parF, opF, opFA, consO, nilO, ofE, varO, varE, mvE, cF, derefs, deref, PD.g1, PD.g2, setv, tstF, truF, trueD, andT, orT, notT, andE, orE, notE, iteE, getE, newDF, dispF, dispL, seqI, rngI, callF, callM, frzL, pkS, immD, immL, mutF, noSlot, tyD, slF, partF, nameG, tupG, consG, nilG, subG, wipeE, unw, noOwn, yesT, PyData.plain, PyData.plainAll, PyData.depth, PyData.depthAll, bodyFF, argE, fin0, nxF, retN, forF, tupD, lstD, turnF, a14, a16, negD, ixD, chain_last l hl, ring_first, size63]
    obtain ⟨e1, F1, o1, h1⟩ := call_mixed P (ofE_eq (links_and P hf)) h (by rw [List.length_append, lenA]; simp; omega)
    have s8 : law_s8 e = some (.nx, e1.set 5 (some (.tuple ((rws o (n0N (l + 1) (a + 1))).map encN), .sh))) := setF_eq h1 (F1.setv _ false (by decide))
    have F2 : Fx (e1.set 5 (some (.tuple ((rws o (n0N (l + 1) (a + 1))).map encN), .sh))) := F1.put (by decide) (by decide) (fun z => nomatch z)
    exact ⟨_, o, h, s8, P.keep F2 (Only.trans (us := [1, 5]) o1 only_set fun j hj => ⟨fun z => hj (by rw [List.mem_singleton.mp z]; simp), fun z => hj (by rw [List.mem_singleton.mp z]; simp)⟩) (by decide), set_at (by rw [F1.len]; decide)⟩
  · cases c
theorem stmt9 {e : Ev} {l a : Nat} {o : List (Row Nat)} (P : Ph e l a) (a5 : At e 5 (.tuple ((rws o (n0N (l + 1) (a + 1))).map encN)) .sh) : ∃ e', law_s9 e = some (.nx, e') ∧ Ph e' l a ∧ At e' 6 (dRows (rws o (n0N (l + 1) (a + 1)))) .ow := by
  have hl := P.hl
  have ha := P.ha
  have lz : (rws o (n0N (l + 1) (a + 1))).length < 64 := by
    unfold rws
    rw [List.length_map, len0]
    omega
  have lc := lc_law P.fx (vs := [20, 21, 22]) (g := tupG 3 (consG (nameG 20) (consG (nameG 21) (consG (nameG 22) nilG)))) (t := yesT) (f := law_e4) (by decide) encN (fun p => some (.tuple [.str (nm p.1), encQ p.2])) (seqI_tup (varE_sh a5)) lz fun p _ => dict_turn P.fx p
  rw [filterMap_all] at lc
  have hn : ((rws o (n0N (l + 1) (a + 1))).map (·.1)).Nodup := by
    rw [rws_keys]
    exact (pair0 P.hl P.ha).1.imp fun h => Nat.ne_of_lt h
  have hd := opF_eq (g := PD.g1 dictD) (consO_eq (ofE_eq lc) nilO_eq) (derefs_cons deref_val derefs_nil) (dict_rows hn)
  have s9 : law_s9 e = some (.nx, e.set 6 (some (dRows (rws o (n0N (l + 1) (a + 1))), .ow))) := setF_eq hd (P.fx.setv _ true (by decide))
  exact ⟨_, s9, P.keep (P.fx.put (by decide) (by decide) (fun _ => .inl (by decide))) only_set (by decide), set_at (by rw [P.fx.len]; decide)⟩
end K13

/-! K13I: what the ring comes to behind the chain. -/
namespace K13
open PySem PD

/-- what is due of the ring -/
def dueQ (l n : Nat) : Lb × Int := if (l + 1) % 2 = 1 then (tla (n - 8), ((l + 1 + (n - 8) : Nat) : Int)) else (.op, -1)
def dueD (l n : Nat) : D := .tuple [.str (nm n), .str (dueQ l n).1.s, .int (dueQ l n).2]
theorem mod2 (i : Nat) : ((i : Int) % 2) = ((i % 2 : Nat) : Int) := by omega
theorem ring_at {a i : Nat} (h : i < a + 1) : L2.atI (dNm (rgN (a + 1))) (i : Int) = some (.str (nm (8 + i))) := L2.atI_nat (by
  unfold dNm rgN
  simp [h])
theorem stmt12 {e : Ev} {l a : Nat} (P : Ph e l a) : ∃ e', law_s12 e = some (.nx, e') ∧ Ph e' l a ∧ At e' 17 (.list ((rgN (a + 1)).map (dueD l))) .ow ∧ Only [17] e e' := by
  have hl := P.hl
  have ha := P.ha
  have a12 := P.a12
  have a13 := P.a13
  have t : tstF (opF (consO (ofE (opF (consO (varO 12) (consO (ofE (cF (.int 2))) nilO)) (PD.g2 modD))) (consO (ofE (cF (.int 1))) nilO)) (PD.g2 eqD)) e = some (decide ((l + 1) % 2 = 1), e) := by
    have d : decide ((((l + 1 : Nat) : Int) % 2) = 1) = decide ((l + 1) % 2 = 1) := by
      rw [decide_eq_decide]
      omega
    have x1 : opF (consO (varO 12) (consO (ofE (cF (.int 2))) nilO)) (PD.g2 modD) e = some (.int (((l + 1 : Nat) : Int) % 2), false, e) := opF_eq (consO_eq (varO_at a12) (consO_eq (ofE_eq cF_eq) nilO_eq)) (derefs_cons (deref_at a12) (derefs_cons deref_val derefs_nil)) rfl
    have x2 : eqD (.int (((l + 1 : Nat) : Int) % 2)) (.int 1) = some (.bool (decide ((l + 1) % 2 = 1)), false) := by
      unfold eqD
      rw [eqv_int, d]
      rfl
    exact tstF_eq (opF_eq (consO_eq (ofE_eq x1) (consO_eq (ofE_eq cF_eq) nilO_eq)) (derefs_cons deref_val (derefs_cons deref_val derefs_nil)) x2)
  have fin : ∀ f : EF, f e = some (.list ((rgN (a + 1)).map (dueD l)), true, e) → ∃ e', setF 17 f e = some (.nx, e') ∧ Ph e' l a ∧ At e' 17 (.list ((rgN (a + 1)).map (dueD l))) .ow ∧ Only [17] e e' := fun f h =>
    ⟨_, setF_eq h (P.fx.setv _ true (by decide)), P.keep (P.fx.put (by decide) (by decide) (fun _ => .inl (by decide))) only_set (by decide), set_at (by rw [P.fx.len]; decide), only_set⟩
  cases c : decide ((l + 1) % 2 = 1) with
  | true =>
    rw [c] at t
    have c : (l + 1) % 2 = 1 := of_decide_eq_true c
    have rg : rngI (consO (varO 13) nilO) e = some (rngL 0 (a + 1), e) := by
      have a13 : e[13]? = some (some (.int ((a + 1 : Nat) : Int), .sh)) := a13
      have b : -(2 ^ 62) ≤ ((a + 1 : Nat) : Int) ∧ ((a + 1 : Nat) : Int) < 2 ^ 62 := by omega
      simp only [rngI, consO_eq (varO_at a13) nilO_eq, derefs_cons (deref_at a13) derefs_nil, if_pos b, Int.toNat_natCast]
    have rg2 : rngI (consO (varO 13) nilO) e = some ((List.range (a + 1)).map fun i : Nat => PyData.int (0 + (i : Int)), e) := rg
    have lc := lc_law P.fx (vs := [18]) (g := nameG 18) (t := yesT) (f := law_e5) (by decide) (fun i : Nat => PyData.int (0 + (i : Int))) (fun i => some (dueD l (8 + i))) rg2 (by rw [List.length_range]; omega) fun i hi => by
      have hi := List.mem_range.mp hi
      obtain ⟨w, h1, w18, wo, h2⟩ := name1 P.fx (v := 18) (by decide) (.int (0 + (i : Int)))
      have w18 : w[18]? = some (some (.int (i : Int), .sh)) := by
        rw [Int.zero_add] at w18
        exact w18
      have w16 : w[16]? = some (some (.list (dNm (rgN (a + 1))), .sh)) := (wo 16 (by decide)).trans P.a16
      have w12 : w[12]? = some (some (.int ((l + 1 : Nat) : Int), .sh)) := (wo 12 (by decide)).trans P.a12
      have q : dueD l (8 + i) = .tuple [.str (nm (8 + i)), .str (tla i).s, .int (((l + 1 : Nat) : Int) + (i : Int))] := by
        unfold dueD dueQ
        rw [if_pos c, show 8 + i - 8 = i by omega]
        simp
      have ev : law_e5 w = some (dueD l (8 + i), false, w) := by
        rw [q]
        by_cases c2 : i % 2 = 0
        · have c3 : ((i : Int) % 2) = 0 := by omega
          simp [law_e5, seqF, setF, retF, exprF, ifF, asgF, augF, augS, parF, opF, opFA, consO, nilO, ofE, varO, varE, mvE, cF, derefs, deref, PD.g1, PD.g2, setv, tstF, truF, trueD, andT, orT, notT, andE, orE, notE, iteE, getE, newDF, dispF, dispL, seqI, rngI, callF, callM, frzL, pkS, immD, immL, mutF, noSlot, tyD, slF, partF, nameG, tupG, consG, nilG, subG, wipeE, unw, noOwn, yesT, PyData.plain, PyData.plainAll, PyData.depth, PyData.depthAll, bodyFF, argE, fin0, nxF, retN, forF, tupD, lstD, turnF, w18, w16, w12, ixD, ring_at hi, modD, c3, at0, addD, size63, tla, c2, Lb.s]
        · have c3 : ((i : Int) % 2) = 1 := by omega
          simp [law_e5, seqF, setF, retF, exprF, ifF, asgF, augF, augS, parF, opF, opFA, consO, nilO, ofE, varO, varE, mvE, cF, derefs, deref, PD.g1, PD.g2, setv, tstF, truF, trueD, andT, orT, notT, andE, orE, notE, iteE, getE, newDF, dispF, dispL, seqI, rngI, callF, callM, frzL, pkS, immD, immL, mutF, noSlot, tyD, slF, partF, nameG, tupG, consG, nilG, subG, wipeE, unw, noOwn, yesT, PyData.plain, PyData.plainAll, PyData.depth, PyData.depthAll, bodyFF, argE, fin0, nxF, retN, forF, tupD, lstD, turnF, w18, w16, w12, ixD, ring_at hi, modD, c3, at1, addD, size63, tla, c2, Lb.s]
      unfold turnF
      simp only [h1, yesT, ev, h2]
    rw [filterMap_all] at lc
    have e1 : ((List.range (a + 1)).map fun i => dueD l (8 + i)) = (rgN (a + 1)).map (dueD l) := by
      unfold rgN
      rw [List.map_map]
      rfl
    rw [e1] at lc
    obtain ⟨e', h1, h2⟩ := fin _ lc
    exact ⟨e', (ifF_yes t).trans h1, h2⟩
  | false =>
    rw [c] at t
    have c : ¬ (l + 1) % 2 = 1 := of_decide_eq_false c
    have sq2 : seqI (varE 16) e = some ((rgN (a + 1)).map fun n => .str (nm n), e) := by
      have z := seqI_list (varE_sh P.a16)
      rw [z]
      unfold dNm
      rw [List.map_map]
      rfl
    have lc := lc_law P.fx (vs := [20]) (g := nameG 20) (t := yesT) (f := law_e6) (by decide) (fun n : Nat => PyData.str (nm n)) (fun n => some (dueD l n)) sq2 (by rw [rg_len]; omega) fun n _ => by
      obtain ⟨w, h1, w20, wo, h2⟩ := name1 P.fx (v := 20) (by decide) (.str (nm n))
      have w20 : w[20]? = some (some (.str (nm n), .sh)) := w20
      have q : dueD l n = .tuple [.str (nm n), .str s_open, .int (-1)] := by
        unfold dueD dueQ
        rw [if_neg c]
        rfl
      have ev : law_e6 w = some (dueD l n, false, w) := by
        rw [q]
        simp [law_e6, seqF, setF, retF, exprF, ifF, asgF, augF, augS, parF, opF, opFA, consO, nilO, ofE, varO, varE, mvE, cF, derefs, deref, PD.g1, PD.g2, setv, tstF, truF, trueD, andT, orT, notT, andE, orE, notE, iteE, getE, newDF, dispF, dispL, seqI, rngI, callF, callM, frzL, pkS, immD, immL, mutF, noSlot, tyD, slF, partF, nameG, tupG, consG, nilG, subG, wipeE, unw, noOwn, yesT, PyData.plain, PyData.plainAll, PyData.depth, PyData.depthAll, bodyFF, argE, fin0, nxF, retN, forF, tupD, lstD, turnF, w20, negD, size63]
      unfold turnF
      simp only [h1, yesT, ev, h2]
    rw [filterMap_all] at lc
    obtain ⟨e', h1, h2⟩ := fin _ lc
    exact ⟨e', (ifF_no t).trans h1, h2⟩
theorem stmt13 {e : Ev} {l a : Nat} {o : List (Row Nat)} (P : Ph e l a) (h : runR (lkN (l + 1) ++ stN (a + 1) ++ [(l, 8)]) (n0N (l + 1) (a + 1)) 64 [] 0 = some o) (a6 : At e 6 (dRows (rws o (n0N (l + 1) (a + 1)))) .ow) (a17 : At e 17 (.list ((rgN (a + 1)).map (dueD l))) .ow) : ∃ e', law_s13 e = some (.nx, e') ∧ Ph e' l a := by
  have hl := P.hl
  have ha := P.ha
  have c := (got_abc P.hl P.ha).2.1
  unfold chkB at c
  rw [show l + 1 - 1 = l from rfl, h] at c
  dsimp only at c
  have vE : varE 17 e = some (.list ((rgN (a + 1)).map (dueD l)), false, e.set 17 (some (.list ((rgN (a + 1)).map (dueD l)), .sh))) := by
    have a17 : e[17]? = some (some (.list ((rgN (a + 1)).map (dueD l)), .ow)) := a17
    simp only [varE, a17]
  have F1 : Fx (e.set 17 (some (.list ((rgN (a + 1)).map (dueD l)), .sh))) := P.fx.put (by decide) (by decide) (fun z => nomatch z)
  have b6 : At (e.set 17 (some (.list ((rgN (a + 1)).map (dueD l)), .sh))) 6 (dRows (rws o (n0N (l + 1) (a + 1)))) .ow := (set_ne (by decide)).trans a6
  have lc := lc_law F1 (vs := [19]) (g := nameG 19) (t := law_t3) (f := law_e7) (by decide) (dueD l) (fun _ => none) (seqI_list vE) (by rw [rg_len]; omega) (rows_fit F1 (i := 6) (by decide) b6 (dueQ l) fun n hn => by
    rw [look_rws o (mem_rg hn)]
    obtain ⟨i, hi, rfl⟩ := List.mem_map.mp hn
    have g : getR o (8 + i) = if (l + 1) % 2 = 1 then some (tla i, ((l + 1 + i : Nat) : Int)) else none := by
      by_cases c2 : (l + 1) % 2 = 1
      · rw [if_pos c2, List.all_eq_true] at c
        rw [if_pos c2]
        have := of_decide_eq_true (c i hi)
        rw [this]
        simp
      · rw [if_neg c2] at c
        rw [if_neg c2]
        simp only [openAll, List.all_eq_true, decide_eq_true_eq] at c
        exact c _ hn
    unfold rowR dueQ
    rw [g, show 8 + i - 8 = i by omega]
    by_cases c2 : (l + 1) % 2 = 1
    · simp only [if_pos c2]
    · simp only [if_neg c2])
  rw [filterMap_no] at lc
  exact ⟨_, (ifF_no (none_found lc)).trans rfl, P.keep F1 only_set (by decide)⟩
theorem stmt14 {e : Ev} {l a : Nat} (P : Ph e l a) : ∃ e' o, runR (lkN (l + 1) ++ stN (a + 1) ++ [(8, 0)]) (n0N (l + 1) (a + 1)) 64 [] 0 = some o ∧ law_s14 e = some (.nx, e') ∧ Ph e' l a ∧ At e' 7 (.tuple ((rws o (n0N (l + 1) (a + 1))).map encN)) .sh := by
  have c := (got_abc P.hl P.ha).2.2
  have hl := P.hl
  have ha := P.ha
  unfold chkC at c
  split at c
  · rename_i o h
    have a14 := P.a14
    have a16 := P.a16
    have hf : ofE (opFA (consO (ofE (opFA (consO (ofE (opF (consO (varO 16) (consO (ofE (cF (.int 0))) nilO)) (PD.g2 ixD))) (consO (ofE (opF (consO (varO 14) (consO (ofE (cF (.int 0))) nilO)) (PD.g2 ixD))) (nilO))) tupD)) (nilO)) lstD) e = some (.val (.list [.tuple [.str (nm 8), .str (nm 0)]]), e) := by
      simp [seqF, setF, retF, exprF, ifF, asgF, augF, augS, parF, opF, opFA, consO, nilO, ofE, varO, varE, mvE, cF, derefs, deref, PD.g1, PD.g2, setv, tstF, truF, trueD, andT, orT, notT, andE, orE, notE, iteE, getE, newDF, dispF, dispL, seqI, rngI, callF, callM, frzL, pkS, immD, immL, mutF, noSlot, tyD, slF, partF, nameG, tupG, consG, nilG, subG, wipeE, unw, noOwn, yesT, PyData.plain, PyData.plainAll, PyData.depth, PyData.depthAll, bodyFF, argE, fin0, nxF, retN, forF, tupD, lstD, turnF, a14, a16, ixD, chain_first, ring_first, size63]
    have h1 := call_stands P (asN := lkN (l + 1) ++ stN (a + 1) ++ [(8, 0)]) (as := (lkN (l + 1) ++ stN (a + 1) ++ [(8, 0)]).map (mP nm)) (ofE_eq (links_and P hf)) h (fun _ => Iff.rfl) (by rw [List.length_map, List.length_append, lenA]; simp; omega)
    have s14 : law_s14 e = some (.nx, e.set 7 (some (.tuple ((rws o (n0N (l + 1) (a + 1))).map encN), .sh))) := setF_eq h1 (P.fx.setv _ false (by decide))
    exact ⟨_, o, h, s14, P.keep (P.fx.put (by decide) (by decide) (fun z => nomatch z)) only_set (by decide), set_at (by rw [P.fx.len]; decide)⟩
  · cases c
theorem stmt15 {e : Ev} {l a : Nat} {o : List (Row Nat)} (P : Ph e l a) (h : runR (lkN (l + 1) ++ stN (a + 1) ++ [(8, 0)]) (n0N (l + 1) (a + 1)) 64 [] 0 = some o) (a7 : At e 7 (.tuple ((rws o (n0N (l + 1) (a + 1))).map encN)) .sh) : law_s15 e = some (.nx, e) := by
  have c := (got_abc P.hl P.ha).2.2
  have hl := P.hl
  have ha := P.ha
  unfold chkC at c
  rw [h] at c
  simp only [openAll, List.all_eq_true, decide_eq_true_eq] at c
  have lz : (rws o (n0N (l + 1) (a + 1))).length < 64 := by
    unfold rws
    rw [List.length_map, len0]
    omega
  have lc := lc_law P.fx (vs := [19]) (g := nameG 19) (t := law_t4) (f := law_e8) (by decide) encN (fun _ => none) (seqI_tup (varE_sh a7)) lz fun p hp => by
    obtain ⟨n, hn, rfl⟩ := List.mem_map.mp hp
    have e0 : rowR o n = (n, .op, -1) := by
      unfold rowR
      rw [c n hn]
    rw [e0]
    obtain ⟨w, h1, w19, wo, h2⟩ := name1 P.fx (v := 19) (by decide) (encN (n, .op, -1))
    have w19 : w[19]? = some (some (.tuple [.str (nm n), .str s_open, .int (-1)], .sh)) := w19
    have sl : sliceD (.tuple [.str (nm n), .str s_open, .int (-1)]) (some 1) none = some (.tuple [.str s_open, .int (-1)], false) := by
      simp [sliceD, cutD, HT.sIx]
    have nq := ne_q (.op, -1) (.op, -1)
    simp only [decide_true, Bool.not_true, encQ, Lb.s] at nq
    have t : law_t4 w = some (false, w) := by
      simp [law_t4, seqF, setF, retF, exprF, ifF, asgF, augF, augS, parF, opF, opFA, consO, nilO, ofE, varO, varE, mvE, cF, derefs, deref, PD.g1, PD.g2, setv, tstF, truF, trueD, andT, orT, notT, andE, orE, notE, iteE, getE, newDF, dispF, dispL, seqI, rngI, callF, callM, frzL, pkS, immD, immL, mutF, noSlot, tyD, slF, partF, nameG, tupG, consG, nilG, subG, wipeE, unw, noOwn, yesT, PyData.plain, PyData.plainAll, PyData.depth, PyData.depthAll, bodyFF, argE, fin0, nxF, retN, forF, tupD, lstD, turnF, w19, sl, negD, size63, nq]
    unfold turnF
    simp only [h1, t, h2]
  rw [filterMap_no] at lc
  exact (ifF_no (none_found lc)).trans rfl
end K13

/-! K13J: the drawn attacks, the drawn names, what is told of them. -/
namespace K13
open PySem PD

def AN (l a k : Nat) : List (Nat × Nat) := lkN (l + 1) ++ stN (a + 1) ++ (exN (a + 1)).take k
theorem chk_has : ((List.range 8).all fun l => (List.range 6).all fun a => (List.range 5).all fun k => (AN l a k).all fun p => decide (p.1 ∈ n1N (l + 1) (a + 1))) = true := by decide +kernel
theorem has_n {l a k : Nat} (hl : l < 8) (ha : a < 6) (hk : k < 5) : ∀ p ∈ AN l a k, p.1 ∈ n1N (l + 1) (a + 1) := fun p hp => of_decide_eq_true (List.all_eq_true.mp (List.all_eq_true.mp (List.all_eq_true.mp (List.all_eq_true.mp chk_has l (List.mem_range.mpr hl)) a (List.mem_range.mpr ha)) k (List.mem_range.mpr hk)) p hp)
theorem mixed2 {e e1 : Ev} (F : Fx e) (F1 : Fx e1) {f : OF} {rows : List D} (hf : f e = some (.val (.list rows), e1)) (hp : PyData.plainAll rows = true) (hd : PyData.depthAll rows ≤ 50) (hl : rows.length < 64) : ∃ out e', out.Perm rows ∧ callM _law_swapped_F (consO (varO 1) (consO f nilO)) e = some (.list out, true, e') ∧ Fx e' ∧ Only [1] e1 e' := by
  obtain ⟨cs0, i0, b0, s0, h0⟩ := F.st
  obtain ⟨cs, i, b, s, h⟩ := F1.st
  obtain ⟨i', b', s', out, p, h2⟩ := swap_spec (cs := cs) (i := i) (b := b) (s := s) hp hd hl
  exact ⟨out, _, p, callM_eq (c := encS cs i b s) (o := .ow) (consO_eq (varO_at h0) (consO_eq hf nilO_eq)) rfl h (by decide) (derefs_cons deref_val derefs_nil) h2, F1.stt cs i' b' s', only_set⟩
theorem cut_to {xs : List D} {k : Nat} : cutD xs none (some (k : Int)) = xs.take k := by
  unfold cutD
  rw [show HT.sIx xs.length 0 none = 0 from rfl, show HT.sIx xs.length xs.length (some (k : Int)) = min k xs.length from HT.sIx_nat xs.length xs.length k, List.drop_zero, Nat.sub_zero]
  rw [List.take_eq_take_iff]
  omega
theorem plain_nm : ∀ ns : List Nat, PyData.plainAll (dNm ns) = true
  | [] => rfl
  | p :: r => by simpa [dNm, PyData.plainAll, PyData.plain] using plain_nm r
theorem depth_nm : ∀ ns : List Nat, PyData.depthAll (dNm ns) ≤ 50
  | [] => by decide
  | p :: r => by
    have := depth_nm r
    simpa [dNm, PyData.depthAll, PyData.depth] using this
theorem lenN {l a k : Nat} : (AN l a k).length ≤ l + a + 5 := by
  unfold AN
  rw [List.length_append, lenA, List.length_take]
  simp [exN]
  omega
theorem stmt16 {e : Ev} {l a : Nat} (P : Ph e l a) : ∃ (e' : Ev) (k : Nat) (as : List (Str × Str)), k < 5 ∧ (as.Perm ((AN l a k).map (mP nm))) ∧ law_s16 e = some (.nx, e') ∧ Ph e' l a ∧ At e' 8 (.list (as.map encP)) .ow := by
  have hl := P.hl
  have ha := P.ha
  have a14 := P.a14
  have a16 := P.a16
  obtain ⟨v, e1, v0, v1, h1, F1, o1⟩ := draw P.fx (f := ofE (cF (.int 5))) (lim := 5) rfl (by decide) (by decide)
  obtain ⟨k, rfl⟩ : ∃ k : Nat, v = (k : Int) := ⟨v.toNat, by omega⟩
  have x1 : ofE (opFA (consO (ofE (opFA (consO (ofE (opF (consO (varO 16) (consO (ofE (opF (consO (ofE (cF (.int 1))) nilO) (PD.g1 negD))) nilO)) (PD.g2 ixD))) (consO (ofE (cF (.str s_x))) (nilO))) tupD)) (consO (ofE (opFA (consO (ofE (opF (consO (varO 14) (consO (ofE (cF (.int 0))) nilO)) (PD.g2 ixD))) (consO (ofE (cF (.str s_x))) (nilO))) tupD)) (consO (ofE (opFA (consO (ofE (cF (.str s_y))) (consO (ofE (cF (.str s_y))) (nilO))) tupD)) (consO (ofE (opFA (consO (ofE (cF (.str s_y))) (consO (ofE (cF (.str s_z))) (nilO))) tupD)) (nilO))))) lstD) e = some (.val (.list (dPr (exN (a + 1)))), e) := by
    have q : dPr (exN (a + 1)) = [.tuple [.str (nm (8 + a)), .str s_x], .tuple [.str (nm 0), .str s_x], .tuple [.str s_y, .str s_y], .tuple [.str s_y, .str s_z]] := rfl
    rw [q]
    simp [seqF, setF, retF, exprF, ifF, asgF, augF, augS, parF, opF, opFA, consO, nilO, ofE, varO, varE, mvE, cF, derefs, deref, PD.g1, PD.g2, setv, tstF, truF, trueD, andT, orT, notT, andE, orE, notE, iteE, getE, newDF, dispF, dispL, seqI, rngI, callF, callM, frzL, pkS, immD, immL, mutF, noSlot, tyD, slF, partF, nameG, tupG, consG, nilG, subG, wipeE, unw, noOwn, yesT, PyData.plain, PyData.plainAll, PyData.depth, PyData.depthAll, bodyFF, argE, fin0, nxF, retN, forF, tupD, lstD, turnF, a14, a16, negD, ixD, chain_first, ring_last a ha, size63]
  have x2 : slF (ofE (opFA (consO (ofE (opFA (consO (ofE (opF (consO (varO 16) (consO (ofE (opF (consO (ofE (cF (.int 1))) nilO) (PD.g1 negD))) nilO)) (PD.g2 ixD))) (consO (ofE (cF (.str s_x))) (nilO))) tupD)) (consO (ofE (opFA (consO (ofE (opF (consO (varO 14) (consO (ofE (cF (.int 0))) nilO)) (PD.g2 ixD))) (consO (ofE (cF (.str s_x))) (nilO))) tupD)) (consO (ofE (opFA (consO (ofE (cF (.str s_y))) (consO (ofE (cF (.str s_y))) (nilO))) tupD)) (consO (ofE (opFA (consO (ofE (cF (.str s_y))) (consO (ofE (cF (.str s_z))) (nilO))) tupD)) (nilO))))) lstD)) none (some (callM _law_next_F (consO (varO 1) (consO (ofE (cF (.int 5))) (nilO))))) sliceD e = some (.list (dPr ((exN (a + 1)).take k)), true, e1) := by
    have q : sliceD (.list (dPr (exN (a + 1)))) none (some (k : Int)) = some (.list (dPr ((exN (a + 1)).take k)), true) := by
      show some (PyData.list (cutD (dPr (exN (a + 1))) none (some (k : Int))), true) = _
      rw [cut_to]
      unfold dPr
      rw [List.map_take, List.map_take]
    simp only [slF, x1, partF, h1, deref, q]
  have x3 := opF_eq (g := PD.g2 addD) (consO_eq (ofE_eq (links0 P)) (consO_eq (ofE_eq x2) nilO_eq)) (derefs_cons deref_val (derefs_cons deref_val derefs_nil)) (d := .list (dPr (AN l a k))) (fr := true) (by
    show addD (.list (dPr (lkN (l + 1) ++ stN (a + 1)))) (.list (dPr ((exN (a + 1)).take k))) = _
    rw [addL_eq (by rw [dPr_len, dPr_len, lenA, List.length_take]; simp [exN]; omega), AN, dPr_app (lkN (l + 1) ++ stN (a + 1))])
  obtain ⟨out, e2, p, h2, F2, o2⟩ := mixed2 P.fx F1 (ofE_eq x3) (plain_pr _) (depth_pr _) (by rw [dPr_len]; have := lenN (l := l) (a := a) (k := k); omega)
  obtain ⟨as, p2, rfl⟩ := perm_enc p
  have s16 : law_s16 e = some (.nx, e2.set 8 (some (.list (as.map encP), .ow))) := setF_eq h2 (F2.setv _ true (by decide))
  have ol : Only [1, 8] e (e2.set 8 (some (.list (as.map encP), .ow))) := Only.trans (us := [1, 8]) (Only.trans (us := [1]) o1 o2 fun j hj => ⟨hj, hj⟩) only_set fun j hj => ⟨fun z => hj (by rw [List.mem_singleton.mp z]; simp), fun z => hj (by rw [List.mem_singleton.mp z]; simp)⟩
  exact ⟨_, k, as, by omega, p2, s16, P.keep (F2.put (by decide) (by decide) (fun _ => .inl (by decide))) ol (by decide), set_at (by rw [F2.len]; decide)⟩
theorem len1 {l a : Nat} : (n1N (l + 1) (a + 1)).length = l + a + 5 := by
  unfold n1N
  rw [List.length_append, len0]
  simp
theorem stmt17 {e : Ev} {l a : Nat} {d8 : D} (P : Ph e l a) (a8 : At e 8 d8 .ow) : ∃ (e' : Ev) (names : List Str), names.Perm ((n1N (l + 1) (a + 1)).map nm) ∧ law_s17 e = some (.nx, e') ∧ Ph e' l a ∧ At e' 8 d8 .ow ∧ At e' 9 (.list (names.map .str)) .ow := by
  have hl := P.hl
  have ha := P.ha
  have x1 : opFA (consO (ofE (cF (.str s_x))) (consO (ofE (cF (.str s_y))) (consO (ofE (cF (.str s_z))) (nilO)))) lstD e = some (.list (dNm [14, 15, 16]), true, e) := opFA_eq (consO_eq (ofE_eq cF_eq) (consO_eq (ofE_eq cF_eq) (consO_eq (ofE_eq cF_eq) nilO_eq))) rfl (derefs_cons deref_val (derefs_cons deref_val (derefs_cons deref_val derefs_nil))) (lstD_eq (show (3 : Nat) < 64 by decide))
  have x2 := opF_eq (g := PD.g2 addD) (consO_eq (ofE_eq (names0 P)) (consO_eq (ofE_eq x1) nilO_eq)) (derefs_cons deref_val (derefs_cons deref_val derefs_nil)) (d := .list (dNm (n1N (l + 1) (a + 1)))) (fr := true) (by
    show addD (.list (dNm (n0N (l + 1) (a + 1)))) (.list (dNm [14, 15, 16])) = _
    rw [addL_eq (by rw [dNm_len, dNm_len, len0]; simp; omega), n1N, dNm_app (n0N (l + 1) (a + 1))])
  obtain ⟨out, e2, p, h2, F2, o2⟩ := mixed2 P.fx P.fx (ofE_eq x2) (plain_nm _) (depth_nm _) (by rw [dNm_len, len1]; omega)
  obtain ⟨names, p2, rfl⟩ := perm_enc p
  have s17 : law_s17 e = some (.nx, e2.set 9 (some (.list (names.map .str), .ow))) := setF_eq h2 (F2.setv _ true (by decide))
  have ol : Only [1, 9] e (e2.set 9 (some (.list (names.map .str), .ow))) := Only.trans (us := [1, 9]) o2 only_set fun j hj => ⟨fun z => hj (by rw [List.mem_singleton.mp z]; simp), fun z => hj (by rw [List.mem_singleton.mp z]; simp)⟩
  exact ⟨_, names, p2, s17, P.keep (F2.put (by decide) (by decide) (fun _ => .inl (by decide))) ol (by decide), (ol 8 (by decide)).trans a8, set_at (by rw [F2.len]; decide)⟩
/-- what stands behind all the draws -/
structure Pj (e : Ev) (l a k : Nat) (o : List (Row Nat)) (as : List (Str × Str)) (names : List Str) : Prop where
  fx : Fx e
  hl : l < 8
  ha : a < 6
  hk : k < 5
  run : runR (AN l a k) (n1N (l + 1) (a + 1)) 64 [] 0 = some o
  pa : as.Perm ((AN l a k).map (mP nm))
  pn : names.Perm ((n1N (l + 1) (a + 1)).map nm)
  a8 : At e 8 (.list (as.map encP)) .ow
  a9 : At e 9 (.list (names.map .str)) .ow
  a10 : At e 10 (.tuple ((rws o (n1N (l + 1) (a + 1))).map encN)) .sh
theorem Pj.keep {e e' : Ev} {l a k : Nat} {o : List (Row Nat)} {as : List (Str × Str)} {names : List Str} {ws : List Nat} (h : Pj e l a k o as names) (F : Fx e') (ol : Only ws e e') (w : 8 ∉ ws ∧ 9 ∉ ws ∧ 10 ∉ ws) : Pj e' l a k o as names :=
  ⟨F, h.hl, h.ha, h.hk, h.run, h.pa, h.pn, (ol 8 w.1).trans h.a8, (ol 9 w.2.1).trans h.a9, (ol 10 w.2.2).trans h.a10⟩
theorem as_len {l a k : Nat} {as : List (Str × Str)} (hl : l < 8) (ha : a < 6) (p : as.Perm ((AN l a k).map (mP nm))) : as.length < 30 := by
  rw [p.length_eq, List.length_map]
  have := lenN (l := l) (a := a) (k := k)
  omega
theorem stmt18 {e : Ev} {l a k : Nat} {as : List (Str × Str)} {names : List Str} (P : Ph e l a) (hk : k < 5) (pa : as.Perm ((AN l a k).map (mP nm))) (pn : names.Perm ((n1N (l + 1) (a + 1)).map nm)) (a8 : At e 8 (.list (as.map encP)) .ow) (a9 : At e 9 (.list (names.map .str)) .ow) : ∃ e' o, law_s18 e = some (.nx, e') ∧ Pj e' l a k o as names := by
  have hl := P.hl
  have ha := P.ha
  have c := got_d P.hl P.ha hk
  unfold chkD at c
  split at c
  · rename_i o h
    have al := as_len hl ha pa
    have x1 : slF (varO 8) none (some (cF (.int 1))) sliceD e = some (.list ((as.take 1).map encP), true, e) := by
      have q : sliceD (.list (as.map encP)) none (some 1) = some (.list ((as.take 1).map encP), true) := by
        show some (PyData.list (cutD (as.map encP) none (some ((1 : Nat) : Int))), true) = _
        rw [cut_to, List.map_take]
      simp only [slF, varO_at a8, partF, cF, deref_at a8, q]
    have x2 := opF_eq (g := PD.g2 addD) (consO_eq (varO_at a8) (consO_eq (ofE_eq x1) nilO_eq)) (derefs_cons (deref_at a8) (derefs_cons deref_val derefs_nil)) (d := .list ((as ++ as.take 1).map encP)) (fr := true) (by
      show addD (.list (as.map encP)) (.list ((as.take 1).map encP)) = _
      rw [addL_eq (by rw [List.length_map, List.length_map, List.length_take]; omega), List.map_append])
    have st := stands_nm (names := names) (as := as ++ as.take 1) h (pair0 hl ha).2 (by rw [len1]; omega) pn (fun p => by
      rw [List.mem_append]
      exact ⟨fun z => z.elim (fun z => pa.mem_iff.mp z) fun z => pa.mem_iff.mp (List.mem_of_mem_take z), fun z => .inl (pa.mem_iff.mpr z)⟩) (by rw [List.length_append, List.length_take]; omega)
    have x3 : callF stands_F [] (consO (varO 9) (consO (ofE (opF (consO (varO 8) (consO (ofE (slF (varO 8) none (some (cF (.int 1))) sliceD)) nilO)) (PD.g2 addD))) (nilO))) e = some (.tuple ((rws o (n1N (l + 1) (a + 1))).map encN), false, e) := callF_imm (consO_eq (varO_at a9) (consO_eq (ofE_eq x2) nilO_eq)) (derefs_cons (deref_at a9) (derefs_cons deref_val derefs_nil)) st (by simpa [immD] using imm_rows _)
    have s18 : law_s18 e = some (.nx, e.set 10 (some (.tuple ((rws o (n1N (l + 1) (a + 1))).map encN), .sh))) := setF_eq x3 (P.fx.setv _ false (by decide))
    exact ⟨_, o, s18, P.fx.put (by decide) (by decide) (fun z => nomatch z), hl, ha, hk, h, pa, pn, (set_ne (by decide)).trans a8, (set_ne (by decide)).trans a9, set_at (by rw [P.fx.len]; decide)⟩
  · cases c
end K13

/-! K13K: what is told, judged; bent rows are found. -/
namespace K13
open PySem PD

theorem eqv_encN (p p' : Row Nat) : PyData.eqv (encN p) (encN p') = (decide (p.1 = p'.1) && decide (p.2 = p'.2)) := by
  obtain ⟨n, l, r⟩ := p
  obtain ⟨n', l', r'⟩ := p'
  rw [Bool.eq_iff_iff]
  simp [encN, encRow, mR, PyData.eqv, PyData.eqvAll, lb_inj]
  exact fun _ _ => ⟨nm_inj _ _, fun h => by rw [h]⟩
theorem eqv_rows : ∀ rows : List (Row Nat), PyData.eqvAll (rows.map encN) (rows.map encN) = true
  | [] => rfl
  | p :: r => by
    simp only [List.map_cons, PyData.eqvAll, eqv_rows r, eqv_encN, decide_true, Bool.and_true]
theorem plain_rows : ∀ rows : List (Row Nat), PyData.plainAll (rows.map encN) = true
  | [] => rfl
  | p :: r => by simpa [PyData.plainAll, PyData.plain, encN, encRow, mR] using plain_rows r
theorem depth_rows : ∀ rows : List (Row Nat), PyData.depthAll (rows.map encN) ≤ 50
  | [] => by decide
  | p :: r => by
    have := depth_rows r
    simp [PyData.depthAll, PyData.depth, encN, encRow, mR] at this ⊢
    omega
theorem ne_rows (rows : List (Row Nat)) : neD (.tuple (rows.map encN)) (.tuple (rows.map encN)) = some (.bool false, false) := by
  have d := depth_rows rows
  unfold neD
  rw [if_pos (by simp [PyData.plain, plain_rows, PyData.depth]; omega)]
  simp [PyData.eqv, eqv_rows]
section
variable {e : Ev} {l a k : Nat} {o : List (Row Nat)} {as : List (Str × Str)} {names : List Str}
theorem jcall {f : OF} {ot : Opd} {T : D} {b : Bool} (P : Pj e l a k o as names) (hf : f e = some (ot, e)) (hd : deref e ot = some T) (J : judge_stands_F [.list (names.map .str), .list (as.map encP), T] = some (.bool b, false, .none)) : callF judge_stands_F [] (consO (varO 9) (consO (varO 8) (consO f nilO))) e = some (.bool b, false, e) :=
  callF_imm (consO_eq (varO_at P.a9) (consO_eq (varO_at P.a8) (consO_eq hf nilO_eq))) (derefs_cons (deref_at P.a9) (derefs_cons (deref_at P.a8) (derefs_cons hd derefs_nil))) J rfl
theorem got_o (P : Pj e l a k o as names) : ((rws o (n1N (l + 1) (a + 1))).all fun p => setl (rws o (n1N (l + 1) (a + 1))) (attN (AN l a k) p.1) p.2.1 p.2.2) = true ∧ bentsBad (AN l a k) (rws o (n1N (l + 1) (a + 1))) (rws o (n1N (l + 1) (a + 1))) 0 = true := by
  have c := got_d P.hl P.ha P.hk
  have h := P.run
  unfold AN at h
  unfold chkD at c
  rw [h] at c
  dsimp only at c
  rw [Bool.and_eq_true] at c
  exact c
theorem aset (P : Pj e l a k o as names) : ∀ p, p ∈ as ↔ p ∈ (AN l a k).map (mP nm) := fun _ => P.pa.mem_iff
theorem stmt19 (P : Pj e l a k o as names) : law_s19 e = some (.nx, e) := by
  have hl := P.hl
  have ha := P.ha
  have al := as_len P.hl P.ha P.pa
  have lb := labels_nm (names := names) (as := as) P.run (pair0 hl ha).2 (by rw [len1]; omega) P.pn (aset P) (by omega)
  have x1 : callF _law_labels_F [] (consO (varO 9) (consO (varO 8) (nilO))) e = some (.tuple ((rws o (n1N (l + 1) (a + 1))).map encN), false, e) := callF_imm (consO_eq (varO_at P.a9) (consO_eq (varO_at P.a8) nilO_eq)) (derefs_cons (deref_at P.a9) (derefs_cons (deref_at P.a8) derefs_nil)) lb (by simpa [immD] using imm_rows _)
  have t1 : tstF (opF (consO (varO 10) (consO (ofE (callF _law_labels_F [] (consO (varO 9) (consO (varO 8) (nilO))))) nilO)) (PD.g2 neD)) e = some (false, e) := tstF_eq (opF_eq (consO_eq (varO_at P.a10) (consO_eq (ofE_eq x1) nilO_eq)) (derefs_cons (deref_at P.a10) (derefs_cons deref_val derefs_nil)) (ne_rows _))
  have J := judge_nm (rws_keys o (n1N (l + 1) (a + 1))) (pair0 hl ha).2 (by rw [len1]; omega) P.pn (aset P) (by omega) (has_n hl ha P.hk)
  rw [(got_o P).1] at J
  have x2 := jcall P (varO_at P.a10) (deref_at P.a10) J
  have t2 : tstF (opF (consO (ofE (callF judge_stands_F [] (consO (varO 9) (consO (varO 8) (consO (varO 10) (nilO)))))) (consO (ofE (cF (.bool true))) nilO)) (PD.g2 isntD)) e = some (false, e) := tstF_eq (opF_eq (consO_eq (ofE_eq x2) (consO_eq (ofE_eq cF_eq) nilO_eq)) (derefs_cons deref_val (derefs_cons deref_val derefs_nil)) rfl)
  exact (ifF_no (by simp only [orT, t1, t2])).trans rfl
/-! bent rows -/
theorem bents_at {as : List (Nat × Nat)} {rows : List (Row Nat)} : ∀ (sub : List (Row Nat)) (i : Nat), bentsBad as rows sub i = true → ∀ (j : Nat) (p : Row Nat), sub[j]? = some p → ∀ q ∈ bents p.2, q = p.2 ∨ setl (rows.set (i + j) (p.1, q)) (attN as p.1) q.1 q.2 = false
  | [], _, _, j, p, h => by simp at h
  | x :: r, i, hb, 0, p, h => by
    cases h
    intro q hq
    simp only [bentsBad, Bool.and_eq_true, List.all_eq_true] at hb
    have := hb.1 q hq
    simp only [Bool.or_eq_true, decide_eq_true_eq, Bool.not_eq_true'] at this
    exact this
  | x :: r, i, hb, j + 1, p, h => by
    simp only [bentsBad, Bool.and_eq_true] at hb
    have z := bents_at r (i + 1) hb.2 j p (by simpa using h)
    intro q hq
    have := z q hq
    rw [show i + 1 + j = i + (j + 1) by omega] at this
    exact this
/-- the frame in which bent rows are judged -/
structure Pb' (e : Ev) (l a k : Nat) (o : List (Row Nat)) (as : List (Str × Str)) (names : List Str) (i : Nat) (p : Row Nat) : Prop where
  pj : Pj e l a k o as names
  a18 : At e 18 (.int (i : Int)) .sh
  a20 : At e 20 (.str (nm p.1)) .sh
  a21 : At e 21 (.str p.2.1.s) .sh
  a22 : At e 22 (.int p.2.2) .sh
  hp : (rws o (n1N (l + 1) (a + 1)))[i]? = some p
theorem Pb'.keep {e' : Ev} {i : Nat} {p : Row Nat} {ws : List Nat} (h : Pb' e l a k o as names i p) (F : Fx e') (ol : Only ws e e') (w : 8 ∉ ws ∧ 9 ∉ ws ∧ 10 ∉ ws ∧ 18 ∉ ws ∧ 20 ∉ ws ∧ 21 ∉ ws ∧ 22 ∉ ws) : Pb' e' l a k o as names i p :=
  ⟨h.pj.keep F ol ⟨w.1, w.2.1, w.2.2.1⟩, (ol 18 w.2.2.2.1).trans h.a18, (ol 20 w.2.2.2.2.1).trans h.a20, (ol 21 w.2.2.2.2.2.1).trans h.a21, (ol 22 w.2.2.2.2.2.2).trans h.a22, h.hp⟩
theorem cut_from {xs : List D} {m : Nat} : cutD xs (some (m : Int)) none = xs.drop m := by
  unfold cutD
  rw [show HT.sIx xs.length 0 (some (m : Int)) = min m xs.length from HT.sIx_nat xs.length 0 m, show HT.sIx xs.length xs.length none = xs.length from rfl]
  by_cases h : m ≤ xs.length
  · rw [Nat.min_eq_left h]
    exact List.take_of_length_le (by rw [List.length_drop]; omega)
  · rw [Nat.min_eq_right (by omega), List.drop_length, List.drop_eq_nil_of_le (by omega)]
    simp
/-- one row put in, and judged -/
theorem bent_turn {i : Nat} {p : Row Nat} (P : Pb' e l a k o as names i p) (d : D) (hd : d.plain = true) (hd2 : d.depth ≤ 50)
    (J : PyData.eqv d (encN p) = false → judge_stands_F [.list (names.map .str), .list (as.map encP), .tuple (((rws o (n1N (l + 1) (a + 1))).map encN).set i d)] = some (.bool false, false, .none))
    (J2 : ∃ b, judge_stands_F [.list (names.map .str), .list (as.map encP), .tuple (((rws o (n1N (l + 1) (a + 1))).map encN).set i d)] = some (.bool b, false, .none)) :
    ∃ e1 e2, nameG 19 d e = some e1 ∧ law_b1 e1 = some (.nx, e2) ∧ Pb' e2 l a k o as names i p := by
  have hl := P.pj.hl
  have ha := P.pj.ha
  have tl : ((rws o (n1N (l + 1) (a + 1))).map encN).length = l + a + 5 := by
    unfold rws
    rw [List.length_map, List.length_map, len1]
  have hi : i < (rws o (n1N (l + 1) (a + 1))).length := (List.getElem?_eq_some_iff.mp P.hp).1
  have hi2 : i < ((rws o (n1N (l + 1) (a + 1))).map encN).length := by rw [List.length_map]; exact hi
  have hat : ((rws o (n1N (l + 1) (a + 1))).map encN)[i]? = some (encN p) := by rw [List.getElem?_map, P.hp]; rfl
  generalize hT : (rws o (n1N (l + 1) (a + 1))).map encN = T at *
  have n1 : nameG 19 d e = some (e.set 19 (some (d, .sh))) := P.pj.fx.setv d false (by decide)
  have P1 := P.keep (P.pj.fx.put (i := 19) (d := d) (o := .sh) (by decide) (by decide) (fun z => nomatch z)) only_set (by decide)
  have b19 : At (e.set 19 (some (d, .sh))) 19 d .sh := set_at (by rw [P.pj.fx.len]; decide)
  generalize e.set 19 (some (d, .sh)) = e1 at *
  have a10 : At e1 10 (.tuple T) .sh := by
    have := P1.pj.a10
    rw [hT] at this
    exact this
  -- bent
  have y1 : slF (varO 10) none (some (varE 18)) sliceD e1 = some (.tuple (T.take i), false, e1) := by
    have q : sliceD (.tuple T) none (some (i : Int)) = some (.tuple (T.take i), false) := by
      show some (PyData.tuple (cutD T none (some (i : Int))), false) = _
      rw [cut_to]
    simp only [slF, varO_at a10, partF, varE_sh P1.a18, deref_at a10, q]
  have y2 : opFA (consO (ofE (varE 19)) (nilO)) tupD e1 = some (.tuple [d], false, e1) := opFA_eq (consO_eq (ofE_eq (varE_sh b19)) nilO_eq) rfl (derefs_cons deref_val derefs_nil) (tupD_eq (show (1 : Nat) < 64 by decide))
  have y3 : opF (consO (varO 18) (consO (ofE (cF (.int 1))) nilO)) (PD.g2 addD) e1 = some (.int ((i : Int) + 1), false, e1) := opF_eq (consO_eq (varO_at P1.a18) (consO_eq (ofE_eq cF_eq) nilO_eq)) (derefs_cons (deref_at P1.a18) (derefs_cons deref_val derefs_nil)) rfl
  have y4 : slF (varO 10) (some (opF (consO (varO 18) (consO (ofE (cF (.int 1))) nilO)) (PD.g2 addD))) none sliceD e1 = some (.tuple (T.drop (i + 1)), false, e1) := by
    have q : sliceD (.tuple T) (some ((i : Int) + 1)) none = some (.tuple (T.drop (i + 1)), false) := by
      show some (PyData.tuple (cutD T (some ((i + 1 : Nat) : Int)) none), false) = _
      rw [cut_from]
    simp only [slF, varO_at a10, partF, y3, deref_at a10, q]
  have y5 : opF (consO (ofE (slF (varO 10) none (some (varE 18)) sliceD)) (consO (ofE (opFA (consO (ofE (varE 19)) (nilO)) tupD)) nilO)) (PD.g2 addD) e1 = some (.tuple (T.take i ++ [d]), false, e1) := opF_eq (consO_eq (ofE_eq y1) (consO_eq (ofE_eq y2) nilO_eq)) (derefs_cons deref_val (derefs_cons deref_val derefs_nil)) (by
    show addD (.tuple (T.take i)) (.tuple [d]) = _
    rw [addT_eq (by rw [List.length_take]; simp; omega)])
  have y6 := opF_eq (g := PD.g2 addD) (consO_eq (ofE_eq y5) (consO_eq (ofE_eq y4) nilO_eq)) (derefs_cons deref_val (derefs_cons deref_val derefs_nil)) (d := .tuple (T.set i d)) (fr := false) (by
    show addD (.tuple (T.take i ++ [d])) (.tuple (T.drop (i + 1))) = _
    rw [addT_eq (by rw [List.length_append, List.length_take, List.length_drop]; simp; omega), List.set_eq_take_append_cons_drop, if_pos hi2, List.append_assoc]
    rfl)
  have s22 : law_s22 e1 = some (.nx, e1.set 23 (some (.tuple (T.set i d), .sh))) := setF_eq y6 (P1.pj.fx.setv _ false (by decide))
  have P2 := P1.keep (P1.pj.fx.put (i := 23) (d := .tuple (T.set i d)) (o := .sh) (by decide) (by decide) (fun z => nomatch z)) only_set (by decide)
  have b23 : At (e1.set 23 (some (.tuple (T.set i d), .sh))) 23 (.tuple (T.set i d)) .sh := set_at (by rw [P1.pj.fx.len]; decide)
  have c19 : At (e1.set 23 (some (.tuple (T.set i d), .sh))) 19 d .sh := (set_ne (by decide)).trans b19
  have c10 : At (e1.set 23 (some (.tuple (T.set i d), .sh))) 10 (.tuple T) .sh := (set_ne (by decide)).trans a10
  generalize e1.set 23 (some (.tuple (T.set i d), .sh)) = e2 at *
  refine ⟨e1, e2, n1, ?_, P2⟩
  have z1 : opF (consO (varO 10) (consO (varO 18) nilO)) (PD.g2 ixD) e2 = some (encN p, false, e2) := opF_eq (consO_eq (varO_at c10) (consO_eq (varO_at P2.a18) nilO_eq)) (derefs_cons (deref_at c10) (derefs_cons (deref_at P2.a18) derefs_nil)) (by
    show ixD (.tuple T) (.int (i : Int)) = _
    simp only [ixD, L2.atI_nat hat])
  have ne : neD d (encN p) = some (.bool (!PyData.eqv d (encN p)), false) := by
    unfold neD
    rw [if_pos]
    rw [hd, show (encN p).plain = true by simp [encN, encRow, mR, PyData.plain, PyData.plainAll]]
    simp
    omega
  have t1 : tstF (opF (consO (varO 19) (consO (ofE (opF (consO (varO 10) (consO (varO 18) nilO)) (PD.g2 ixD))) nilO)) (PD.g2 neD)) e2 = some (!PyData.eqv d (encN p), e2) := tstF_eq (opF_eq (consO_eq (varO_at c19) (consO_eq (ofE_eq z1) nilO_eq)) (derefs_cons (deref_at c19) (derefs_cons deref_val derefs_nil)) ne)
  obtain ⟨b, hb⟩ := J2
  have x2 := jcall P2.pj (varO_at b23) (deref_at b23) hb
  have t2 : tstF (opF (consO (ofE (callF judge_stands_F [] (consO (varO 9) (consO (varO 8) (consO (varO 23) (nilO)))))) (consO (ofE (cF (.bool false))) nilO)) (PD.g2 isntD)) e2 = some (b, e2) := tstF_eq (opF_eq (consO_eq (ofE_eq x2) (consO_eq (ofE_eq cF_eq) nilO_eq)) (derefs_cons deref_val (derefs_cons deref_val derefs_nil)) (by cases b <;> rfl))
  have s23 : law_s23 e2 = some (.nx, e2) := by
    refine (ifF_no ?_).trans rfl
    cases c : PyData.eqv d (encN p) with
    | true => simp only [andT, t1, c, Bool.not_true]
    | false =>
      have := J c
      rw [hb] at this
      cases this
      simp only [andT, t1, c, Bool.not_false, t2]
  unfold law_b1
  rw [seqF_eq s22]
  exact s23
end
end K13

/-! K13L: the law, to its end. -/
namespace K13
open PySem PD

section
variable {e : Ev} {l a k : Nat} {o : List (Row Nat)} {as : List (Str × Str)} {names : List Str} {i : Nat} {p : Row Nat}
/-- a bent row of three -/
theorem bent3 (P : Pb' e l a k o as names i p) (q : Lb × Int) (hq : q ∈ bents p.2) : ∃ e1 e2, nameG 19 (encN (p.1, q)) e = some e1 ∧ law_b1 e1 = some (.nx, e2) ∧ Pb' e2 l a k o as names i p := by
  have hl := P.pj.hl
  have ha := P.pj.ha
  have al := as_len P.pj.hl P.pj.ha P.pj.pa
  have hi : i < (rws o (n1N (l + 1) (a + 1))).length := (List.getElem?_eq_some_iff.mp P.hp).1
  have ks : ((rws o (n1N (l + 1) (a + 1))).set i (p.1, q)).map (·.1) = n1N (l + 1) (a + 1) := by
    rw [List.map_set, rws_keys]
    refine List.ext_getElem? fun j => ?_
    by_cases c : j = i
    · subst c
      have : (n1N (l + 1) (a + 1))[j]? = some p.1 := by
        have z := congrArg (fun x : List Nat => x[j]?) (rws_keys o (n1N (l + 1) (a + 1)))
        simp only [List.getElem?_map, P.hp, Option.map_some] at z
        exact z.symm
      obtain ⟨h1, h2⟩ := List.getElem?_eq_some_iff.mp this
      rw [List.getElem?_set_self h1, this]
    · rw [List.getElem?_set_ne (Ne.symm c)]
  have J := judge_nm ks (pair0 hl ha).2 (by rw [len1]; omega) P.pj.pn (aset P.pj) (by omega) (has_n hl ha P.pj.hk)
  have es : ((rws o (n1N (l + 1) (a + 1))).set i (p.1, q)).map encN = ((rws o (n1N (l + 1) (a + 1))).map encN).set i (encN (p.1, q)) := List.map_set
  rw [es] at J
  refine bent_turn P (encN (p.1, q)) (by simp [encN, encRow, mR, PyData.plain, PyData.plainAll]) (by simp [encN, encRow, mR, PyData.depth, PyData.depthAll]) (fun ne => ?_) ⟨_, J⟩
  rcases bents_at _ 0 (got_o P.pj).2 i p P.hp q hq with h | h
  · rw [h, eqv_encN] at ne
    simp at ne
  · rw [Nat.zero_add] at h
    rw [J]
    have : (((rws o (n1N (l + 1) (a + 1))).set i (p.1, q)).all fun p_1 => setl ((rws o (n1N (l + 1) (a + 1))).set i (p.1, q)) (attN (AN l a k) p_1.1) p_1.2.1 p_1.2.2) = false := by
      rw [List.all_eq_false]
      exact ⟨(p.1, q), List.mem_set hi _, by simp [h]⟩
    rw [this]
/-- a row that is too short -/
theorem bent2 (P : Pb' e l a k o as names i p) : ∃ e1 e2, nameG 19 (.tuple [.str (nm p.1), .str p.2.1.s]) e = some e1 ∧ law_b1 e1 = some (.nx, e2) ∧ Pb' e2 l a k o as names i p := by
  have hl := P.pj.hl
  have ha := P.pj.ha
  have hi : i < (rws o (n1N (l + 1) (a + 1))).length := (List.getElem?_eq_some_iff.mp P.hp).1
  have lz : (rws o (n1N (l + 1) (a + 1))).length = l + a + 5 := by
    unfold rws
    rw [List.length_map, len1]
  have es : ((rws o (n1N (l + 1) (a + 1))).map encN).set i (.tuple [.str (nm p.1), .str p.2.1.s]) = (((rws o (n1N (l + 1) (a + 1))).map fun q => rowT (mR nm q)).set i [.str (nm p.1), .str p.2.1.s]).map PyData.tuple := by
    rw [List.map_set, List.map_map]
    rfl
  have J := judge_bad (names := names) (as := as) (ts := ((rws o (n1N (l + 1) (a + 1))).map fun q => rowT (mR nm q)).set i [.str (nm p.1), .str p.2.1.s]) (by rw [List.length_set, List.length_map, lz]; omega) (by
    rw [List.all_eq_false]
    exact ⟨[.str (nm p.1), .str p.2.1.s], List.mem_set (by rw [List.length_map]; exact hi) _, by simp⟩)
  rw [← es] at J
  exact bent_turn P _ (by simp [PyData.plain, PyData.plainAll]) (by simp [PyData.depth, PyData.depthAll]) (fun _ => J) ⟨_, J⟩
theorem for1 {B : SF} {e1 e2 : Ev} {v : Nat} {d : D} {ds : List D} (h : nameG v d e = some e1) (k : B e1 = some (.nx, e2)) : forL (nameG v) B (d :: ds) e = forL (nameG v) B ds e2 := by
  simp only [forL, h, k]
theorem flip_s (L : Lb) : lookD (mergeP [] [(.str s_stands, .str s_falls), (.str s_falls, .str s_stands), (.str s_open, .str s_falls)]) (.str L.s) = some (.str (flipL L).s) := by
  cases L <;> rfl
theorem mem_b1 (q : Lb × Int) : (flipL q.1, q.2) ∈ bents q := by simp [bents]
theorem mem_b2 (q : Lb × Int) : (Lb.op, (-1 : Int)) ∈ bents q := by simp [bents]
theorem mem_b3 (q : Lb × Int) : (q.1, if q.1 = .op then (0 : Int) else -1) ∈ bents q := by simp [bents]
theorem stmt24 (P : Pb' e l a k o as names i p) : ∃ e', law_s24 e = some (.nx, e') ∧ Pb' e' l a k o as names i p := by
  have a20 : e[20]? = some (some (.str (nm p.1), .sh)) := P.a20
  have a21 : e[21]? = some (some (.str p.2.1.s, .sh)) := P.a21
  have a22 : e[22]? = some (some (.int p.2.2, .sh)) := P.a22
  have dsp : dispF [(cF (.str s_stands), cF (.str s_falls)), (cF (.str s_falls), cF (.str s_stands)), (cF (.str s_open), cF (.str s_falls))] e = some (.dict (mergeP [] [(.str s_stands, .str s_falls), (.str s_falls, .str s_stands), (.str s_open, .str s_falls)]), true, e) := rfl
  have ix : ixD (.dict (mergeP [] [(.str s_stands, .str s_falls), (.str s_falls, .str s_stands), (.str s_open, .str s_falls)])) (.str p.2.1.s) = some (.str (flipL p.2.1).s, false) := by
    simp only [ixD, keyD, flip_s]
  have r1 : opFA (consO (ofE (varE 20)) (consO (ofE (opF (consO (ofE (dispF [(cF (.str s_stands), cF (.str s_falls)), (cF (.str s_falls), cF (.str s_stands)), (cF (.str s_open), cF (.str s_falls))])) (consO (varO 21) nilO)) (PD.g2 ixD))) (consO (ofE (varE 22)) (nilO)))) tupD e = some (encN (p.1, flipL p.2.1, p.2.2), false, e) := opFA_eq (consO_eq (ofE_eq (varE_sh P.a20)) (consO_eq (ofE_eq (opF_eq (consO_eq (ofE_eq dsp) (consO_eq (varO_at P.a21) nilO_eq)) (derefs_cons deref_val (derefs_cons (deref_at P.a21) derefs_nil)) ix)) (consO_eq (ofE_eq (varE_sh P.a22)) nilO_eq))) rfl (derefs_cons deref_val (derefs_cons deref_val (derefs_cons deref_val derefs_nil))) (tupD_eq (show (3 : Nat) < 64 by decide))
  have r2 : opFA (consO (ofE (varE 20)) (consO (ofE (cF (.str s_open))) (consO (ofE (opF (consO (ofE (cF (.int 1))) nilO) (PD.g1 negD))) (nilO)))) tupD e = some (encN (p.1, .op, -1), false, e) := opFA_eq (consO_eq (ofE_eq (varE_sh P.a20)) (consO_eq (ofE_eq cF_eq) (consO_eq (ofE_eq (d := .int (-1)) (fr := false) rfl) nilO_eq))) rfl (derefs_cons deref_val (derefs_cons deref_val (derefs_cons deref_val derefs_nil))) (tupD_eq (show (3 : Nat) < 64 by decide))
  have c3 : tstF (opF (consO (varO 21) (consO (ofE (cF (.str s_open))) nilO)) (PD.g2 neD)) e = some (!decide (p.2.1 = .op), e) := tstF_eq (opF_eq (consO_eq (varO_at P.a21) (consO_eq (ofE_eq cF_eq) nilO_eq)) (derefs_cons (deref_at P.a21) (derefs_cons deref_val derefs_nil)) (by
    show neD (.str p.2.1.s) (.str s_open) = _
    have : decide (p.2.1.s = s_open) = decide (p.2.1 = .op) := by
      rw [decide_eq_decide]
      exact lb_inj (b := .op)
    unfold neD
    rw [eqv_str, this]
    rfl))
  have v3 : iteE (tstF (opF (consO (varO 21) (consO (ofE (cF (.str s_open))) nilO)) (PD.g2 neD))) (opF (consO (ofE (cF (.int 1))) nilO) (PD.g1 negD)) (cF (.int 0)) e = some (.int (if p.2.1 = .op then 0 else -1), false, e) := by
    by_cases c : p.2.1 = .op
    · simp only [iteE, c3, c, decide_true, Bool.not_true, cF, if_true]
    · simp only [iteE, c3, c, decide_false, Bool.not_false, if_false]
      rfl
  have r3 : opFA (consO (ofE (varE 20)) (consO (ofE (varE 21)) (consO (ofE (iteE (tstF (opF (consO (varO 21) (consO (ofE (cF (.str s_open))) nilO)) (PD.g2 neD))) (opF (consO (ofE (cF (.int 1))) nilO) (PD.g1 negD)) (cF (.int 0)))) (nilO)))) tupD e = some (encN (p.1, p.2.1, if p.2.1 = .op then 0 else -1), false, e) := opFA_eq (consO_eq (ofE_eq (varE_sh P.a20)) (consO_eq (ofE_eq (varE_sh P.a21)) (consO_eq (ofE_eq v3) nilO_eq))) rfl (derefs_cons deref_val (derefs_cons deref_val (derefs_cons deref_val derefs_nil))) (tupD_eq (show (3 : Nat) < 64 by decide))
  have r4 : opFA (consO (ofE (varE 20)) (consO (ofE (varE 21)) (nilO))) tupD e = some (.tuple [.str (nm p.1), .str p.2.1.s], false, e) := opFA_eq (consO_eq (ofE_eq (varE_sh P.a20)) (consO_eq (ofE_eq (varE_sh P.a21)) nilO_eq)) rfl (derefs_cons deref_val (derefs_cons deref_val derefs_nil)) (tupD_eq (show (2 : Nat) < 64 by decide))
  have sq := seqI_list (opFA_eq (g := lstD) (consO_eq (ofE_eq r1) (consO_eq (ofE_eq r2) (consO_eq (ofE_eq r3) (consO_eq (ofE_eq r4) nilO_eq)))) rfl (derefs_cons deref_val (derefs_cons deref_val (derefs_cons deref_val (derefs_cons deref_val derefs_nil)))) (lstD_eq (show (4 : Nat) < 64 by decide)))
  obtain ⟨x1, y1, h1, k1, P1⟩ := bent3 P _ (mem_b1 p.2)
  obtain ⟨x2, y2, h2, k2, P2⟩ := bent3 P1 _ (mem_b2 p.2)
  obtain ⟨x3, y3, h3, k3, P3⟩ := bent3 P2 _ (mem_b3 p.2)
  obtain ⟨x4, y4, h4, k4, P4⟩ := bent2 P3
  refine ⟨y4, ?_, P4⟩
  unfold law_s24 forF
  rw [sq]
  show forL (nameG 19) law_b1 [encN (p.1, flipL p.2.1, p.2.2), encN (p.1, .op, -1), encN (p.1, p.2.1, if p.2.1 = .op then 0 else -1), .tuple [.str (nm p.1), .str p.2.1.s]] e = _
  rw [for1 h1 k1, for1 h2 k2, for1 h3 k3, for1 h4 k4]
  rfl
theorem trip3 {e : Ev} (F : Fx e) (a b c : D) : ∃ e', tupG 3 (consG (nameG 20) (consG (nameG 21) (consG (nameG 22) nilG))) (.tuple [a, b, c]) e = some e' ∧ Fx e' ∧ At e' 20 a .sh ∧ At e' 21 b .sh ∧ At e' 22 c .sh ∧ Only [20, 21, 22] e e' := by
  have F1 : Fx (e.set 20 (some (a, .sh))) := F.put (by decide) (by decide) (fun z => nomatch z)
  have F2 : Fx ((e.set 20 (some (a, .sh))).set 21 (some (b, .sh))) := F1.put (by decide) (by decide) (fun z => nomatch z)
  refine ⟨((e.set 20 (some (a, .sh))).set 21 (some (b, .sh))).set 22 (some (c, .sh)), ?_, F2.put (by decide) (by decide) (fun z => nomatch z), ?_, ?_, set_at (by rw [F2.len]; decide), fun j hj => ?_⟩
  · simp [tupG, consG, nameG, nilG, F.setv a false (show 20 < 24 by decide), F1.setv b false (show 21 < 24 by decide), F2.setv c false (show 22 < 24 by decide)]
  · exact (set_ne (by decide)).trans ((set_ne (by decide)).trans (set_at (by rw [F.len]; decide)))
  · exact (set_ne (by decide)).trans (set_at (by rw [F1.len]; decide))
  · simp only [List.mem_cons, List.not_mem_nil, or_false, not_or] at hj
    rw [set_ne hj.2.2, set_ne hj.2.1, set_ne hj.1]
theorem body2 (P : Pj e l a k o as names) : ∃ e', law_b2 e = some (.nx, e') ∧ Pj e' l a k o as names := by
  have hl := P.hl
  have ha := P.ha
  have lz : ((rws o (n1N (l + 1) (a + 1))).map encN).length = l + a + 5 := by
    unfold rws
    rw [List.length_map, List.length_map, len1]
  have x0 : opF (consO (varO 10) (nilO)) (PD.g1 lenD) e = some (.int ((l + a + 5 : Nat) : Int), false, e) := opF_eq (consO_eq (varO_at P.a10) nilO_eq) (derefs_cons (deref_at P.a10) derefs_nil) (by
    show lenD (.tuple _) = _
    simp only [lenD, lz])
  obtain ⟨v, e1, v0, v1, h1, F1, o1⟩ := draw P.fx (ofE_eq x0) (by omega) (by omega)
  obtain ⟨i, rfl⟩ : ∃ i : Nat, v = (i : Int) := ⟨v.toNat, by omega⟩
  have s20 : law_s20 e = some (.nx, e1.set 18 (some (.int (i : Int), .sh))) := setF_eq h1 (F1.setv _ false (by decide))
  have F2 : Fx (e1.set 18 (some (.int (i : Int), .sh))) := F1.put (by decide) (by decide) (fun z => nomatch z)
  have P2 : Pj (e1.set 18 (some (.int (i : Int), .sh))) l a k o as names := P.keep F2 (Only.trans (us := [1, 18]) o1 only_set fun j hj => ⟨fun z => hj (by rw [List.mem_singleton.mp z]; simp), fun z => hj (by rw [List.mem_singleton.mp z]; simp)⟩) (by decide)
  have b18 : At (e1.set 18 (some (.int (i : Int), .sh))) 18 (.int (i : Int)) .sh := set_at (by rw [F1.len]; decide)
  generalize e1.set 18 (some (.int (i : Int), .sh)) = e2 at *
  have hi : i < (rws o (n1N (l + 1) (a + 1))).length := by
    rw [List.length_map] at lz
    omega
  have hp : (rws o (n1N (l + 1) (a + 1)))[i]? = some (rws o (n1N (l + 1) (a + 1)))[i] := List.getElem?_eq_getElem hi
  generalize (rws o (n1N (l + 1) (a + 1)))[i] = p at hp
  have hat : ((rws o (n1N (l + 1) (a + 1))).map encN)[i]? = some (encN p) := by rw [List.getElem?_map, hp]; rfl
  have z1 : opF (consO (varO 10) (consO (varO 18) nilO)) (PD.g2 ixD) e2 = some (encN p, false, e2) := opF_eq (consO_eq (varO_at P2.a10) (consO_eq (varO_at b18) nilO_eq)) (derefs_cons (deref_at P2.a10) (derefs_cons (deref_at b18) derefs_nil)) (by
    show ixD (.tuple _) (.int (i : Int)) = _
    simp only [ixD, L2.atI_nat hat])
  obtain ⟨e3, h3, F3, b20, b21, b22, o3⟩ := trip3 F2 (.str (nm p.1)) (.str p.2.1.s) (.int p.2.2)
  have s21 : law_s21 e2 = some (.nx, e3) := asgF_eq z1 h3
  have PB : Pb' e3 l a k o as names i p := ⟨P2.keep F3 o3 (by decide), (o3 18 (by decide)).trans b18, b20, b21, b22, hp⟩
  obtain ⟨e4, s24, PB4⟩ := stmt24 PB
  refine ⟨e4, ?_, PB4.pj⟩
  unfold law_b2
  rw [seqF_eq s20, seqF_eq s21]
  exact s24
end
end K13

/-! K13M: the law answers True. -/
namespace K13
open PySem PD

theorem chk_rev : ((List.range 8).all fun l => (List.range 6).all fun a => decide ((n1N (l + 1) (a + 1)).reverse ≠ n1N (l + 1) (a + 1))) = true := by decide +kernel
theorem rev_ne {l a : Nat} (hl : l < 8) (ha : a < 6) : (n1N (l + 1) (a + 1)).reverse ≠ n1N (l + 1) (a + 1) := of_decide_eq_true (List.all_eq_true.mp (List.all_eq_true.mp chk_rev l (List.mem_range.mpr hl)) a (List.mem_range.mpr ha))
theorem rng3 {e : Ev} : rngI (consO (ofE (cF (.int 3))) (nilO)) e = some (rngL 0 3, e) := by
  have x : consO (ofE (cF (.int 3))) nilO e = some ([.val (.int 3)], e) := consO_eq (ofE_eq cF_eq) nilO_eq
  have d : derefs e [.val (.int 3)] = some [.int 3] := derefs_cons deref_val derefs_nil
  simp only [rngI, x, d]
  rfl
section
variable {e : Ev} {l a k : Nat} {o : List (Row Nat)} {as : List (Str × Str)} {names : List Str}
theorem stmt25 (P : Pj e l a k o as names) : ∃ e', law_s25 e = some (.nx, e') ∧ Pj e' l a k o as names := by
  obtain ⟨e', h1, h2⟩ := forL_inv (g := nameG 11) (B := law_b2) (fun (_ : Unit) e => Pj e l a k o as names) (fun _ _ => ()) (rngL 0 3) () e (fun _ e d _ P => by
    obtain ⟨e2, h, P2⟩ := body2 (P.keep (P.fx.put (i := 11) (d := d) (o := .sh) (by decide) (by decide) (fun z => nomatch z)) only_set (by decide))
    exact ⟨_, e2, P.fx.setv d false (by decide), .inl h, P2⟩) P
  refine ⟨e', ?_, h2⟩
  unfold law_s25 forF
  rw [rng3]
  exact h1
theorem stmt26 (P : Pj e l a k o as names) : law_s26 e = some (.nx, e) := by
  have hl := P.hl
  have ha := P.ha
  have lz : (rws o (n1N (l + 1) (a + 1))).length = l + a + 5 := by
    unfold rws
    rw [List.length_map, len1]
  have x1 : slF (varO 10) (some (cF (.int 1))) none sliceD e = some (.tuple (((rws o (n1N (l + 1) (a + 1))).drop 1).map encN), false, e) := by
    have q : sliceD (.tuple ((rws o (n1N (l + 1) (a + 1))).map encN)) (some 1) none = some (.tuple (((rws o (n1N (l + 1) (a + 1))).drop 1).map encN), false) := by
      show some (PyData.tuple (cutD ((rws o (n1N (l + 1) (a + 1))).map encN) (some ((1 : Nat) : Int)) none), false) = _
      rw [cut_from, List.map_drop]
    simp only [slF, varO_at P.a10, partF, cF, deref_at P.a10, q]
  have J1 := judge_nm_no (names := names) (as := as) (rows := (rws o (n1N (l + 1) (a + 1))).drop 1) (ns := n1N (l + 1) (a + 1)) (by
    rw [List.map_drop, rws_keys]
    intro z
    have := congrArg List.length z
    rw [List.length_drop, len1] at this
    omega) (pair0 hl ha).2 (by rw [len1]; omega) (by rw [List.length_drop, lz]; omega) P.pn
  have c1 := jcall P (ofE_eq x1) deref_val J1
  have t1 : tstF (opF (consO (ofE (callF judge_stands_F [] (consO (varO 9) (consO (varO 8) (consO (ofE (slF (varO 10) (some (cF (.int 1))) none sliceD)) (nilO)))))) (consO (ofE (cF (.bool false))) nilO)) (PD.g2 isntD)) e = some (false, e) := tstF_eq (opF_eq (consO_eq (ofE_eq c1) (consO_eq (ofE_eq cF_eq) nilO_eq)) (derefs_cons deref_val (derefs_cons deref_val derefs_nil)) rfl)
  have x2 : opF (consO (varO 10) nilO) (PD.g1 revD) e = some (.tuple ((rws o (n1N (l + 1) (a + 1))).reverse.map encN), false, e) := opF_eq (consO_eq (varO_at P.a10) nilO_eq) (derefs_cons (deref_at P.a10) derefs_nil) (by
    show revD (.tuple _) = _
    simp only [revD, List.map_reverse])
  have J2 := judge_nm_no (names := names) (as := as) (rows := (rws o (n1N (l + 1) (a + 1))).reverse) (ns := n1N (l + 1) (a + 1)) (by
    rw [List.map_reverse, rws_keys]
    exact rev_ne hl ha) (pair0 hl ha).2 (by rw [len1]; omega) (by rw [List.length_reverse, lz]; omega) P.pn
  have c2 := jcall P (ofE_eq x2) deref_val J2
  have x3 : opF (consO (varO 10) (nilO)) (PD.g1 lenD) e = some (.int ((l + a + 5 : Nat) : Int), false, e) := opF_eq (consO_eq (varO_at P.a10) nilO_eq) (derefs_cons (deref_at P.a10) derefs_nil) (by
    show lenD (.tuple _) = _
    simp only [lenD, List.length_map, lz])
  have x4 : opF (consO (ofE (opF (consO (varO 10) (nilO)) (PD.g1 lenD))) (consO (ofE (cF (.int 2))) nilO)) (PD.g2 ltD) e = some (.bool false, false, e) := opF_eq (consO_eq (ofE_eq x3) (consO_eq (ofE_eq cF_eq) nilO_eq)) (derefs_cons deref_val (derefs_cons deref_val derefs_nil)) (by
    show ltD (.int ((l + a + 5 : Nat) : Int)) (.int 2) = _
    have : decide (((l + a + 5 : Nat) : Int) < 2) = false := decide_eq_false (by omega)
    simp only [ltD, this])
  have t2 : tstF (opF (consO (ofE (callF judge_stands_F [] (consO (varO 9) (consO (varO 8) (consO (ofE (opF (consO (varO 10) nilO) (PD.g1 revD))) (nilO)))))) (consO (ofE (opF (consO (ofE (opF (consO (varO 10) (nilO)) (PD.g1 lenD))) (consO (ofE (cF (.int 2))) nilO)) (PD.g2 ltD))) nilO)) (PD.g2 neD)) e = some (false, e) := tstF_eq (opF_eq (consO_eq (ofE_eq c2) (consO_eq (ofE_eq x4) nilO_eq)) (derefs_cons deref_val (derefs_cons deref_val derefs_nil)) rfl)
  exact (ifF_no (by simp only [orT, t1, t2])).trans rfl
theorem body3 (F : Fx e) : ∃ e', law_b3 e = some (.nx, e') ∧ Fx e' := by
  unfold law_b3
  obtain ⟨e5, l, a, P5, h5⟩ := turn_head F _
  rw [h5]
  obtain ⟨e6, o1, r1, s6, P6, b4, _⟩ := stmt6 P5
  rw [seqF_eq s6, seqF_eq (stmt7 P6 r1 b4)]
  obtain ⟨e8, o2, r2, s8, P8, b5⟩ := stmt8 P6
  rw [seqF_eq s8]
  obtain ⟨e9, s9, P9, b6⟩ := stmt9 P8 b5
  rw [seqF_eq s9]
  obtain ⟨e12, s12, P12, b17, o12⟩ := stmt12 P9
  rw [seqF_eq s12]
  obtain ⟨e13, s13, P13⟩ := stmt13 P12 r2 ((o12 6 (by decide)).trans b6) b17
  rw [seqF_eq s13]
  obtain ⟨e14, o3, r3, s14, P14, b7⟩ := stmt14 P13
  rw [seqF_eq s14, seqF_eq (stmt15 P14 r3 b7)]
  obtain ⟨e16, k, as, hk, pa, s16, P16, b8⟩ := stmt16 P14
  rw [seqF_eq s16]
  obtain ⟨e17, names, pn, s17, P17, c8, b9⟩ := stmt17 P16 b8
  rw [seqF_eq s17]
  obtain ⟨e18, o4, s18, Q18⟩ := stmt18 P17 hk pa pn c8 b9
  rw [seqF_eq s18, seqF_eq (stmt19 Q18)]
  obtain ⟨e25, s25, Q25⟩ := stmt25 Q18
  rw [seqF_eq s25]
  exact ⟨e25, stmt26 Q25, Q25.fx⟩
end
theorem last1 : stands_F [.list [], .list []] = some (.tuple [], false, .none) := by kernel_rfl
theorem last2 : stands_F [.list [.str s_a], .list [.tuple [.str s_a, .str s_a]]] = some (.tuple [.tuple [.str s_a, .str s_open, .int (-1)]], false, .none) := by kernel_rfl
theorem stmt28 (e : Ev) : law_s28 e = some (.rt (.bool true) false, e) := by
  have n0 : opFA nilO lstD e = some (.list [], true, e) := opFA_eq nilO_eq rfl derefs_nil (lstD_eq (show (0 : Nat) < 64 by decide))
  have n1 : opFA nilO tupD e = some (.tuple [], false, e) := opFA_eq nilO_eq rfl derefs_nil (tupD_eq (show (0 : Nat) < 64 by decide))
  have c1 : callF stands_F [] (consO (ofE (opFA (nilO) lstD)) (consO (ofE (opFA (nilO) lstD)) (nilO))) e = some (.tuple [], false, e) := callF_eq (consO_eq (ofE_eq n0) (consO_eq (ofE_eq n0) nilO_eq)) (derefs_cons deref_val (derefs_cons deref_val derefs_nil)) last1 rfl
  have q1 : eqD (.tuple []) (.tuple []) = some (.bool true, false) := rfl
  have m1 : opFA (consO (ofE (cF (.str s_a))) (nilO)) lstD e = some (.list [.str s_a], true, e) := opFA_eq (consO_eq (ofE_eq cF_eq) nilO_eq) rfl (derefs_cons deref_val derefs_nil) (lstD_eq (show (1 : Nat) < 64 by decide))
  have m2 : opFA (consO (ofE (cF (.str s_a))) (consO (ofE (cF (.str s_a))) (nilO))) tupD e = some (.tuple [.str s_a, .str s_a], false, e) := opFA_eq (consO_eq (ofE_eq cF_eq) (consO_eq (ofE_eq cF_eq) nilO_eq)) rfl (derefs_cons deref_val (derefs_cons deref_val derefs_nil)) (tupD_eq (show (2 : Nat) < 64 by decide))
  have m3 := opFA_eq (g := lstD) (consO_eq (ofE_eq m2) nilO_eq) rfl (derefs_cons deref_val derefs_nil) (lstD_eq (show (1 : Nat) < 64 by decide))
  have c2 : callF stands_F [] (consO (ofE (opFA (consO (ofE (cF (.str s_a))) (nilO)) lstD)) (consO (ofE (opFA (consO (ofE (opFA (consO (ofE (cF (.str s_a))) (consO (ofE (cF (.str s_a))) (nilO))) tupD)) (nilO)) lstD)) (nilO))) e = some (.tuple [.tuple [.str s_a, .str s_open, .int (-1)]], false, e) := callF_eq (consO_eq (ofE_eq m1) (consO_eq (ofE_eq m3) nilO_eq)) (derefs_cons deref_val (derefs_cons deref_val derefs_nil)) last2 rfl
  have m4 : opFA (consO (ofE (cF (.str s_a))) (consO (ofE (cF (.str s_open))) (consO (ofE (opF (consO (ofE (cF (.int 1))) nilO) (PD.g1 negD))) (nilO)))) tupD e = some (.tuple [.str s_a, .str s_open, .int (-1)], false, e) := opFA_eq (consO_eq (ofE_eq cF_eq) (consO_eq (ofE_eq cF_eq) (consO_eq (ofE_eq (d := .int (-1)) (fr := false) rfl) nilO_eq))) rfl (derefs_cons deref_val (derefs_cons deref_val (derefs_cons deref_val derefs_nil))) (tupD_eq (show (3 : Nat) < 64 by decide))
  have m5 := opFA_eq (g := tupD) (consO_eq (ofE_eq m4) nilO_eq) rfl (derefs_cons deref_val derefs_nil) (tupD_eq (show (1 : Nat) < 64 by decide))
  have q2 : eqD (.tuple [.tuple [.str s_a, .str s_open, .int (-1)]]) (.tuple [.tuple [.str s_a, .str s_open, .int (-1)]]) = some (.bool true, false) := by kernel_rfl
  have f1 := opF_eq (g := PD.g2 eqD) (consO_eq (ofE_eq c1) (consO_eq (ofE_eq n1) nilO_eq)) (derefs_cons deref_val (derefs_cons deref_val derefs_nil)) q1
  have f2 := opF_eq (g := PD.g2 eqD) (consO_eq (ofE_eq c2) (consO_eq (ofE_eq m5) nilO_eq)) (derefs_cons deref_val (derefs_cons deref_val derefs_nil)) q2
  unfold law_s28 retF andE
  simp only [f1, f2]
theorem law_true (ns : List Int) (h : ns.length ≤ 63) : law_F [.list (ns.map .int)] = some (.bool true, false, .none) := by
  have e0 : argE false [PyData.list (ns.map .int)] ++ List.replicate (24 - [PyData.list (ns.map .int)].length) none = some (.list (ns.map .int), .sh) :: none :: List.replicate 22 none := rfl
  have s1 : law_s1 (some (.list (ns.map .int), .sh) :: none :: List.replicate 22 none) = some (.nx, some (.list (ns.map .int), .sh) :: some (encS ns 0 0 1, .ow) :: List.replicate 22 none) := by
    simp [law_s1, seqF, setF, retF, exprF, ifF, asgF, augF, augS, parF, opF, opFA, consO, nilO, ofE, varO, varE, mvE, cF, derefs, deref, PD.g1, PD.g2, setv, tstF, truF, trueD, andT, orT, notT, andE, orE, notE, iteE, getE, newDF, dispF, dispL, seqI, rngI, callF, callM, frzL, pkS, immD, immL, mutF, noSlot, tyD, slF, partF, nameG, tupG, consG, nilG, subG, wipeE, unw, noOwn, yesT, PyData.plain, PyData.plainAll, PyData.depth, PyData.depthAll, bodyFF, argE, fin0, nxF, retN, forF, tupD, lstD, turnF, listD, size63, encS]
  have F : Fx (some (.list (ns.map .int), .sh) :: some (encS ns 0 0 1, .ow) :: List.replicate 22 none) := by
    have g : ∀ j d o, (some (PyData.list (ns.map .int), Ow.sh) :: some (encS ns 0 0 1, Ow.ow) :: List.replicate 22 none : Ev)[j]? = some (some (d, o)) → (j = 0 ∧ o = .sh) ∨ (j = 1 ∧ o = .ow) := fun j d o h => by
      match j, h with
      | 0, h => cases h; exact .inl ⟨rfl, rfl⟩
      | 1, h => cases h; exact .inr ⟨rfl, rfl⟩
      | j + 2, h =>
        simp only [List.getElem?_cons_succ, List.getElem?_replicate] at h
        split at h <;> cases h
    refine ⟨by simp, fun j d z => ?_, fun j d l u z => ?_, ns, 0, 0, 1, rfl⟩
    · rcases g j d _ z with ⟨_, z⟩ | ⟨_, z⟩ <;> cases z
    · rcases g j d _ z with ⟨z, _⟩ | ⟨z, _⟩ <;> omega
  obtain ⟨e', h1, h2⟩ := forL_inv (g := nameG 2) (B := law_b3) (fun (_ : Unit) e => Fx e) (fun _ _ => ()) (rngL 0 3) () _ (fun _ e d _ F => by
    obtain ⟨e2, h, F2⟩ := body3 (F.put (i := 2) (d := d) (o := .sh) (by decide) (by decide) (fun z => nomatch z))
    exact ⟨_, e2, F.setv d false (by decide), .inl h, F2⟩) F
  have s27 : law_s27 (some (.list (ns.map .int), .sh) :: some (encS ns 0 0 1, .ow) :: List.replicate 22 none) = some (.nx, e') := by
    unfold law_s27 forF
    rw [rng3]
    exact h1
  unfold law_F bodyFF law_B
  rw [e0, seqF_eq s1, seqF_eq s27, stmt28]
  rfl
end K13

/-! K13: the machine does what those say (printed by gen.py). -/
namespace K13
open PySem PySem.Spec PyProof.Rows L2 PD

def topS (i : Nat) : Stmt := PySem.Challenge.pw_chiplore_k13_attacks_along_chains_and_ri.main.body.getD i (.Pass ⟨0, 0, 0, 0⟩)
theorem s_open_eq : (Str.ofString "open") = s_open := by kernel_rfl
theorem s_stands_eq : (Str.ofString "stands") = s_stands := by kernel_rfl
theorem s_falls_eq : (Str.ofString "falls") = s_falls := by kernel_rfl
theorem s__eq : (Str.ofString "") = s_ := by kernel_rfl
theorem s_c_eq : (Str.ofString "c") = s_c := by kernel_rfl
theorem s_r_eq : (Str.ofString "r") = s_r := by kernel_rfl
theorem s_x_eq : (Str.ofString "x") = s_x := by kernel_rfl
theorem s_y_eq : (Str.ofString "y") = s_y := by kernel_rfl
theorem s_z_eq : (Str.ofString "z") = s_z := by kernel_rfl
theorem s_a_eq : (Str.ofString "a") = s_a := by kernel_rfl
abbrev st_attackers : Stmt := topS 2
abbrev st_stands : Stmt := topS 3
abbrev st_is_settled : Stmt := topS 5
abbrev st_judge_stands : Stmt := topS 4
abbrev st__law_next : Stmt := topS 7
abbrev st__law_swapped : Stmt := topS 8
abbrev st__law_labels : Stmt := topS 9
abbrev st__law_chain : Stmt := topS 10
abbrev st__law_known_chain : Stmt := topS 11
abbrev st_law : Stmt := topS 12
abbrev N_attackers : List Str := ["attacks", "name", "one", "other"]
theorem sc_attackers : FnScope N_attackers ["attacks", "name"] (defScope st_attackers) := ⟨rfl, rfl, rfl, by decide +kernel, rfl, by decide +kernel, by decide +kernel⟩
abbrev N_stands : List Str := ["names", "attacks", "found", "rank", "grown", "fresh", "name", "others", "other"]
theorem sc_stands : FnScope N_stands ["names", "attacks"] (defScope st_stands) := ⟨rfl, rfl, rfl, by decide +kernel, rfl, by decide +kernel, by decide +kernel⟩
abbrev N_is_settled : List Str := ["known", "others", "told", "labels", "label", "rank", "other"]
theorem sc_is_settled : FnScope N_is_settled ["known", "others", "told"] (defScope st_is_settled) := ⟨rfl, rfl, rfl, by decide +kernel, rfl, by decide +kernel, by decide +kernel⟩
abbrev N_judge_stands : List Str := ["names", "attacks", "told", "known", "name", "label", "rank", "entry", "_"]
theorem sc_judge_stands : FnScope N_judge_stands ["names", "attacks", "told"] (defScope st_judge_stands) := ⟨rfl, rfl, rfl, by decide +kernel, rfl, by decide +kernel, by decide +kernel⟩
abbrev N__law_next : List Str := ["state", "limit", "cell", "value"]
theorem sc__law_next : FnScope N__law_next ["state", "limit"] (defScope st__law_next) := ⟨rfl, rfl, rfl, by decide +kernel, rfl, by decide +kernel, by decide +kernel⟩
abbrev N__law_swapped : List Str := ["state", "rows", "left", "found"]
theorem sc__law_swapped : FnScope N__law_swapped ["state", "rows"] (defScope st__law_swapped) := ⟨rfl, rfl, rfl, by decide +kernel, rfl, by decide +kernel, by decide +kernel⟩
abbrev N__law_labels : List Str := ["names", "attacks", "labels", "turn", "fresh", "name", "by", "one", "other"]
theorem sc__law_labels : FnScope N__law_labels ["names", "attacks"] (defScope st__law_labels) := ⟨rfl, rfl, rfl, by decide +kernel, rfl, by decide +kernel, by decide +kernel⟩
abbrev N__law_chain : List Str := ["start", "count", "names", "at"]
theorem sc__law_chain : FnScope N__law_chain ["start", "count"] (defScope st__law_chain) := ⟨rfl, rfl, rfl, by decide +kernel, rfl, by decide +kernel, by decide +kernel⟩
abbrev N__law_known_chain : List Str := ["start", "count", "at"]
theorem sc__law_known_chain : FnScope N__law_known_chain ["start", "count"] (defScope st__law_known_chain) := ⟨rfl, rfl, rfl, by decide +kernel, rfl, by decide +kernel, by decide +kernel⟩
abbrev N_law : List Str := ["script", "state", "turn", "steps", "alone", "into", "known", "out", "attacks", "names", "told", "k", "long", "around", "chain", "links", "ring", "due", "at", "row", "name", "label", "rank", "bent"]
theorem sc_law : FnScope N_law ["script"] (defScope st_law) := ⟨rfl, rfl, rfl, by decide +kernel, rfl, by decide +kernel, by decide +kernel⟩
section
variable {P : Program} {w : World} {K : PySem.W.Frag} {mg : Str → Option Value} {base : Heap}
set_option maxHeartbeats 4000000 in
theorem ok_attackers {f : Addr} {fd : FuncData} (F : Fun K "attackers" "attackers" st_attackers f fd) (m_set : mg "set" = none) (m_sorted : mg "sorted" = none) : FnOk P w K mg base CX0 1 f fd ["attacks", "name"] (spF K false 2 attackers_F) :=
  fn_ok (k := 0) (b := false) (B := attackers_B) F sc_attackers fun cdv A outer s H E hr => by
  have hu := hr.units
  have nd := sc_attackers.nd
  exact ss_one (ss_ret (se_sortedSet rfl (by rfl) m_sorted (by rfl) m_set (so_of (se_lc rfl nd (si_seq (se_var 0)) (own := [("one", 2), ("other", 3)]) (blkOk_by (by with_unfolding_all rfl)) (by decide) (fun _ _ _ _ _ => sg_tup rfl (sgs_cons (sg_name nd rfl (by first | exact .inl rfl | exact .inr rfl)) (sgs_cons (sg_name nd rfl (by first | exact .inl rfl | exact .inr rfl)) (sgs_nil)))) (fun _ _ _ _ _ => sts_one (st_cmp (or_eq hu) (so_var 3) (so_var 1) (by rfl))) (fun _ _ _ _ _ => se_var 2)))))
set_option maxHeartbeats 4000000 in
theorem ok_stands {f : Addr} {fd : FuncData} (F : Fun K "stands" "stands" st_stands f fd) (h_attackers : Fn P w K mg base 1 "attackers" false 2 attackers_F) (m_len : mg "len" = none) (m_sorted : mg "sorted" = none) (m_tuple : mg "tuple" = none) : FnOk P w K mg base CX0 2 f fd ["names", "attacks"] (spF K false 2 stands_F) :=
  fn_ok (k := 1) (b := false) (B := stands_B) F sc_stands fun cdv A outer s H E hr => by
  have hu := hr.units
  have nd := sc_stands.nd
  exact ss_cons (ss_set nd rfl (by first | exact .inl rfl | exact .inr rfl) (se_new))
    (ss_cons (ss_set nd rfl (by first | exact .inl rfl | exact .inr rfl) (se_int))
    (ss_cons (ss_set nd rfl (by first | exact .inl rfl | exact .inr rfl) (se_bl))
    (ss_cons (ss_while 64 PassesOwn.never (st_truth (so_var 4)) (ss_cons (ss_set nd rfl (by first | exact .inl rfl | exact .inr rfl) (se_new))
    (ss_cons (ss_for PassesOwn.never rfl (si_seq (se_callB cr_sort (by rfl) m_sorted (by kernel_rfl) (sol_cons (so_var 0) (sol_nil)))) (sg_name nd rfl (by first | exact .inl rfl | exact .inr rfl)) (ss_cons (ss_setLc rfl nd rfl rfl (by rfl) (si_seq (se_call (h_attackers.kn (hr.mono (by omega))) (by rfl) (sol_cons (so_var 1) (sol_cons (so_var 6) (sol_nil))) (len_cons (len_cons (len_nil))) rfl)) (own := [("other", 8)]) (blkOk_by (by with_unfolding_all rfl)) (by decide) (fun _ _ _ _ _ => sg_name nd rfl (by first | exact .inl rfl | exact .inr rfl)) (fun _ _ _ _ _ => sts_nil) (fun _ _ _ _ _ => se_ix hu (so_of (se_get hu (so_var 2) (so_var 8) (se_tup (sol_cons (so_of ((se_str s_open_eq))) (sol_cons (so_of (se_un ur_neg (so_of (se_int)))) (sol_nil)))))) (so_of (se_int)) (fun _ _ => rfl)))
    (ss_one (ss_if (st_w (sw_and (st_cmp (or_nin hu) (so_var 6) (so_var 2) (by rfl)) (sw_and1 (st_cmp (or_in hu) (so_of ((se_str s_stands_eq))) (so_var 7) (by rfl))))) (ss_one (ss_asg (se_tup (sol_cons (so_of ((se_str s_falls_eq))) (sol_cons (so_of (se_var 3)) (sol_nil)))) (sg_sub hu (so_var 5) (so_var 6)))) (ss_one (ss_if (st_w (sw_and (st_cmp (or_nin hu) (so_var 6) (so_var 2) (by rfl)) (sw_and (st_cmp (or_nin hu) (so_of ((se_str s_stands_eq))) (so_var 7) (by rfl)) (sw_and1 (st_cmp (or_nin hu) (so_of ((se_str s_open_eq))) (so_var 7) (by rfl)))))) (ss_one (ss_asg (se_tup (sol_cons (so_of ((se_str s_stands_eq))) (sol_cons (so_of (se_var 3)) (sol_nil)))) (sg_sub hu (so_var 5) (so_var 6)))) (ss_nil)))))))
    (ss_cons (ss_expr (se_mut (.inr rfl) PySem.F.plainAttrs_dict PySem.F.slot_dict_update PySem.F.type_dict_update mr_update (so_var 2) (sol_cons (so_var 5) (sol_nil))))
    (ss_cons (ss_aug (i := 3) nd rfl (by first | exact .inl rfl | exact .inr rfl) (so_of (se_int)) pip_add io_add)
    (ss_one (ss_set nd rfl (by first | exact .inl rfl | exact .inr rfl) (se_cmp (or_gt) (so_of (se_callB cr_len (by rfl) m_len (by kernel_rfl) (sol_cons (so_var 5) (sol_nil)))) (so_of (se_int)) (by rfl)))))))))
    (ss_one (ss_ret (se_callTy cr_tuple (by rfl) m_tuple (by kernel_rfl) (sol_cons (so_of (se_lc rfl nd (si_seq (se_callB cr_sort (by rfl) m_sorted (by kernel_rfl) (sol_cons (so_var 0) (sol_nil)))) (own := [("name", 6)]) (blkOk_by (by with_unfolding_all rfl)) (by decide) (fun _ _ _ _ _ => sg_name nd rfl (by first | exact .inl rfl | exact .inr rfl)) (fun _ _ _ _ _ => sts_nil) (fun _ _ _ _ _ => se_bin (or_add) (so_of (se_tup (sol_cons (so_of (se_var 6)) (sol_nil)))) (so_of (se_get hu (so_var 2) (so_var 6) (se_tup (sol_cons (so_of ((se_str s_open_eq))) (sol_cons (so_of (se_un ur_neg (so_of (se_int)))) (sol_nil))))))))) (sol_nil))))))))
set_option maxHeartbeats 4000000 in
theorem ok_is_settled {f : Addr} {fd : FuncData} (F : Fun K "is_settled" "is_settled" st_is_settled f fd) : FnOk P w K mg base CX0 1 f fd ["known", "others", "told"] (spF K false 3 is_settled_F) :=
  fn_ok (k := 0) (b := false) (B := is_settled_B) F sc_is_settled fun cdv A outer s H E hr => by
  have hu := hr.units
  have nd := sc_is_settled.nd
  exact ss_cons (ss_asg (se_var 2) (sg_tup rfl (sgs_cons (sg_name nd rfl (by first | exact .inl rfl | exact .inr rfl)) (sgs_cons (sg_name nd rfl (by first | exact .inl rfl | exact .inr rfl)) (sgs_nil)))))
    (ss_cons (ss_setLc rfl nd rfl rfl (by rfl) (si_seq (se_var 1)) (own := [("other", 6)]) (blkOk_by (by with_unfolding_all rfl)) (by decide) (fun _ _ _ _ _ => sg_name nd rfl (by first | exact .inl rfl | exact .inr rfl)) (fun _ _ _ _ _ => sts_nil) (fun _ _ _ _ _ => se_ix hu (so_of (se_ix hu (so_var 0) (so_var 6) (fun _ _ => rfl))) (so_of (se_int)) (fun _ _ => rfl)))
    (ss_cons (ss_if (st_cmp (or_eq hu) (so_var 4) (so_of ((se_str s_stands_eq))) (by rfl)) (ss_one (ss_ret (se_and (se_cmp (or_ge) (so_var 5) (so_of (se_int)) (by rfl)) (se_one (se_cmp (or_nin hu) (so_of (se_bl)) (so_of (se_lc rfl nd (si_seq (se_var 1)) (own := [("other", 6)]) (blkOk_by (by with_unfolding_all rfl)) (by decide) (fun _ _ _ _ _ => sg_name nd rfl (by first | exact .inl rfl | exact .inr rfl)) (fun _ _ _ _ _ => sts_nil) (fun _ _ _ _ _ => se_and (se_cmp (or_eq hu) (so_of (se_ix hu (so_of (se_ix hu (so_var 0) (so_var 6) (fun _ _ => rfl))) (so_of (se_int)) (fun _ _ => rfl))) (so_of ((se_str s_falls_eq))) (by rfl)) (se_one (se_cmp (or_lt) (so_of (se_ix hu (so_of (se_ix hu (so_var 0) (so_var 6) (fun _ _ => rfl))) (so_of (se_int)) (fun _ _ => rfl))) (so_var 5) (by rfl)))))) (by rfl)))))) (ss_nil))
    (ss_cons (ss_if (st_cmp (or_eq hu) (so_var 4) (so_of ((se_str s_falls_eq))) (by rfl)) (ss_one (ss_ret (se_and (se_cmp (or_ge) (so_var 5) (so_of (se_int)) (by rfl)) (se_one (se_cmp (or_in hu) (so_of (se_bl)) (so_of (se_lc rfl nd (si_seq (se_var 1)) (own := [("other", 6)]) (blkOk_by (by with_unfolding_all rfl)) (by decide) (fun _ _ _ _ _ => sg_name nd rfl (by first | exact .inl rfl | exact .inr rfl)) (fun _ _ _ _ _ => sts_nil) (fun _ _ _ _ _ => se_and (se_cmp (or_eq hu) (so_of (se_ix hu (so_of (se_ix hu (so_var 0) (so_var 6) (fun _ _ => rfl))) (so_of (se_int)) (fun _ _ => rfl))) (so_of ((se_str s_stands_eq))) (by rfl)) (se_one (se_cmp (or_lt) (so_of (se_ix hu (so_of (se_ix hu (so_var 0) (so_var 6) (fun _ _ => rfl))) (so_of (se_int)) (fun _ _ => rfl))) (so_var 5) (by rfl)))))) (by rfl)))))) (ss_nil))
    (ss_one (ss_ret (se_and (se_cmp (or_eq hu) (so_var 5) (so_of (se_un ur_neg (so_of (se_int)))) (by rfl)) (se_and (se_cmp (or_nin hu) (so_of ((se_str s_stands_eq))) (so_var 3) (by rfl)) (se_one (se_cmp (or_in hu) (so_of ((se_str s_open_eq))) (so_var 3) (by rfl))))))))))
set_option maxHeartbeats 4000000 in
theorem ok_judge_stands {f : Addr} {fd : FuncData} (F : Fun K "judge_stands" "judge_stands" st_judge_stands f fd) (h_is_settled : Fn P w K mg base 1 "is_settled" false 3 is_settled_F) (h_attackers : Fn P w K mg base 1 "attackers" false 2 attackers_F) (k_LABELS : KgM K mg "LABELS" c_LABELS) (m_bool : mg "bool" = none) (m_int : mg "int" = none) (m_isinstance : mg "isinstance" = none) (m_len : mg "len" = none) (m_sorted : mg "sorted" = none) (m_tuple : mg "tuple" = none) : FnOk P w K mg base CX0 2 f fd ["names", "attacks", "told"] (spF K false 3 judge_stands_F) :=
  fn_ok (k := 1) (b := false) (B := judge_stands_B) F sc_judge_stands fun cdv A outer s H E hr => by
  have hu := hr.units
  have nd := sc_judge_stands.nd
  exact ss_cons (ss_if (st_w (sw_or (st_not (st_truth (so_of (se_isi .tuple (so_var 2) (by rfl) m_isinstance (by rfl) m_tuple (by kernel_rfl))))) (sw_or1 (st_cmp (or_in hu) (so_of (se_bl)) (so_of (se_lc rfl nd (si_seq (se_var 2)) (own := [("entry", 7)]) (blkOk_by (by with_unfolding_all rfl)) (by decide) (fun _ _ _ _ _ => sg_name nd rfl (by first | exact .inl rfl | exact .inr rfl)) (fun _ _ _ _ _ => sts_nil) (fun _ _ _ _ _ => se_and (se_isi .tuple (so_var 7) (by rfl) m_isinstance (by rfl) m_tuple (by kernel_rfl)) (se_one (se_cmp (or_eq hu) (so_of (se_callB cr_len (by rfl) m_len (by kernel_rfl) (sol_cons (so_var 7) (sol_nil)))) (so_of (se_int)) (by rfl)))))) (by rfl))))) (ss_one (ss_ret (se_bl))) (ss_nil))
    (ss_cons (ss_if (st_cmp (or_ne hu) (so_of (se_lc rfl nd (si_seq (se_var 2)) (own := [("name", 4), ("_", 8)]) (blkOk_by (by with_unfolding_all rfl)) (by decide) (fun _ _ _ _ _ => sg_tup rfl (sgs_cons (sg_name nd rfl (by first | exact .inl rfl | exact .inr rfl)) (sgs_cons (sg_name nd rfl (by first | exact .inl rfl | exact .inr rfl)) (sgs_cons (sg_name nd rfl (by first | exact .inl rfl | exact .inr rfl)) (sgs_nil))))) (fun _ _ _ _ _ => sts_nil) (fun _ _ _ _ _ => se_var 4))) (so_of (se_callB cr_sort (by rfl) m_sorted (by kernel_rfl) (sol_cons (so_var 0) (sol_nil)))) (by rfl)) (ss_one (ss_ret (se_bl))) (ss_nil))
    (ss_cons (ss_set nd rfl (by first | exact .inl rfl | exact .inr rfl) (se_new))
    (ss_cons (ss_for PassesOwn.never rfl (si_seq (se_var 2)) (sg_tup rfl (sgs_cons (sg_name nd rfl (by first | exact .inl rfl | exact .inr rfl)) (sgs_cons (sg_name nd rfl (by first | exact .inl rfl | exact .inr rfl)) (sgs_cons (sg_name nd rfl (by first | exact .inl rfl | exact .inr rfl)) (sgs_nil))))) (ss_cons (ss_if (st_w (sw_or (st_cmp (or_nin hu) (so_var 5) (so_of (se_glob ⟨k_LABELS.ex⟩ (by rfl))) (by rfl)) (sw_or (st_not (st_truth (so_of (se_isi .int (so_var 6) (by rfl) m_isinstance (by rfl) m_int (by kernel_rfl))))) (sw_or1 (st_truth (so_of (se_isi .bool (so_var 6) (by rfl) m_isinstance (by rfl) m_bool (by kernel_rfl)))))))) (ss_one (ss_ret (se_bl))) (ss_nil))
    (ss_one (ss_asg (se_tup (sol_cons (so_of (se_var 5)) (sol_cons (so_of (se_var 6)) (sol_nil)))) (sg_sub hu (so_var 3) (so_var 4))))))
    (ss_one (ss_ret (se_cmp (or_nin hu) (so_of (se_bl)) (so_of (se_lcD jd_keys rfl nd (sik_keys 3) (own := [("name", 4)]) (blkOk_by (by with_unfolding_all rfl)) (by decide) (fun _ _ _ _ _ => sg_name nd rfl (by first | exact .inl rfl | exact .inr rfl)) (fun _ _ _ _ _ => sts_nil) (fun _ _ _ _ _ => se_call (h_is_settled.kn (hr.mono (by omega))) (by rfl) (sol_cons (so_var 3) (sol_cons (so_of (se_call (h_attackers.kn (hr.mono (by omega))) (by rfl) (sol_cons (so_var 1) (sol_cons (so_var 4) (sol_nil))) (len_cons (len_cons (len_nil))) rfl)) (sol_cons (so_of (se_ix hu (so_var 3) (so_var 4) (fun _ _ => rfl))) (sol_nil)))) (len_cons (len_cons (len_cons (len_nil)))) rfl))) (by rfl)))))))
set_option maxHeartbeats 4000000 in
theorem ok__law_next {f : Addr} {fd : FuncData} (F : Fun K "_law_next" "_law_next" st__law_next f fd) (m_int : mg "int" = none) (m_len : mg "len" = none) : FnOk P w K mg base CX0 1 f fd ["state", "limit"] (spF K true 2 _law_next_F) :=
  fn_ok (k := 0) (b := true) (B := _law_next_B) F sc__law_next fun cdv A outer s H E hr => by
  have hu := hr.units
  have nd := sc__law_next.nd
  exact ss_cons (ss_if (st_w (sw_and (st_cmp (or_eq hu) (so_of (se_ix hu (so_var 0) (so_of (se_int)) (fun _ _ => rfl))) (so_of (se_int)) (by rfl)) (sw_and1 (st_cmp (or_lt) (so_of (se_ix hu (so_var 0) (so_of (se_int)) (fun _ _ => rfl))) (so_of (se_callB cr_len (by rfl) m_len (by kernel_rfl) (sol_cons (so_of (se_ix hu (so_var 0) (so_of (se_int)) (fun _ _ => rfl))) (sol_nil)))) (by rfl))))) (ss_cons (ss_set nd rfl (by first | exact .inl rfl | exact .inr rfl) (se_ix hu (so_of (se_ix hu (so_var 0) (so_of (se_int)) (fun _ _ => rfl))) (so_of (se_ix hu (so_var 0) (so_of (se_int)) (fun _ _ => rfl))) (fun _ _ => rfl)))
    (ss_cons (ss_augS hu (so_var 0) (so_of (se_int)) (so_of (se_int)) pip_add io_add)
    (ss_one (ss_if (st_cmp (or_ge) (so_var 2) (so_of (se_bin (or_pow) (so_of (se_int)) (so_of (se_int)))) (by rfl)) (ss_one (ss_asg (se_var 2) (sg_sub hu (so_var 0) (so_of (se_int))))) (ss_one (ss_asg (se_bin (or_mod) (so_of (se_callTy cr_int (by rfl) m_int (by kernel_rfl) (sol_cons (so_of (se_bin (or_add) (so_of (se_bin (or_add) (so_of (se_bin (or_mul) (so_of (se_ix hu (so_var 0) (so_of (se_int)) (fun _ _ => rfl))) (so_of (se_int)))) (so_of (se_bin (or_mod) (so_of (se_callTy cr_int (by rfl) m_int (by kernel_rfl) (sol_cons (so_var 2) (sol_nil)))) (so_of (se_int)))))) (so_of (se_int)))) (sol_nil)))) (so_of (se_int))) (sg_sub hu (so_var 0) (so_of (se_int))))))))) (ss_nil))
    (ss_cons (ss_if (st_cmp (or_gt) (so_of (se_ix hu (so_var 0) (so_of (se_int)) (fun _ _ => rfl))) (so_of (se_int)) (by rfl)) (ss_cons (ss_set nd rfl (by first | exact .inl rfl | exact .inr rfl) (se_bin (or_mod) (so_of (se_callTy cr_int (by rfl) m_int (by kernel_rfl) (sol_cons (so_of (se_ix hu (so_var 0) (so_of (se_int)) (fun _ _ => rfl))) (sol_nil)))) (so_var 1)))
    (ss_cons (ss_asg (se_bin (or_fdiv) (so_of (se_ix hu (so_var 0) (so_of (se_int)) (fun _ _ => rfl))) (so_var 1)) (sg_sub hu (so_var 0) (so_of (se_int))))
    (ss_one (ss_ret (se_mv 3))))) (ss_nil))
    (ss_cons (ss_asg (se_bin (or_mod) (so_of (se_callTy cr_int (by rfl) m_int (by kernel_rfl) (sol_cons (so_of (se_bin (or_add) (so_of (se_bin (or_mul) (so_of (se_ix hu (so_var 0) (so_of (se_int)) (fun _ _ => rfl))) (so_of (se_int)))) (so_of (se_int)))) (sol_nil)))) (so_of (se_int))) (sg_sub hu (so_var 0) (so_of (se_int))))
    (ss_one (ss_ret (se_bin (or_mod) (so_of (se_callTy cr_int (by rfl) m_int (by kernel_rfl) (sol_cons (so_of (se_bin (or_fdiv) (so_of (se_ix hu (so_var 0) (so_of (se_int)) (fun _ _ => rfl))) (so_of (se_int)))) (sol_nil)))) (so_var 1))))))
set_option maxHeartbeats 4000000 in
theorem ok__law_swapped {f : Addr} {fd : FuncData} (F : Fun K "_law_swapped" "_law_swapped" st__law_swapped f fd) (h__law_next : Fn P w K mg base 1 "_law_next" true 2 _law_next_F) (m_len : mg "len" = none) (m_list : mg "list" = none) : FnOk P w K mg base CX0 2 f fd ["state", "rows"] (spF K true 2 _law_swapped_F) :=
  fn_ok (k := 1) (b := true) (B := _law_swapped_B) F sc__law_swapped fun cdv A outer s H E hr => by
  have hu := hr.units
  have nd := sc__law_swapped.nd
  exact ss_cons (ss_set nd rfl (by first | exact .inl rfl | exact .inr rfl) (se_callTy cr_list (by rfl) m_list (by kernel_rfl) (sol_cons (so_var 1) (sol_nil))))
    (ss_cons (ss_set nd rfl (by first | exact .inl rfl | exact .inr rfl) (se_lst (sol_nil)))
    (ss_cons (ss_while 64 PassesOwn.never (st_cmp (or_ne hu) (so_var 2) (so_of (se_lst (sol_nil))) (by rfl)) (ss_one (ss_expr (se_mut (.inl rfl) PySem.F.plainAttrs_list PySem.F.slot_list_append PySem.F.type_list_append mr_append (so_var 3) (sol_cons (so_of (se_mut (.inl rfl) PySem.F.plainAttrs_list PySem.F.slot_list_pop PySem.F.type_list_pop mr_pop (so_var 2) (sol_cons (so_of (se_callM (h__law_next.kn (hr.mono (by omega))) (by rfl) (sol_cons (so_var 0) (sol_cons (so_of (se_callB cr_len (by rfl) m_len (by kernel_rfl) (sol_cons (so_var 2) (sol_nil)))) (sol_nil))) (len_cons (len_cons (len_nil))))) (sol_nil)))) (sol_nil))))))
    (ss_one (ss_ret (se_mv 3)))))
set_option maxHeartbeats 4000000 in
theorem ok__law_labels {f : Addr} {fd : FuncData} (F : Fun K "_law_labels" "_law_labels" st__law_labels f fd) (m_sorted : mg "sorted" = none) (m_tuple : mg "tuple" = none) : FnOk P w K mg base CX0 1 f fd ["names", "attacks"] (spF K false 2 _law_labels_F) :=
  fn_ok (k := 0) (b := false) (B := _law_labels_B) F sc__law_labels fun cdv A outer s H E hr => by
  have hu := hr.units
  have nd := sc__law_labels.nd
  exact ss_cons (ss_set nd rfl (by first | exact .inl rfl | exact .inr rfl) (se_new))
    (ss_cons (ss_set nd rfl (by first | exact .inl rfl | exact .inr rfl) (se_int))
    (ss_cons (ss_while 64 PassesOwn.never (st_cmp (or_ge) (so_var 3) (so_of (se_int)) (by rfl)) (ss_cons (ss_set nd rfl (by first | exact .inl rfl | exact .inr rfl) (se_new))
    (ss_cons (ss_for PassesOwn.never rfl (si_seq (se_var 0)) (sg_name nd rfl (by first | exact .inl rfl | exact .inr rfl)) (ss_one (ss_if (st_cmp (or_nin hu) (so_var 5) (so_var 2) (by rfl)) (ss_cons (ss_setLc rfl nd rfl rfl (by rfl) (si_seq (se_var 1)) (own := [("one", 7), ("other", 8)]) (blkOk_by (by with_unfolding_all rfl)) (by decide) (fun _ _ _ _ _ => sg_tup rfl (sgs_cons (sg_name nd rfl (by first | exact .inl rfl | exact .inr rfl)) (sgs_cons (sg_name nd rfl (by first | exact .inl rfl | exact .inr rfl)) (sgs_nil)))) (fun _ _ _ _ _ => sts_one (st_cmp (or_eq hu) (so_var 8) (so_var 5) (by rfl))) (fun _ _ _ _ _ => se_var 7))
    (ss_one (ss_if (st_cmp (or_ne hu) (so_of (se_lc rfl nd (si_seq (se_var 6)) (own := [("one", 7)]) (blkOk_by (by with_unfolding_all rfl)) (by decide) (fun _ _ _ _ _ => sg_name nd rfl (by first | exact .inl rfl | exact .inr rfl)) (fun _ _ _ _ _ => sts_one (st_cmp (or_eq hu) (so_of (se_ix hu (so_of (se_get hu (so_var 2) (so_var 7) (se_tup (sol_cons (so_of ((se_str s__eq))) (sol_cons (so_of (se_int)) (sol_nil)))))) (so_of (se_int)) (fun _ _ => rfl))) (so_of ((se_str s_stands_eq))) (by rfl))) (fun _ _ _ _ _ => se_var 7))) (so_of (se_lst (sol_nil))) (by rfl)) (ss_one (ss_asg (se_tup (sol_cons (so_of ((se_str s_falls_eq))) (sol_cons (so_of (se_var 3)) (sol_nil)))) (sg_sub hu (so_var 4) (so_var 5)))) (ss_one (ss_if (st_cmp (or_eq hu) (so_of (se_lc rfl nd (si_seq (se_var 6)) (own := [("one", 7)]) (blkOk_by (by with_unfolding_all rfl)) (by decide) (fun _ _ _ _ _ => sg_name nd rfl (by first | exact .inl rfl | exact .inr rfl)) (fun _ _ _ _ _ => sts_one (st_cmp (or_ne hu) (so_of (se_ix hu (so_of (se_get hu (so_var 2) (so_var 7) (se_tup (sol_cons (so_of ((se_str s__eq))) (sol_cons (so_of (se_int)) (sol_nil)))))) (so_of (se_int)) (fun _ _ => rfl))) (so_of ((se_str s_falls_eq))) (by rfl))) (fun _ _ _ _ _ => se_var 7))) (so_of (se_lst (sol_nil))) (by rfl)) (ss_one (ss_asg (se_tup (sol_cons (so_of ((se_str s_stands_eq))) (sol_cons (so_of (se_var 3)) (sol_nil)))) (sg_sub hu (so_var 4) (so_var 5)))) (ss_nil)))))) (ss_nil))))
    (ss_cons (ss_expr (se_mut (.inr rfl) PySem.F.plainAttrs_dict PySem.F.slot_dict_update PySem.F.type_dict_update mr_update (so_var 2) (sol_cons (so_var 4) (sol_nil))))
    (ss_one (ss_set nd rfl (by first | exact .inl rfl | exact .inr rfl) (se_ite (st_cmp (or_neDict hu) (so_var 4) (so_of (se_new)) (by rfl)) (se_bin (or_add) (so_var 3) (so_of (se_int))) (se_un ur_neg (so_of (se_int))))))))))
    (ss_one (ss_ret (se_callTy cr_tuple (by rfl) m_tuple (by kernel_rfl) (sol_cons (so_of (se_lc rfl nd (si_seq (se_callB cr_sort (by rfl) m_sorted (by kernel_rfl) (sol_cons (so_var 0) (sol_nil)))) (own := [("name", 5)]) (blkOk_by (by with_unfolding_all rfl)) (by decide) (fun _ _ _ _ _ => sg_name nd rfl (by first | exact .inl rfl | exact .inr rfl)) (fun _ _ _ _ _ => sts_nil) (fun _ _ _ _ _ => se_bin (or_add) (so_of (se_tup (sol_cons (so_of (se_var 5)) (sol_nil)))) (so_of (se_get hu (so_var 2) (so_var 5) (se_tup (sol_cons (so_of ((se_str s_open_eq))) (sol_cons (so_of (se_un ur_neg (so_of (se_int)))) (sol_nil))))))))) (sol_nil)))))))
set_option maxHeartbeats 4000000 in
theorem ok__law_chain {f : Addr} {fd : FuncData} (F : Fun K "_law_chain" "_law_chain" st__law_chain f fd) (m_range : mg "range" = none) (m_str : mg "str" = none) : FnOk P w K mg base CX0 1 f fd ["start", "count"] (spF K false 2 _law_chain_F) :=
  fn_ok (k := 0) (b := false) (B := _law_chain_B) F sc__law_chain fun cdv A outer s H E hr => by
  have hu := hr.units
  have nd := sc__law_chain.nd
  exact ss_cons (ss_set nd rfl (by first | exact .inl rfl | exact .inr rfl) (se_lc rfl nd (si_rng1 (by rfl) m_range (sol_cons (so_var 1) (sol_nil))) (own := [("at", 3)]) (blkOk_by (by with_unfolding_all rfl)) (by decide) (fun _ _ _ _ _ => sg_name nd rfl (by first | exact .inl rfl | exact .inr rfl)) (fun _ _ _ _ _ => sts_nil) (fun _ _ _ _ _ => se_bin (or_add) (so_var 0) (so_of (se_callTy cr_str (by rfl) m_str (by kernel_rfl) (sol_cons (so_var 3) (sol_nil)))))))
    (ss_one (ss_ret (se_tup (sol_cons (so_of (se_var 2)) (sol_cons (so_of (se_lc rfl nd (si_rng1 (by rfl) m_range (sol_cons (so_of (se_bin (or_sub) (so_var 1) (so_of (se_int)))) (sol_nil))) (own := [("at", 3)]) (blkOk_by (by with_unfolding_all rfl)) (by decide) (fun _ _ _ _ _ => sg_name nd rfl (by first | exact .inl rfl | exact .inr rfl)) (fun _ _ _ _ _ => sts_nil) (fun _ _ _ _ _ => se_tup (sol_cons (so_of (se_ix hu (so_var 2) (so_var 3) (fun _ _ => rfl))) (sol_cons (so_of (se_ix hu (so_var 2) (so_of (se_bin (or_add) (so_var 3) (so_of (se_int)))) (fun _ _ => rfl))) (sol_nil)))))) (sol_nil))))))
set_option maxHeartbeats 4000000 in
theorem ok__law_known_chain {f : Addr} {fd : FuncData} (F : Fun K "_law_known_chain" "_law_known_chain" st__law_known_chain f fd) (m_range : mg "range" = none) (m_str : mg "str" = none) : FnOk P w K mg base CX0 1 f fd ["start", "count"] (spF K false 2 _law_known_chain_F) :=
  fn_ok (k := 0) (b := false) (B := _law_known_chain_B) F sc__law_known_chain fun cdv A outer s H E hr => by
  have hu := hr.units
  have nd := sc__law_known_chain.nd
  exact ss_one (ss_ret (se_lc rfl nd (si_rng1 (by rfl) m_range (sol_cons (so_var 1) (sol_nil))) (own := [("at", 2)]) (blkOk_by (by with_unfolding_all rfl)) (by decide) (fun _ _ _ _ _ => sg_name nd rfl (by first | exact .inl rfl | exact .inr rfl)) (fun _ _ _ _ _ => sts_nil) (fun _ _ _ _ _ => se_tup (sol_cons (so_of (se_bin (or_add) (so_var 0) (so_of (se_callTy cr_str (by rfl) m_str (by kernel_rfl) (sol_cons (so_var 2) (sol_nil)))))) (sol_cons (so_of (se_ix hu (so_of (se_lst (sol_cons (so_of ((se_str s_stands_eq))) (sol_cons (so_of ((se_str s_falls_eq))) (sol_nil))))) (so_of (se_bin (or_mod) (so_var 2) (so_of (se_int)))) (fun _ _ => rfl))) (sol_cons (so_of (se_var 2)) (sol_nil)))))))
set_option maxHeartbeats 4000000 in
theorem ok_law {f : Addr} {fd : FuncData} (F : Fun K "law" "law" st_law f fd) (h__law_next : Fn P w K mg base 1 "_law_next" true 2 _law_next_F) (h__law_chain : Fn P w K mg base 1 "_law_chain" false 2 _law_chain_F) (h_stands : Fn P w K mg base 2 "stands" false 2 stands_F) (h__law_swapped : Fn P w K mg base 2 "_law_swapped" true 2 _law_swapped_F) (h__law_known_chain : Fn P w K mg base 1 "_law_known_chain" false 2 _law_known_chain_F) (h__law_labels : Fn P w K mg base 1 "_law_labels" false 2 _law_labels_F) (h_judge_stands : Fn P w K mg base 2 "judge_stands" false 3 judge_stands_F) (m_dict : mg "dict" = none) (m_len : mg "len" = none) (m_list : mg "list" = none) (m_range : mg "range" = none) : FnOk P w K mg base CX0 3 f fd ["script"] (spF K false 1 law_F) :=
  fn_ok (k := 2) (b := false) (B := law_B) F sc_law fun cdv A outer s H E hr => by
  have hu := hr.units
  have nd := sc_law.nd
  exact ss_cons (ss_set nd rfl (by first | exact .inl rfl | exact .inr rfl) (se_lst (sol_cons (so_of (se_callTy cr_list (by rfl) m_list (by kernel_rfl) (sol_cons (so_var 0) (sol_nil)))) (sol_cons (so_of (se_int)) (sol_cons (so_of (se_int)) (sol_cons (so_of (se_int)) (sol_nil)))))))
    (ss_cons (ss_for PassesOwn.never rfl (si_rng1 (by rfl) m_range (sol_cons (so_of (se_int)) (sol_nil))) (sg_name nd rfl (by first | exact .inl rfl | exact .inr rfl)) (ss_cons (ss_asg (se_tup (sol_cons (so_of (se_bin (or_add) (so_of (se_int)) (so_of (se_callM (h__law_next.kn (hr.mono (by omega))) (by rfl) (sol_cons (so_var 1) (sol_cons (so_of (se_int)) (sol_nil))) (len_cons (len_cons (len_nil))))))) (sol_cons (so_of (se_bin (or_add) (so_of (se_int)) (so_of (se_callM (h__law_next.kn (hr.mono (by omega))) (by rfl) (sol_cons (so_var 1) (sol_cons (so_of (se_int)) (sol_nil))) (len_cons (len_cons (len_nil))))))) (sol_nil)))) (sg_tup rfl (sgs_cons (sg_name nd rfl (by first | exact .inl rfl | exact .inr rfl)) (sgs_cons (sg_name nd rfl (by first | exact .inl rfl | exact .inr rfl)) (sgs_nil)))))
    (ss_cons (ss_asg (se_call (h__law_chain.kn (hr.mono (by omega))) (by rfl) (sol_cons (so_of ((se_str s_c_eq))) (sol_cons (so_var 12) (sol_nil))) (len_cons (len_cons (len_nil))) rfl) (sg_tup rfl (sgs_cons (sg_name nd rfl (by first | exact .inl rfl | exact .inr rfl)) (sgs_cons (sg_name nd rfl (by first | exact .inl rfl | exact .inr rfl)) (sgs_nil)))))
    (ss_cons (ss_asg (se_call (h__law_chain.kn (hr.mono (by omega))) (by rfl) (sol_cons (so_of ((se_str s_r_eq))) (sol_cons (so_var 13) (sol_nil))) (len_cons (len_cons (len_nil))) rfl) (sg_tup rfl (sgs_cons (sg_name nd rfl (by first | exact .inl rfl | exact .inr rfl)) (sgs_cons (sg_name nd rfl (by first | exact .inl rfl | exact .inr rfl)) (sgs_nil)))))
    (ss_cons (ss_set nd rfl (by first | exact .inl rfl | exact .inr rfl) (se_bin (or_add) (so_var 3) (so_of (se_lst (sol_cons (so_of (se_tup (sol_cons (so_of (se_ix hu (so_var 16) (so_of (se_un ur_neg (so_of (se_int)))) (fun _ _ => rfl))) (sol_cons (so_of (se_ix hu (so_var 16) (so_of (se_int)) (fun _ _ => rfl))) (sol_nil))))) (sol_nil))))))
    (ss_cons (ss_set nd rfl (by first | exact .inl rfl | exact .inr rfl) (se_callTy (cr_dict rfl) (by rfl) m_dict (by kernel_rfl) (sol_cons (so_of (se_lc rfl nd (si_seq (se_call (h_stands.kn (hr.mono (by omega))) (by rfl) (sol_cons (so_of (se_bin (or_add) (so_var 14) (so_var 16))) (sol_cons (so_of (se_callM (h__law_swapped.kn (hr.mono (by omega))) (by rfl) (sol_cons (so_var 1) (sol_cons (so_of (se_bin (or_add) (so_var 15) (so_var 3))) (sol_nil))) (len_cons (len_cons (len_nil))))) (sol_nil))) (len_cons (len_cons (len_nil))) rfl)) (own := [("name", 20), ("label", 21), ("rank", 22)]) (blkOk_by (by with_unfolding_all rfl)) (by decide) (fun _ _ _ _ _ => sg_tup rfl (sgs_cons (sg_name nd rfl (by first | exact .inl rfl | exact .inr rfl)) (sgs_cons (sg_name nd rfl (by first | exact .inl rfl | exact .inr rfl)) (sgs_cons (sg_name nd rfl (by first | exact .inl rfl | exact .inr rfl)) (sgs_nil))))) (fun _ _ _ _ _ => sts_nil) (fun _ _ _ _ _ => se_tup (sol_cons (so_of (se_var 20)) (sol_cons (so_of (se_tup (sol_cons (so_of (se_var 21)) (sol_cons (so_of (se_var 22)) (sol_nil))))) (sol_nil)))))) (sol_nil))))
    (ss_cons (ss_if (st_w (sw_or (st_cmp (or_ne hu) (so_of (se_lc rfl nd (si_seq (se_call (h__law_known_chain.kn (hr.mono (by omega))) (by rfl) (sol_cons (so_of ((se_str s_c_eq))) (sol_cons (so_var 12) (sol_nil))) (len_cons (len_cons (len_nil))) rfl)) (own := [("row", 19)]) (blkOk_by (by with_unfolding_all rfl)) (by decide) (fun _ _ _ _ _ => sg_name nd rfl (by first | exact .inl rfl | exact .inr rfl)) (fun _ _ _ _ _ => sts_one (st_cmp (or_ne hu) (so_of (se_ix hu (so_var 4) (so_of (se_ix hu (so_var 19) (so_of (se_int)) (fun _ _ => rfl))) (fun _ _ => rfl))) (so_of (se_sl (so_var 19) (spo_some (se_int)) spo_none)) (by rfl))) (fun _ _ _ _ _ => se_var 19))) (so_of (se_lst (sol_nil))) (by rfl)) (sw_or1 (st_cmp (or_ne hu) (so_of (se_lc rfl nd (si_seq (se_var 16)) (own := [("name", 20)]) (blkOk_by (by with_unfolding_all rfl)) (by decide) (fun _ _ _ _ _ => sg_name nd rfl (by first | exact .inl rfl | exact .inr rfl)) (fun _ _ _ _ _ => sts_one (st_cmp (or_ne hu) (so_of (se_ix hu (so_var 4) (so_var 20) (fun _ _ => rfl))) (so_of (se_tup (sol_cons (so_of ((se_str s_open_eq))) (sol_cons (so_of (se_un ur_neg (so_of (se_int)))) (sol_nil))))) (by rfl))) (fun _ _ _ _ _ => se_var 20))) (so_of (se_lst (sol_nil))) (by rfl))))) (ss_one (ss_ret (se_bl))) (ss_nil))
    (ss_cons (ss_set nd rfl (by first | exact .inl rfl | exact .inr rfl) (se_call (h_stands.kn (hr.mono (by omega))) (by rfl) (sol_cons (so_of (se_bin (or_add) (so_var 14) (so_var 16))) (sol_cons (so_of (se_callM (h__law_swapped.kn (hr.mono (by omega))) (by rfl) (sol_cons (so_var 1) (sol_cons (so_of (se_bin (or_add) (so_of (se_bin (or_add) (so_var 15) (so_var 3))) (so_of (se_lst (sol_cons (so_of (se_tup (sol_cons (so_of (se_ix hu (so_var 14) (so_of (se_un ur_neg (so_of (se_int)))) (fun _ _ => rfl))) (sol_cons (so_of (se_ix hu (so_var 16) (so_of (se_int)) (fun _ _ => rfl))) (sol_nil))))) (sol_nil)))))) (sol_nil))) (len_cons (len_cons (len_nil))))) (sol_nil))) (len_cons (len_cons (len_nil))) rfl))
    (ss_cons (ss_set nd rfl (by first | exact .inl rfl | exact .inr rfl) (se_callTy (cr_dict rfl) (by rfl) m_dict (by kernel_rfl) (sol_cons (so_of (se_lc rfl nd (si_seq (se_var 5)) (own := [("name", 20), ("label", 21), ("rank", 22)]) (blkOk_by (by with_unfolding_all rfl)) (by decide) (fun _ _ _ _ _ => sg_tup rfl (sgs_cons (sg_name nd rfl (by first | exact .inl rfl | exact .inr rfl)) (sgs_cons (sg_name nd rfl (by first | exact .inl rfl | exact .inr rfl)) (sgs_cons (sg_name nd rfl (by first | exact .inl rfl | exact .inr rfl)) (sgs_nil))))) (fun _ _ _ _ _ => sts_nil) (fun _ _ _ _ _ => se_tup (sol_cons (so_of (se_var 20)) (sol_cons (so_of (se_tup (sol_cons (so_of (se_var 21)) (sol_cons (so_of (se_var 22)) (sol_nil))))) (sol_nil)))))) (sol_nil))))
    (ss_cons (ss_if (st_cmp (or_eq hu) (so_of (se_bin (or_mod) (so_var 12) (so_of (se_int)))) (so_of (se_int)) (by rfl)) (ss_one (ss_setLc rfl nd rfl rfl (by rfl) (si_rng1 (by rfl) m_range (sol_cons (so_var 13) (sol_nil))) (own := [("at", 18)]) (blkOk_by (by with_unfolding_all rfl)) (by decide) (fun _ _ _ _ _ => sg_name nd rfl (by first | exact .inl rfl | exact .inr rfl)) (fun _ _ _ _ _ => sts_nil) (fun _ _ _ _ _ => se_tup (sol_cons (so_of (se_ix hu (so_var 16) (so_var 18) (fun _ _ => rfl))) (sol_cons (so_of (se_ix hu (so_of (se_lst (sol_cons (so_of ((se_str s_falls_eq))) (sol_cons (so_of ((se_str s_stands_eq))) (sol_nil))))) (so_of (se_bin (or_mod) (so_var 18) (so_of (se_int)))) (fun _ _ => rfl))) (sol_cons (so_of (se_bin (or_add) (so_var 12) (so_var 18))) (sol_nil))))))) (ss_one (ss_setLc rfl nd rfl rfl (by rfl) (si_seq (se_var 16)) (own := [("name", 20)]) (blkOk_by (by with_unfolding_all rfl)) (by decide) (fun _ _ _ _ _ => sg_name nd rfl (by first | exact .inl rfl | exact .inr rfl)) (fun _ _ _ _ _ => sts_nil) (fun _ _ _ _ _ => se_tup (sol_cons (so_of (se_var 20)) (sol_cons (so_of ((se_str s_open_eq))) (sol_cons (so_of (se_un ur_neg (so_of (se_int)))) (sol_nil))))))))
    (ss_cons (ss_if (st_cmp (or_ne hu) (so_of (se_lc rfl nd (si_seq (se_var 17)) (own := [("row", 19)]) (blkOk_by (by with_unfolding_all rfl)) (by decide) (fun _ _ _ _ _ => sg_name nd rfl (by first | exact .inl rfl | exact .inr rfl)) (fun _ _ _ _ _ => sts_one (st_cmp (or_ne hu) (so_of (se_ix hu (so_var 6) (so_of (se_ix hu (so_var 19) (so_of (se_int)) (fun _ _ => rfl))) (fun _ _ => rfl))) (so_of (se_sl (so_var 19) (spo_some (se_int)) spo_none)) (by rfl))) (fun _ _ _ _ _ => se_var 19))) (so_of (se_lst (sol_nil))) (by rfl)) (ss_one (ss_ret (se_bl))) (ss_nil))
    (ss_cons (ss_set nd rfl (by first | exact .inl rfl | exact .inr rfl) (se_call (h_stands.kn (hr.mono (by omega))) (by rfl) (sol_cons (so_of (se_bin (or_add) (so_var 14) (so_var 16))) (sol_cons (so_of (se_bin (or_add) (so_of (se_bin (or_add) (so_var 15) (so_var 3))) (so_of (se_lst (sol_cons (so_of (se_tup (sol_cons (so_of (se_ix hu (so_var 16) (so_of (se_int)) (fun _ _ => rfl))) (sol_cons (so_of (se_ix hu (so_var 14) (so_of (se_int)) (fun _ _ => rfl))) (sol_nil))))) (sol_nil)))))) (sol_nil))) (len_cons (len_cons (len_nil))) rfl))
    (ss_cons (ss_if (st_cmp (or_ne hu) (so_of (se_lc rfl nd (si_seq (se_var 7)) (own := [("row", 19)]) (blkOk_by (by with_unfolding_all rfl)) (by decide) (fun _ _ _ _ _ => sg_name nd rfl (by first | exact .inl rfl | exact .inr rfl)) (fun _ _ _ _ _ => sts_one (st_cmp (or_ne hu) (so_of (se_sl (so_var 19) (spo_some (se_int)) spo_none)) (so_of (se_tup (sol_cons (so_of ((se_str s_open_eq))) (sol_cons (so_of (se_un ur_neg (so_of (se_int)))) (sol_nil))))) (by rfl))) (fun _ _ _ _ _ => se_var 19))) (so_of (se_lst (sol_nil))) (by rfl)) (ss_one (ss_ret (se_bl))) (ss_nil))
    (ss_cons (ss_set nd rfl (by first | exact .inl rfl | exact .inr rfl) (se_callM (h__law_swapped.kn (hr.mono (by omega))) (by rfl) (sol_cons (so_var 1) (sol_cons (so_of (se_bin (or_add) (so_of (se_bin (or_add) (so_var 15) (so_var 3))) (so_of (se_sl (so_of (se_lst (sol_cons (so_of (se_tup (sol_cons (so_of (se_ix hu (so_var 16) (so_of (se_un ur_neg (so_of (se_int)))) (fun _ _ => rfl))) (sol_cons (so_of ((se_str s_x_eq))) (sol_nil))))) (sol_cons (so_of (se_tup (sol_cons (so_of (se_ix hu (so_var 14) (so_of (se_int)) (fun _ _ => rfl))) (sol_cons (so_of ((se_str s_x_eq))) (sol_nil))))) (sol_cons (so_of (se_tup (sol_cons (so_of ((se_str s_y_eq))) (sol_cons (so_of ((se_str s_y_eq))) (sol_nil))))) (sol_cons (so_of (se_tup (sol_cons (so_of ((se_str s_y_eq))) (sol_cons (so_of ((se_str s_z_eq))) (sol_nil))))) (sol_nil))))))) spo_none (spo_some (se_callM (h__law_next.kn (hr.mono (by omega))) (by rfl) (sol_cons (so_var 1) (sol_cons (so_of (se_int)) (sol_nil))) (len_cons (len_cons (len_nil))))))))) (sol_nil))) (len_cons (len_cons (len_nil)))))
    (ss_cons (ss_set nd rfl (by first | exact .inl rfl | exact .inr rfl) (se_callM (h__law_swapped.kn (hr.mono (by omega))) (by rfl) (sol_cons (so_var 1) (sol_cons (so_of (se_bin (or_add) (so_of (se_bin (or_add) (so_var 14) (so_var 16))) (so_of (se_lst (sol_cons (so_of ((se_str s_x_eq))) (sol_cons (so_of ((se_str s_y_eq))) (sol_cons (so_of ((se_str s_z_eq))) (sol_nil)))))))) (sol_nil))) (len_cons (len_cons (len_nil)))))
    (ss_cons (ss_set nd rfl (by first | exact .inl rfl | exact .inr rfl) (se_call (h_stands.kn (hr.mono (by omega))) (by rfl) (sol_cons (so_var 9) (sol_cons (so_of (se_bin (or_add) (so_var 8) (so_of (se_sl (so_var 8) spo_none (spo_some (se_int)))))) (sol_nil))) (len_cons (len_cons (len_nil))) rfl))
    (ss_cons (ss_if (st_w (sw_or (st_cmp (or_ne hu) (so_var 10) (so_of (se_call (h__law_labels.kn (hr.mono (by omega))) (by rfl) (sol_cons (so_var 9) (sol_cons (so_var 8) (sol_nil))) (len_cons (len_cons (len_nil))) rfl)) (by rfl)) (sw_or1 (st_cmp (or_isnt) (so_of (se_call (h_judge_stands.kn (hr.mono (by omega))) (by rfl) (sol_cons (so_var 9) (sol_cons (so_var 8) (sol_cons (so_var 10) (sol_nil)))) (len_cons (len_cons (len_cons (len_nil)))) rfl)) (so_of (se_bl)) (by rfl))))) (ss_one (ss_ret (se_bl))) (ss_nil))
    (ss_cons (ss_for PassesOwn.never rfl (si_rng1 (by rfl) m_range (sol_cons (so_of (se_int)) (sol_nil))) (sg_name nd rfl (by first | exact .inl rfl | exact .inr rfl)) (ss_cons (ss_set nd rfl (by first | exact .inl rfl | exact .inr rfl) (se_callM (h__law_next.kn (hr.mono (by omega))) (by rfl) (sol_cons (so_var 1) (sol_cons (so_of (se_callB cr_len (by rfl) m_len (by kernel_rfl) (sol_cons (so_var 10) (sol_nil)))) (sol_nil))) (len_cons (len_cons (len_nil)))))
    (ss_cons (ss_asg (se_ix hu (so_var 10) (so_var 18) (fun _ _ => rfl)) (sg_tup rfl (sgs_cons (sg_name nd rfl (by first | exact .inl rfl | exact .inr rfl)) (sgs_cons (sg_name nd rfl (by first | exact .inl rfl | exact .inr rfl)) (sgs_cons (sg_name nd rfl (by first | exact .inl rfl | exact .inr rfl)) (sgs_nil))))))
    (ss_one (ss_for PassesOwn.never rfl (si_seq (se_lst (sol_cons (so_of (se_tup (sol_cons (so_of (se_var 20)) (sol_cons (so_of (se_ix hu (so_of (se_disp (sps_cons ((se_str s_stands_eq)) ((se_str s_falls_eq)) (sps_cons ((se_str s_falls_eq)) ((se_str s_stands_eq)) (sps_cons ((se_str s_open_eq)) ((se_str s_falls_eq)) (sps_nil)))))) (so_var 21) (fun _ _ => rfl))) (sol_cons (so_of (se_var 22)) (sol_nil)))))) (sol_cons (so_of (se_tup (sol_cons (so_of (se_var 20)) (sol_cons (so_of ((se_str s_open_eq))) (sol_cons (so_of (se_un ur_neg (so_of (se_int)))) (sol_nil)))))) (sol_cons (so_of (se_tup (sol_cons (so_of (se_var 20)) (sol_cons (so_of (se_var 21)) (sol_cons (so_of (se_ite (st_cmp (or_ne hu) (so_var 21) (so_of ((se_str s_open_eq))) (by rfl)) (se_un ur_neg (so_of (se_int))) (se_int))) (sol_nil)))))) (sol_cons (so_of (se_tup (sol_cons (so_of (se_var 20)) (sol_cons (so_of (se_var 21)) (sol_nil))))) (sol_nil))))))) (sg_name nd rfl (by first | exact .inl rfl | exact .inr rfl)) (ss_cons (ss_set nd rfl (by first | exact .inl rfl | exact .inr rfl) (se_bin (or_add) (so_of (se_bin (or_add) (so_of (se_sl (so_var 10) spo_none (spo_some (se_var 18)))) (so_of (se_tup (sol_cons (so_of (se_var 19)) (sol_nil)))))) (so_of (se_sl (so_var 10) (spo_some (se_bin (or_add) (so_var 18) (so_of (se_int)))) spo_none))))
    (ss_one (ss_if (st_w (sw_and (st_cmp (or_ne hu) (so_var 19) (so_of (se_ix hu (so_var 10) (so_var 18) (fun _ _ => rfl))) (by rfl)) (sw_and1 (st_cmp (or_isnt) (so_of (se_call (h_judge_stands.kn (hr.mono (by omega))) (by rfl) (sol_cons (so_var 9) (sol_cons (so_var 8) (sol_cons (so_var 23) (sol_nil)))) (len_cons (len_cons (len_cons (len_nil)))) rfl)) (so_of (se_bl)) (by rfl))))) (ss_one (ss_ret (se_bl))) (ss_nil)))))))))
    (ss_one (ss_if (st_w (sw_or (st_cmp (or_isnt) (so_of (se_call (h_judge_stands.kn (hr.mono (by omega))) (by rfl) (sol_cons (so_var 9) (sol_cons (so_var 8) (sol_cons (so_of (se_sl (so_var 10) (spo_some (se_int)) spo_none)) (sol_nil)))) (len_cons (len_cons (len_cons (len_nil)))) rfl)) (so_of (se_bl)) (by rfl)) (sw_or1 (st_cmp (or_ne hu) (so_of (se_call (h_judge_stands.kn (hr.mono (by omega))) (by rfl) (sol_cons (so_var 9) (sol_cons (so_var 8) (sol_cons (so_of (se_rev (so_var 10))) (sol_nil)))) (len_cons (len_cons (len_cons (len_nil)))) rfl)) (so_of (se_cmp (or_lt) (so_of (se_callB cr_len (by rfl) m_len (by kernel_rfl) (sol_cons (so_var 10) (sol_nil)))) (so_of (se_int)) (by rfl))) (by rfl))))) (ss_one (ss_ret (se_bl))) (ss_nil)))))))))))))))))))))
    (ss_one (ss_ret (se_and (se_cmp (or_eq hu) (so_of (se_call (h_stands.kn (hr.mono (by omega))) (by rfl) (sol_cons (so_of (se_lst (sol_nil))) (sol_cons (so_of (se_lst (sol_nil))) (sol_nil))) (len_cons (len_cons (len_nil))) rfl)) (so_of (se_tup (sol_nil))) (by rfl)) (se_one (se_cmp (or_eq hu) (so_of (se_call (h_stands.kn (hr.mono (by omega))) (by rfl) (sol_cons (so_of (se_lst (sol_cons (so_of ((se_str s_a_eq))) (sol_nil)))) (sol_cons (so_of (se_lst (sol_cons (so_of (se_tup (sol_cons (so_of ((se_str s_a_eq))) (sol_cons (so_of ((se_str s_a_eq))) (sol_nil))))) (sol_nil)))) (sol_nil))) (len_cons (len_cons (len_nil))) rfl)) (so_of (se_tup (sol_cons (so_of (se_tup (sol_cons (so_of ((se_str s_a_eq))) (sol_cons (so_of ((se_str s_open_eq))) (sol_cons (so_of (se_un ur_neg (so_of (se_int)))) (sol_nil)))))) (sol_nil)))) (by rfl)))))))
end
end K13

/-! K13: what the top has written, the law's own head (printed by gen.py). -/
namespace K13
open PySem PySem.Spec PyProof.Rows L2 PD
set_option maxHeartbeats 4000000 in
theorem all_mk {l : PySem.W.OpenLaw} {w : World} {K : PySem.W.Frag} {h : Heap} {mg : Str → Option Value} {fa f1 f2 f3 f4 f5 f6 f7 f8 f9 f10 : Addr} (X : K.In h) (G : h.Ns mainGlobals mg) (hfa : mg "law" = some (.ref fa))
    {od1 an1 od2 an2 od3 an3 od4 an4 od5 an5 od6 an6 od7 an7 od8 an8 od9 an9 od10 an10 : Option Addr} {sl1 sl2 sl3 sl4 sl5 sl6 sl7 sl8 sl9 sl10 : Array (Option Value)} {oc1 kV1 dc1 pm1 cd1 ct1 oc2 kV2 dc2 pm2 cd2 ct2 oc3 kV3 dc3 pm3 cd3 ct3 oc4 kV4 dc4 pm4 cd4 ct4 oc5 kV5 dc5 pm5 cd5 ct5 oc6 kV6 dc6 pm6 cd6 ct6 oc7 kV7 dc7 pm7 cd7 ct7 oc8 kV8 dc8 pm8 cd8 ct8 oc9 kV9 dc9 pm9 cd9 ct9 oc10 kV10 dc10 pm10 cd10 ct10 : Value}
    (a1 : PySem.W.nsIn K mainGlobals "attackers" = some (some (.ref f1))) (l1 : K.lookup f1 = some ⟨oc1, od1, .func (PySem.W.fnOf "attackers" "attackers" (defArgs st_attackers) (defBody st_attackers) (defScope st_attackers) .none kV1 dc1 pm1 an1 cd1 ct1), sl1⟩) (c1 : PySem.W.codeIn K cd1 "attackers" = true) (k1 : PySem.W.keepIn K (.ref f1) = true)
    (a2 : PySem.W.nsIn K mainGlobals "stands" = some (some (.ref f2))) (l2 : K.lookup f2 = some ⟨oc2, od2, .func (PySem.W.fnOf "stands" "stands" (defArgs st_stands) (defBody st_stands) (defScope st_stands) .none kV2 dc2 pm2 an2 cd2 ct2), sl2⟩) (c2 : PySem.W.codeIn K cd2 "stands" = true) (k2 : PySem.W.keepIn K (.ref f2) = true)
    (a3 : PySem.W.nsIn K mainGlobals "is_settled" = some (some (.ref f3))) (l3 : K.lookup f3 = some ⟨oc3, od3, .func (PySem.W.fnOf "is_settled" "is_settled" (defArgs st_is_settled) (defBody st_is_settled) (defScope st_is_settled) .none kV3 dc3 pm3 an3 cd3 ct3), sl3⟩) (c3 : PySem.W.codeIn K cd3 "is_settled" = true) (k3 : PySem.W.keepIn K (.ref f3) = true)
    (a4 : PySem.W.nsIn K mainGlobals "judge_stands" = some (some (.ref f4))) (l4 : K.lookup f4 = some ⟨oc4, od4, .func (PySem.W.fnOf "judge_stands" "judge_stands" (defArgs st_judge_stands) (defBody st_judge_stands) (defScope st_judge_stands) .none kV4 dc4 pm4 an4 cd4 ct4), sl4⟩) (c4 : PySem.W.codeIn K cd4 "judge_stands" = true) (k4 : PySem.W.keepIn K (.ref f4) = true)
    (a5 : PySem.W.nsIn K mainGlobals "_law_next" = some (some (.ref f5))) (l5 : K.lookup f5 = some ⟨oc5, od5, .func (PySem.W.fnOf "_law_next" "_law_next" (defArgs st__law_next) (defBody st__law_next) (defScope st__law_next) .none kV5 dc5 pm5 an5 cd5 ct5), sl5⟩) (c5 : PySem.W.codeIn K cd5 "_law_next" = true) (k5 : PySem.W.keepIn K (.ref f5) = true)
    (a6 : PySem.W.nsIn K mainGlobals "_law_swapped" = some (some (.ref f6))) (l6 : K.lookup f6 = some ⟨oc6, od6, .func (PySem.W.fnOf "_law_swapped" "_law_swapped" (defArgs st__law_swapped) (defBody st__law_swapped) (defScope st__law_swapped) .none kV6 dc6 pm6 an6 cd6 ct6), sl6⟩) (c6 : PySem.W.codeIn K cd6 "_law_swapped" = true) (k6 : PySem.W.keepIn K (.ref f6) = true)
    (a7 : PySem.W.nsIn K mainGlobals "_law_labels" = some (some (.ref f7))) (l7 : K.lookup f7 = some ⟨oc7, od7, .func (PySem.W.fnOf "_law_labels" "_law_labels" (defArgs st__law_labels) (defBody st__law_labels) (defScope st__law_labels) .none kV7 dc7 pm7 an7 cd7 ct7), sl7⟩) (c7 : PySem.W.codeIn K cd7 "_law_labels" = true) (k7 : PySem.W.keepIn K (.ref f7) = true)
    (a8 : PySem.W.nsIn K mainGlobals "_law_chain" = some (some (.ref f8))) (l8 : K.lookup f8 = some ⟨oc8, od8, .func (PySem.W.fnOf "_law_chain" "_law_chain" (defArgs st__law_chain) (defBody st__law_chain) (defScope st__law_chain) .none kV8 dc8 pm8 an8 cd8 ct8), sl8⟩) (c8 : PySem.W.codeIn K cd8 "_law_chain" = true) (k8 : PySem.W.keepIn K (.ref f8) = true)
    (a9 : PySem.W.nsIn K mainGlobals "_law_known_chain" = some (some (.ref f9))) (l9 : K.lookup f9 = some ⟨oc9, od9, .func (PySem.W.fnOf "_law_known_chain" "_law_known_chain" (defArgs st__law_known_chain) (defBody st__law_known_chain) (defScope st__law_known_chain) .none kV9 dc9 pm9 an9 cd9 ct9), sl9⟩) (c9 : PySem.W.codeIn K cd9 "_law_known_chain" = true) (k9 : PySem.W.keepIn K (.ref f9) = true)
    (a10 : PySem.W.nsIn K mainGlobals "law" = some (some (.ref f10))) (l10 : K.lookup f10 = some ⟨oc10, od10, .func (PySem.W.fnOf "law" "law" (defArgs st_law) (defBody st_law) (defScope st_law) .none kV10 dc10 pm10 an10 cd10 ct10), sl10⟩) (c10 : PySem.W.codeIn K cd10 "law" = true) (k10 : PySem.W.keepIn K (.ref f10) = true) (z_bool : PySem.W.nsIn K mainGlobals "bool" = some none) (z_dict : PySem.W.nsIn K mainGlobals "dict" = some none) (z_int : PySem.W.nsIn K mainGlobals "int" = some none) (z_isinstance : PySem.W.nsIn K mainGlobals "isinstance" = some none) (z_len : PySem.W.nsIn K mainGlobals "len" = some none) (z_list : PySem.W.nsIn K mainGlobals "list" = some none) (z_range : PySem.W.nsIn K mainGlobals "range" = some none) (z_set : PySem.W.nsIn K mainGlobals "set" = some none) (z_sorted : PySem.W.nsIn K mainGlobals "sorted" = some none) (z_str : PySem.W.nsIn K mainGlobals "str" = some none) (z_tuple : PySem.W.nsIn K mainGlobals "tuple" = some none) {p_LABELS : Addr} {dd_LABELS : Option Addr} {n_LABELS : Nat} {sl_LABELS : Array (Option Value)} {t_LABELS0 t_LABELS1 t_LABELS2 : Tok} (ka_LABELS : PySem.W.nsIn K mainGlobals "LABELS" = some (some (.ref p_LABELS))) (kl_LABELS : K.lookup p_LABELS = some ⟨.type "tuple", dd_LABELS, .seq #[.str (Str.ofString "stands") t_LABELS0, .str (Str.ofString "falls") t_LABELS1, .str (Str.ofString "open") t_LABELS2] n_LABELS, sl_LABELS⟩) :
    ∃ fd : FuncData, (∀ (s : Shared) (v : Value), BindsTo s fd ⟨[v], []⟩ [("script", v)]) ∧ ∀ base : Heap, K.In base → base.Ns mainGlobals mg → FnOk l.prog w K mg base CX0 3 fa fd ["script"] (spF K false 1 law_F) := by
  have e := hfa.symm.trans (PySem.W.mg_of X G a10)
  cases e
  have F1 := fun_mk (st := st_attackers) l1 c1 k1
  have b1 := F1.binds (ps := ["attacks", "name"]) fun _ _ _ _ _ _ us hl => match us, hl with | [_, _], _ => rfl
  have F2 := fun_mk (st := st_stands) l2 c2 k2
  have b2 := F2.binds (ps := ["names", "attacks"]) fun _ _ _ _ _ _ us hl => match us, hl with | [_, _], _ => rfl
  have F3 := fun_mk (st := st_is_settled) l3 c3 k3
  have b3 := F3.binds (ps := ["known", "others", "told"]) fun _ _ _ _ _ _ us hl => match us, hl with | [_, _, _], _ => rfl
  have F4 := fun_mk (st := st_judge_stands) l4 c4 k4
  have b4 := F4.binds (ps := ["names", "attacks", "told"]) fun _ _ _ _ _ _ us hl => match us, hl with | [_, _, _], _ => rfl
  have F5 := fun_mk (st := st__law_next) l5 c5 k5
  have b5 := F5.binds (ps := ["state", "limit"]) fun _ _ _ _ _ _ us hl => match us, hl with | [_, _], _ => rfl
  have F6 := fun_mk (st := st__law_swapped) l6 c6 k6
  have b6 := F6.binds (ps := ["state", "rows"]) fun _ _ _ _ _ _ us hl => match us, hl with | [_, _], _ => rfl
  have F7 := fun_mk (st := st__law_labels) l7 c7 k7
  have b7 := F7.binds (ps := ["names", "attacks"]) fun _ _ _ _ _ _ us hl => match us, hl with | [_, _], _ => rfl
  have F8 := fun_mk (st := st__law_chain) l8 c8 k8
  have b8 := F8.binds (ps := ["start", "count"]) fun _ _ _ _ _ _ us hl => match us, hl with | [_, _], _ => rfl
  have F9 := fun_mk (st := st__law_known_chain) l9 c9 k9
  have b9 := F9.binds (ps := ["start", "count"]) fun _ _ _ _ _ _ us hl => match us, hl with | [_, _], _ => rfl
  have F10 := fun_mk (st := st_law) l10 c10 k10
  have m_bool : mg "bool" = none := PySem.W.mg_none_of X G z_bool
  have m_dict : mg "dict" = none := PySem.W.mg_none_of X G z_dict
  have m_int : mg "int" = none := PySem.W.mg_none_of X G z_int
  have m_isinstance : mg "isinstance" = none := PySem.W.mg_none_of X G z_isinstance
  have m_len : mg "len" = none := PySem.W.mg_none_of X G z_len
  have m_list : mg "list" = none := PySem.W.mg_none_of X G z_list
  have m_range : mg "range" = none := PySem.W.mg_none_of X G z_range
  have m_set : mg "set" = none := PySem.W.mg_none_of X G z_set
  have m_sorted : mg "sorted" = none := PySem.W.mg_none_of X G z_sorted
  have m_str : mg "str" = none := PySem.W.mg_none_of X G z_str
  have m_tuple : mg "tuple" = none := PySem.W.mg_none_of X G z_tuple
  have k_LABELS : KgM K mg "LABELS" c_LABELS := ⟨.ref p_LABELS, .ref p_LABELS, PySem.W.mg_of X G ka_LABELS, rfl, fun H => ⟨p_LABELS, [.str s_stands, .str s_falls, .str s_open], rfl, .inr ⟨_, _, _, kl_LABELS, rfl, rfl, (show (3 : Nat) ≤ sizeLine by rw [sizeLine_eq]; decide), .cons ⟨t_LABELS0, by rw [← s_stands_eq]⟩ (.cons ⟨t_LABELS1, by rw [← s_falls_eq]⟩ (.cons ⟨t_LABELS2, by rw [← s_open_eq]⟩ (.nil)))⟩, ⟨_, _, rfl, rfl, ⟨_, _, rfl, rfl, ⟨_, _, rfl, rfl, rfl⟩⟩⟩⟩⟩
  refine ⟨PySem.W.fnOf "law" "law" (defArgs st_law) (defBody st_law) (defScope st_law) .none kV10 dc10 pm10 an10 cd10 ct10, fun s v => .of_eq rfl, fun base _ _ => ?_⟩
  have h_attackers : Fn l.prog w K mg base 1 "attackers" false 2 attackers_F := ⟨f1, _, _, ok_attackers F1 m_set m_sorted, PySem.W.mg_of X G a1, F1.kp, b1⟩
  have h_stands : Fn l.prog w K mg base 2 "stands" false 2 stands_F := ⟨f2, _, _, ok_stands F2 h_attackers m_len m_sorted m_tuple, PySem.W.mg_of X G a2, F2.kp, b2⟩
  have h_is_settled : Fn l.prog w K mg base 1 "is_settled" false 3 is_settled_F := ⟨f3, _, _, ok_is_settled F3, PySem.W.mg_of X G a3, F3.kp, b3⟩
  have h_judge_stands : Fn l.prog w K mg base 2 "judge_stands" false 3 judge_stands_F := ⟨f4, _, _, ok_judge_stands F4 h_is_settled h_attackers k_LABELS m_bool m_int m_isinstance m_len m_sorted m_tuple, PySem.W.mg_of X G a4, F4.kp, b4⟩
  have h__law_next : Fn l.prog w K mg base 1 "_law_next" true 2 _law_next_F := ⟨f5, _, _, ok__law_next F5 m_int m_len, PySem.W.mg_of X G a5, F5.kp, b5⟩
  have h__law_swapped : Fn l.prog w K mg base 2 "_law_swapped" true 2 _law_swapped_F := ⟨f6, _, _, ok__law_swapped F6 h__law_next m_len m_list, PySem.W.mg_of X G a6, F6.kp, b6⟩
  have h__law_labels : Fn l.prog w K mg base 1 "_law_labels" false 2 _law_labels_F := ⟨f7, _, _, ok__law_labels F7 m_sorted m_tuple, PySem.W.mg_of X G a7, F7.kp, b7⟩
  have h__law_chain : Fn l.prog w K mg base 1 "_law_chain" false 2 _law_chain_F := ⟨f8, _, _, ok__law_chain F8 m_range m_str, PySem.W.mg_of X G a8, F8.kp, b8⟩
  have h__law_known_chain : Fn l.prog w K mg base 1 "_law_known_chain" false 2 _law_known_chain_F := ⟨f9, _, _, ok__law_known_chain F9 m_range m_str, PySem.W.mg_of X G a9, F9.kp, b9⟩
  exact ok_law F10 h__law_next h__law_chain h_stands h__law_swapped h__law_known_chain h__law_labels h_judge_stands m_dict m_len m_list m_range
end K13
open PySem PySem.W PyProof.Rows
set_option maxHeartbeats 0 in
theorem PySem.Challenge.cw_chiplore_k13_attacks_along_chains_and_ri_holds : PySem.Challenge.rw_chiplore_k13_attacks_along_chains_and_ri.Holds := by
  w_on; o_law; k_head; (case hw => w_witness2)
  k_fill
  refine L2.walk_of (l := PySem.Challenge.rw_chiplore_k13_attacks_along_chains_and_ri) (n := 63) (k := 3) (x := "script") (CX := fun _ => L2.CX0) (sp := fun w => PD.spF _ false 1 K13.law_F) rfl (by decide) rfl ⟨rfl, by decide, by decide⟩ (fun w h Y => PySem.W.kIn_of Y) ?F (fun _ _ a ns hl _ hS => PD.law_end hS (K13.law_true ns hl) (fun v H' B z => z)) (fun _ _ _ _ _ h => h)
  case F =>
    intro w mg fa h KX G hmg
    refine' K13.all_mk KX G hmg ?a1 ?l1 ?c1 ?k1 ?a2 ?l2 ?c2 ?k2 ?a3 ?l3 ?c3 ?k3 ?a4 ?l4 ?c4 ?k4 ?a5 ?l5 ?c5 ?k5 ?a6 ?l6 ?c6 ?k6 ?a7 ?l7 ?c7 ?k7 ?a8 ?l8 ?c8 ?k8 ?a9 ?l9 ?c9 ?k9 ?a10 ?l10 ?c10 ?k10 ?z_bool ?z_dict ?z_int ?z_isinstance ?z_len ?z_list ?z_range ?z_set ?z_sorted ?z_str ?z_tuple ?ka_LABELS ?kl_LABELS
    (case a1 => k_is); (case l1 => k_is); (case c1 => k_is); (case k1 => k_is); (case a2 => k_is); (case l2 => k_is); (case c2 => k_is); (case k2 => k_is); (case a3 => k_is); (case l3 => k_is); (case c3 => k_is); (case k3 => k_is); (case a4 => k_is); (case l4 => k_is); (case c4 => k_is); (case k4 => k_is); (case a5 => k_is); (case l5 => k_is); (case c5 => k_is); (case k5 => k_is); (case a6 => k_is); (case l6 => k_is); (case c6 => k_is); (case k6 => k_is); (case a7 => k_is); (case l7 => k_is); (case c7 => k_is); (case k7 => k_is); (case a8 => k_is); (case l8 => k_is); (case c8 => k_is); (case k8 => k_is); (case a9 => k_is); (case l9 => k_is); (case c9 => k_is); (case k9 => k_is); (case a10 => k_is); (case l10 => k_is); (case c10 => k_is); (case k10 => k_is); (case z_bool => k_is); (case z_dict => k_is); (case z_int => k_is); (case z_isinstance => k_is); (case z_len => k_is); (case z_list => k_is); (case z_range => k_is); (case z_set => k_is); (case z_sorted => k_is); (case z_str => k_is); (case z_tuple => k_is); (case ka_LABELS => k_is); (case kl_LABELS => k_is)
